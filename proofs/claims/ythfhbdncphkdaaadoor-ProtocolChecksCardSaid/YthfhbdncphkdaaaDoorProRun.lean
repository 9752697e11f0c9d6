/- Steps and runs of a protocol: the program's and the reference's; what 'awake' comes to. -/
import Derived.Test.YthfhbdncphkdaaaDoorProStep
import Derived.Test.YthfhbdncphkdaaaDoorHd
import Derived.Test.YthfhbdncphkdaaaDoorHe
import Derived.Test.YthfhbdncphkdaaaDoorHf28
import Derived.Test.YthfhbdncphkdaaaDoorHf24
namespace Go.Proofs.YthfhbdncphkdaaaDoor.H
open Go.RowKit Go.Proofs.YthfhbdncphkdaaaDoorW.PrintWords
set_option linter.unusedVariables false
set_option linter.unusedSimpArgs false

theorem awake39 : Ev (fun k => dataflowlaw39_awake.f k) true := Ev.of (k := 100) (fun k => dataflowlaw39_awake.mono k) (by kernel_rfl)
theorem checkF_zero {c : ByteArray} {ss : List ByteArray} {st er : Int} {ms : List S64} (h : checkF c ss st er ms = 0) :
    identS c = true ∧ ss.length ≤ 16 ∧ ms.length ≤ 256 ∧ 0 < ss.length ∧ stF ss ss 0 = 0 ∧ (0 ≤ st ∧ st < (ss.length : Int) ∧ 0 ≤ er ∧ er < (ss.length : Int)) ∧ st ≠ er ∧ mvF ss.length er none ms = 0 := by
  unfold checkF at h
  by_cases h1 : identS c = true
  · rw [if_pos h1] at h
    by_cases h2 : ss.length > 16 ∨ ms.length > 256
    · rw [if_pos h2] at h; omega
    · rw [if_neg h2] at h
      by_cases h3 : ss.length = 0
      · rw [if_pos h3] at h; omega
      · rw [if_neg h3] at h
        by_cases h4 : stF ss ss 0 = 0
        · rw [if_pos h4] at h
          by_cases h5 : 0 ≤ st ∧ st < (ss.length : Int) ∧ 0 ≤ er ∧ er < (ss.length : Int)
          · rw [if_pos h5] at h
            by_cases h6 : st = er
            · rw [if_pos h6] at h; omega
            · rw [if_neg h6] at h; exact ⟨h1, by omega, by omega, by omega, h4, h5, h6, h⟩
          · rw [if_neg h5] at h; omega
        · rw [if_neg h4] at h; exact absurd h h4
  · rw [if_neg h1] at h; omega
theorem stepL_range (n : Int) (m : ByteArray) : ∀ (l : List S64) (q : Int), (∀ x ∈ l, 0 ≤ x.f2 ∧ x.f2 < n) → 0 ≤ q → q < n → 0 ≤ stepL l q m ∧ stepL l q m < n := by
  intro l
  induction l with
  | nil => intro q _ h1 h2; exact ⟨h1, h2⟩
  | cons x r ih =>
    intro q h h1 h2
    unfold stepL
    split
    · exact h x List.mem_cons_self
    · exact ih q (fun y hy => h y (List.mem_cons_of_mem _ hy)) h1 h2
def stepF (c : ByteArray) (ss : List ByteArray) (st er : Int) (ms : List S64) (q : Int) (m : ByteArray) : Int := if checkF c ss st er ms = 0 ∧ 0 ≤ q ∧ q < (ss.length : Int) then stepL ms q m else -1
theorem lStep_ev (c : ByteArray) (ss : List ByteArray) (st er : Int) (ms : List S64) (hg : GoodP c ss ms) (q : Int) (m : ByteArray) : Ev (fun k => protocol_Step.f k c ss st er ms q m) (stepF c ss st er ms q m) := by
  refine Ev.congr (f := fun k => (protocol_Check.f k c ss st er ms).bind fun t => (if t = 0 then ((protocol_in.f c ss st er ms q).bind fun t2 => (if t2 = true then ((protocol_step.f k c ss st er ms q m).bind fun t3 => (some t3)) else (some (-1)))) else (some (-1)))) (fun k => rfl) (Ev.bind (lcheck_ev c ss st er ms hg) ?_)
  unfold stepF
  by_cases h : checkF c ss st er ms = 0
  · obtain ⟨_, _, l2, _, _, _, _, hmv⟩ := checkF_zero h
    by_cases hq : 0 ≤ q ∧ q < (ss.length : Int)
    · rw [if_pos ⟨h, hq⟩]
      exact Ev.congr (fun k => by rw [if_pos h, in_eq, Option.bind_some, if_pos (decide_eq_true hq)]) (Ev.bind (lstep_ev c ss st er ms (by omega) (mvF_zero _ _ _ _ hmv).2.1 q m) (Ev.now _))
    · rw [if_neg (fun x => hq x.2)]
      exact Ev.congr (fun k => by rw [if_pos h, in_eq, Option.bind_some, if_neg (by simpa using hq)]) (Ev.now _)
  · rw [if_neg (fun x => h x.1)]
    exact Ev.congr (fun k => by rw [if_neg h]) (Ev.now _)
theorem rStep_ev (c : ByteArray) (ss : List ByteArray) (st er : Int) (ms : List S64) (hg : GoodP c ss ms) (q : Int) (m : ByteArray) : Ev (fun k => dataflowref39_Step.f k c ss st er ms q m) (stepF c ss st er ms q m) := by
  have hj : ∀ b : Bool, ms.length ≤ 256 ∨ b = true → Ev (fun k => dataflowref39_Step.j0 k q m b c ss st er ms) (if b = true then -1 else stepL ms q m) := by
    intro b hb
    cases b with
    | true => exact Ev.step (f := fun _ => some (-1)) (fun k => by simp only [dataflowref39_Step.j0]; rw [if_pos trivial]) (Ev.now _)
    | false =>
      have hl : ms.length ≤ 256 := hb.resolve_right (by simp)
      exact Ev.step (f := fun k => dataflowref39_Step.l0 k q m ((0 : Nat) : Int) c ss st er ms) (fun k => by simp only [dataflowref39_Step.j0]; rw [if_neg (by simp)]; rfl) (rstep_l c ss st er ms (by omega) q m ms 0 rfl)
  refine Ev.congr (f := fun k => (dataflowref39_Check.f k c ss st er ms).bind fun t => (if t = 0 then (if q < 0 then (dataflowref39_Step.j0 k q m true c ss st er ms) else (dataflowref39_Step.j0 k q m (decide (q ≥ (ss.length : Int))) c ss st er ms)) else (dataflowref39_Step.j0 k q m true c ss st er ms))) (fun k => rfl) (Ev.bind (rcheck_ev c ss st er ms hg) ?_)
  have ht := hj true (.inr rfl)
  simp only [if_true] at ht
  unfold stepF
  by_cases h : checkF c ss st er ms = 0
  · obtain ⟨_, _, l2, _, _, _, _, hmv⟩ := checkF_zero h
    by_cases h1 : q < 0
    · rw [if_neg (fun x => by omega)]; exact Ev.congr (fun k => by rw [if_pos h, if_pos h1]) ht
    · refine Ev.congr (f := fun k => dataflowref39_Step.j0 k q m (decide (q ≥ (ss.length : Int))) c ss st er ms) (fun k => by rw [if_pos h, if_neg h1]) ?_
      have hf := hj (decide (q ≥ (ss.length : Int))) (.inl l2)
      by_cases h2 : q ≥ (ss.length : Int)
      · rw [if_neg (fun x => by omega)]; rw [decide_eq_true h2] at hf ⊢; simpa using hf
      · rw [if_pos ⟨h, by omega, by omega⟩]; rw [decide_eq_false h2] at hf ⊢; simpa using hf
  · rw [if_neg (fun x => h x.1)]
    exact Ev.congr (fun k => by rw [if_neg h]) ht
def runL (ms : List S64) : Int → List ByteArray → Int
  | q, [] => q
  | q, m :: r => runL ms (stepL ms q m) r
def runF (c : ByteArray) (ss : List ByteArray) (st er : Int) (ms : List S64) (xs : List ByteArray) : Int := if checkF c ss st er ms = 0 then runL ms st xs else -1
theorem lrun_l (c : ByteArray) (ss : List ByteArray) (st er : Int) (ms : List S64) (hL : ms.length ≤ 1000000) (ha : Asc ms) (xs : List ByteArray) (hx : xs.length ≤ 1000000) : ∀ (l : List ByteArray) (i : Nat) (q : Int), xs.drop i = l → Ev (fun k => protocol_Run.l0 k q xs xs.length i c ss st er ms) (runL ms q l) := by
  intro l
  induction l with
  | nil =>
    intro i q h
    have := drop_end xs i h
    refine Ev.step (f := fun _ => some q) (fun k => ?_) (Ev.now _)
    simp only [protocol_Run.l0]; rw [if_neg (by omega)]
  | cons m r ih =>
    intro i q h
    obtain ⟨h1, h2, h3⟩ := rdS_drop xs i m r h
    refine Ev.step (f := fun k => (protocol_step.f k c ss st er ms q m).bind fun t => protocol_Run.l0 k t xs xs.length ((i + 1 : Nat) : Int) c ss st er ms) (fun k => ?_) (Ev.bind (lstep_ev c ss st er ms hL ha q m) (ih (i + 1) _ h3))
    simp only [protocol_Run.l0]; rw [if_pos (by omega), if_pos (by omega), if_pos (by omega), h1, w64 (by omega) (by omega)]; rfl
theorem lRun_ev (c : ByteArray) (ss : List ByteArray) (st er : Int) (ms : List S64) (hg : GoodP c ss ms) (xs : List ByteArray) (hx : xs.length ≤ 1000000) : Ev (fun k => protocol_Run.f k c ss st er ms xs) (runF c ss st er ms xs) := by
  refine Ev.congr (f := fun k => (protocol_Check.f k c ss st er ms).bind fun t => (if t = 0 then (protocol_Run.l0 k st xs xs.length ((0 : Nat) : Int) c ss st er ms) else (some (-1)))) (fun k => rfl) (Ev.bind (lcheck_ev c ss st er ms hg) ?_)
  unfold runF
  by_cases h : checkF c ss st er ms = 0
  · obtain ⟨_, _, l2, _, _, _, _, hmv⟩ := checkF_zero h
    rw [if_pos h]
    exact Ev.congr (fun k => by rw [if_pos h]) (lrun_l c ss st er ms (by omega) (mvF_zero _ _ _ _ hmv).2.1 xs hx xs 0 st rfl)
  · rw [if_neg h]
    exact Ev.congr (fun k => by rw [if_neg h]) (Ev.now _)
theorem rrun_l (c : ByteArray) (ss : List ByteArray) (st er : Int) (ms : List S64) (hg : GoodP c ss ms) (h0 : checkF c ss st er ms = 0) (hm : ∀ x ∈ ms, 0 ≤ x.f2 ∧ x.f2 < (ss.length : Int)) (xs : List ByteArray) (hx : xs.length ≤ 1000000) : ∀ (l : List ByteArray) (i : Nat) (q : Int), xs.drop i = l → 0 ≤ q → q < (ss.length : Int) → Ev (fun k => dataflowref39_Run.l0 k xs q i c ss st er ms) (runL ms q l) := by
  intro l
  induction l with
  | nil =>
    intro i q h _ _
    have := drop_end xs i h
    refine Ev.step (f := fun _ => some q) (fun k => ?_) (Ev.now _)
    simp only [dataflowref39_Run.l0]; rw [if_neg (by omega)]
  | cons m r ih =>
    intro i q h q0 q1
    obtain ⟨h1, h2, h3⟩ := rdS_drop xs i m r h
    have hs := rStep_ev c ss st er ms hg q m
    unfold stepF at hs
    rw [if_pos ⟨h0, q0, q1⟩] at hs
    obtain ⟨r0, r1⟩ := stepL_range ss.length m ms q hm q0 q1
    refine Ev.step (f := fun k => (dataflowref39_Step.f k c ss st er ms q m).bind fun t => dataflowref39_Run.l0 k xs t ((i + 1 : Nat) : Int) c ss st er ms) (fun k => ?_) (Ev.bind hs (ih (i + 1) _ h3 r0 r1))
    simp only [dataflowref39_Run.l0]; rw [if_pos (by omega), if_pos (by omega), h1, w64 (by omega) (by omega)]; rfl
theorem rRun_ev (c : ByteArray) (ss : List ByteArray) (st er : Int) (ms : List S64) (hg : GoodP c ss ms) (xs : List ByteArray) (hx : xs.length ≤ 1000000) : Ev (fun k => dataflowref39_Run.f k c ss st er ms xs) (runF c ss st er ms xs) := by
  refine Ev.congr (f := fun k => (dataflowref39_Check.f k c ss st er ms).bind fun t => (if t = 0 then (dataflowref39_Run.l0 k xs st ((0 : Nat) : Int) c ss st er ms) else (some (-1)))) (fun k => rfl) (Ev.bind (rcheck_ev c ss st er ms hg) ?_)
  unfold runF
  by_cases h : checkF c ss st er ms = 0
  · obtain ⟨_, _, l2, _, _, hr, _, hmv⟩ := checkF_zero h
    have hm := (mvF_zero _ _ _ _ hmv).1
    rw [if_pos h]
    exact Ev.congr (fun k => by rw [if_pos h]) (rrun_l c ss st er ms hg h (fun x hx => ⟨(hm x hx).2.2.1, (hm x hx).2.2.2.1⟩) xs hx xs 0 st rfl hr.1 hr.2.1)
  · rw [if_neg h]
    exact Ev.congr (fun k => by rw [if_neg h]) (Ev.now _)
end Go.Proofs.YthfhbdncphkdaaaDoor.H

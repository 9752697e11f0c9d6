/- The states that can fail: the program's search and the reference's end at the same. -/
import Derived.Test.YthfhbdncphkdaaaDoorProRun
import Derived.Test.YthfhbdncphkdaaaDoorHf31
import Derived.Test.YthfhbdncphkdaaaDoorHf32
namespace Go.Proofs.YthfhbdncphkdaaaDoor.H
open Go.RowKit Go.Proofs.YthfhbdncphkdaaaDoorW.PrintWords
set_option linter.unusedVariables false
set_option linter.unusedSimpArgs false

def pass1 (d : List Bool) (m : S64) : List Bool := if rdOf false d m.f2 = true then d.set m.f0.toNat true else d
def passF : List S64 → List Bool → List Bool
  | [], d => d
  | m :: r, d => passF r (pass1 d m)
def passN (ms : List S64) : Nat → List Bool → List Bool
  | 0, d => d
  | n + 1, d => passN ms n (passF ms d)
def cntF (d : List Bool) : Nat := d.count false
theorem rdB (d : List Bool) (i : Int) (h0 : 0 ≤ i) (h1 : i < (d.length : Int)) : rdOf false d i = d[i.toNat]'(by omega) := by
  unfold rdOf
  rw [List.getD_eq_getElem?_getD, List.getElem?_eq_getElem (by omega)]; rfl
theorem set_same (d : List Bool) (i : Nat) (h : i < d.length) (ht : d[i] = true) : d.set i true = d := by
  have := List.set_getElem_self h
  rw [ht] at this
  exact this
theorem cnt_set (d : List Bool) : ∀ (i : Nat) (h : i < d.length), d[i] = false → cntF (d.set i true) + 1 = cntF d := by
  unfold cntF
  induction d with
  | nil => intro i h; exact absurd h (Nat.not_lt_zero _)
  | cons b r ih =>
    intro i h hf
    cases i with
    | zero =>
      have hb : b = false := hf
      subst hb
      simp
    | succ i =>
      have := ih i (by simpa using h) hf
      rw [List.set_cons_succ, List.count_cons, List.count_cons]
      omega
theorem pass1_len (d : List Bool) (m : S64) : (pass1 d m).length = d.length := by unfold pass1; split <;> simp
theorem passF_len : ∀ (l : List S64) (d : List Bool), (passF l d).length = d.length := by
  intro l
  induction l with
  | nil => intro d; rfl
  | cons m r ih => intro d; unfold passF; rw [ih, pass1_len]
/-- All moves lead from a state to a state. -/
def InM (n : Nat) (l : List S64) : Prop := ∀ x ∈ l, 0 ≤ x.f0 ∧ x.f0 < (n : Int) ∧ 0 ≤ x.f2 ∧ x.f2 < (n : Int)
theorem pass_fix (ms : List S64) (d : List Bool) (h : passF ms d = d) : ∀ n, passN ms n d = d := by
  intro n
  induction n with
  | zero => rfl
  | succ n ih => unfold passN; rw [h]; exact ih
/-- The program's pass over the moves. -/
theorem lpass_l (c : ByteArray) (ss : List ByteArray) (st er : Int) (ms : List S64) (hL : ms.length ≤ 1000) (r : List Int) : ∀ (l : List S64) (i : Nat) (d : List Bool) (a : Bool), ms.drop i = l → InM d.length l →
    (∀ a', (a' = false → a = false ∧ passF l d = d) → (a' = true → a = true ∨ cntF (passF l d) < cntF d) → cntF (passF l d) ≤ cntF d → Ev (fun k => protocol_Doomed.l0 k (passF l d) a' c ss st er ms) r) → Ev (fun k => protocol_Doomed.l1 k d a ms ms.length i c ss st er ms) r := by
  intro l
  induction l with
  | nil =>
    intro i d a h _ hr
    have := drop_end ms i h
    refine Ev.step (fun k => ?_) (hr a (fun h => ⟨h, rfl⟩) (fun h => .inl h) (Nat.le_refl _))
    simp only [protocol_Doomed.l1]; rw [if_neg (by omega)]; rfl
  | cons m rest ih =>
    intro i d a h hin hr
    obtain ⟨h1, h2, h3⟩ := rdM_drop ms i m rest h
    obtain ⟨m0, m1, m2, m3⟩ := hin m List.mem_cons_self
    have w2 : wrap64 ((i : Int) + 1) = ((i + 1 : Nat) : Int) := by rw [w64 (by omega) (by omega)]; rfl
    have hin' : ∀ d' : List Bool, d'.length = d.length → InM d'.length rest := fun d' e x hx => by rw [e]; exact hin x (List.mem_cons_of_mem _ hx)
    by_cases ct : rdOf false d m.f2 = true
    · by_cases cf : rdOf false d m.f0 = true
      · have hp : pass1 d m = d := by unfold pass1; rw [if_pos ct]; rw [rdB d m.f0 m0 m1] at cf; exact set_same d _ _ cf
        refine Ev.step (fun k => ?_) (ih (i + 1) d a h3 (hin' d rfl) (fun a' x y z => ?_))
        · simp only [protocol_Doomed.l1]
          rw [if_pos (by omega), if_pos (by omega), if_pos (by omega), h1, if_pos m2, if_pos m3, if_pos ct, if_pos m0, if_pos m1, if_pos cf, w2]
        · have := hr a'
          unfold passF at this
          rw [hp] at this
          exact this x y z
      · have hf : d[m.f0.toNat]'(by omega) = false := by rw [← rdB d m.f0 m0 m1]; simpa using cf
        have hp : pass1 d m = d.set m.f0.toNat true := by unfold pass1; rw [if_pos ct]
        have hc := cnt_set d m.f0.toNat (by omega) hf
        refine Ev.step (fun k => ?_) (ih (i + 1) (d.set m.f0.toNat true) true h3 (hin' _ (by simp)) (fun a' x y z => ?_))
        · simp only [protocol_Doomed.l1]
          rw [if_pos (by omega), if_pos (by omega), if_pos (by omega), h1, if_pos m2, if_pos m3, if_pos ct, if_pos m0, if_pos m1, if_neg cf, w2]
        · have := hr a'
          unfold passF at this
          rw [hp] at this
          refine this (fun e => ?_) (fun _ => .inr (by omega)) (by omega)
          have := (x e).1; cases this
    · have hp : pass1 d m = d := by unfold pass1; rw [if_neg ct]
      refine Ev.step (fun k => ?_) (ih (i + 1) d a h3 (hin' d rfl) (fun a' x y z => ?_))
      · simp only [protocol_Doomed.l1]
        rw [if_pos (by omega), if_pos (by omega), if_pos (by omega), h1, if_pos m2, if_pos m3, if_neg ct, w2]
      · have := hr a'
        unfold passF at this
        rw [hp] at this
        exact this x y z
/-- The numbers of the places that are true. -/
def collF : List Bool → Nat → List Int → List Int
  | [], _, acc => acc
  | b :: r, i, acc => collF r (i + 1) (if b = true then acc ++ [(i : Int)] else acc)
theorem rdB_drop (d : List Bool) (i : Nat) (b : Bool) (r : List Bool) (h : d.drop i = b :: r) : rdOf false d (i : Int) = b ∧ i < d.length ∧ d.drop (i + 1) = r := by
  have hlt : i < d.length := by
    by_cases c : i < d.length
    · exact c
    · rw [List.drop_of_length_le (by omega)] at h; cases h
  rw [List.drop_eq_getElem_cons hlt] at h
  injection h with h1 h2
  refine ⟨?_, hlt, h2⟩
  unfold rdOf
  rw [Int.toNat_natCast, List.getD_eq_getElem?_getD, List.getElem?_eq_getElem hlt, h1]; rfl
theorem lcoll_l (d : List Bool) (hL : d.length ≤ 1000) : ∀ (l : List Bool) (i : Nat) (acc : List Int), d.drop i = l → acc.length ≤ i → Ev (fun k => protocol_Doomed.l2 k acc d d.length i) (collF l i acc) := by
  intro l
  induction l with
  | nil =>
    intro i acc h _
    have := drop_end d i h
    refine Ev.step (f := fun _ => some acc) (fun k => ?_) (Ev.now _)
    simp only [protocol_Doomed.l2]; rw [if_neg (by omega)]
  | cons b r ih =>
    intro i acc h ha
    obtain ⟨h1, h2, h3⟩ := rdB_drop d i b r h
    have w2 : wrap64 ((i : Int) + 1) = ((i + 1 : Nat) : Int) := by rw [w64 (by omega) (by omega)]; rfl
    unfold collF
    cases b with
    | true =>
      rw [if_pos rfl]
      refine Ev.step (fun k => ?_) (ih (i + 1) (acc ++ [(i : Int)]) h3 (by simp; omega))
      simp only [protocol_Doomed.l2]; rw [if_pos (by omega), if_pos (by omega), if_pos (by omega), h1, if_pos rfl, if_pos (by omega), w2]
    | false =>
      rw [if_neg (by simp)]
      refine Ev.step (fun k => ?_) (ih (i + 1) acc h3 (by omega))
      simp only [protocol_Doomed.l2]; rw [if_pos (by omega), if_pos (by omega), if_pos (by omega), h1, if_neg (by simp), w2]
theorem rcoll_l (d : List Bool) (hL : d.length ≤ 1000) : ∀ (l : List Bool) (i : Nat) (acc : List Int), d.drop i = l → acc.length ≤ i → Ev (fun k => dataflowref39_Doomed.l2 k acc d i) (collF l i acc) := by
  intro l
  induction l with
  | nil =>
    intro i acc h _
    have := drop_end d i h
    refine Ev.step (f := fun _ => some acc) (fun k => ?_) (Ev.now _)
    simp only [dataflowref39_Doomed.l2]; rw [if_neg (by omega)]
  | cons b r ih =>
    intro i acc h ha
    obtain ⟨h1, h2, h3⟩ := rdB_drop d i b r h
    have w2 : wrap64 ((i : Int) + 1) = ((i + 1 : Nat) : Int) := by rw [w64 (by omega) (by omega)]; rfl
    unfold collF
    cases b with
    | true =>
      rw [if_pos rfl]
      refine Ev.step (fun k => ?_) (ih (i + 1) (acc ++ [(i : Int)]) h3 (by simp; omega))
      simp only [dataflowref39_Doomed.l2]; rw [if_pos (by omega), if_pos (by omega), h1, if_pos rfl, if_pos (by omega), w2]
    | false =>
      rw [if_neg (by simp)]
      refine Ev.step (fun k => ?_) (ih (i + 1) acc h3 (by omega))
      simp only [dataflowref39_Doomed.l2]; rw [if_pos (by omega), if_pos (by omega), h1, if_neg (by simp), w2]
theorem ldoom_l (c : ByteArray) (ss : List ByteArray) (st er : Int) (ms : List S64) (hL : ms.length ≤ 1000) : ∀ (z : Nat) (d : List Bool) (n : Nat), cntF d ≤ z → cntF d ≤ n → d.length ≤ 1000 → InM d.length ms → Ev (fun k => protocol_Doomed.l0 k d true c ss st er ms) (collF (passN ms n d) 0 []) := by
  have hfin : ∀ d : List Bool, d.length ≤ 1000 → Ev (fun k => protocol_Doomed.l0 k d false c ss st er ms) (collF d 0 []) := fun d hd => Ev.step (f := fun k => protocol_Doomed.l2 k [] d d.length ((0 : Nat) : Int)) (fun k => by simp only [protocol_Doomed.l0]; rw [if_neg (by simp)]; rfl) (lcoll_l d hd d 0 [] rfl (Nat.le_refl _))
  have hround : ∀ (d : List Bool) (r : List Int), InM d.length ms → (∀ a', (a' = false → passF ms d = d) → (a' = true → cntF (passF ms d) < cntF d) → Ev (fun k => protocol_Doomed.l0 k (passF ms d) a' c ss st er ms) r) → Ev (fun k => protocol_Doomed.l0 k d true c ss st er ms) r := by
    intro d r hin hr
    refine Ev.step (f := fun k => protocol_Doomed.l1 k d false ms ms.length ((0 : Nat) : Int) c ss st er ms) (fun k => by simp only [protocol_Doomed.l0]; rw [if_pos trivial]; rfl) (lpass_l c ss st er ms hL r ms 0 d false rfl hin (fun a' x y _ => hr a' (fun e => (x e).2) (fun e => (y e).resolve_left (by simp))))
  intro z
  induction z with
  | zero =>
    intro d n h1 h2 h3 h4
    refine hround d _ h4 (fun a' x y => ?_)
    cases a' with
    | true => have := y rfl; omega
    | false =>
      have e := x rfl
      rw [e, pass_fix ms d e n]
      exact hfin d h3
  | succ z ih =>
    intro d n h1 h2 h3 h4
    refine hround d _ h4 (fun a' x y => ?_)
    cases a' with
    | true =>
      have hlt := y rfl
      cases n with
      | zero => omega
      | succ n =>
        unfold passN
        exact ih (passF ms d) n (by omega) (by omega) (by rw [passF_len]; exact h3) (by rw [passF_len]; exact h4)
    | false =>
      have e := x rfl
      rw [e, pass_fix ms d e n]
      exact hfin d h3
/-- The reference's pass. -/
theorem rpass_l (c : ByteArray) (ss : List ByteArray) (st er : Int) (ms : List S64) (hL : ms.length ≤ 1000) (j : Int) (r : List Int) : ∀ (l : List S64) (i : Nat) (d : List Bool), ms.drop i = l → InM d.length l →
    Ev (fun k => dataflowref39_Doomed.l0 k (passF l d) (wrap64 (j + 1)) c ss st er ms) r → Ev (fun k => dataflowref39_Doomed.l1 k d j i c ss st er ms) r := by
  intro l
  induction l with
  | nil =>
    intro i d h _ hr
    have := drop_end ms i h
    refine Ev.step (fun k => ?_) hr
    simp only [dataflowref39_Doomed.l1]; rw [if_neg (by omega)]; rfl
  | cons m rest ih =>
    intro i d h hin hr
    obtain ⟨h1, h2, h3⟩ := rdM_drop ms i m rest h
    obtain ⟨m0, m1, m2, m3⟩ := hin m List.mem_cons_self
    have w2 : wrap64 ((i : Int) + 1) = ((i + 1 : Nat) : Int) := by rw [w64 (by omega) (by omega)]; rfl
    unfold passF at hr
    have hn := ih (i + 1) (pass1 d m) h3 (fun x hx => by rw [pass1_len]; exact hin x (List.mem_cons_of_mem _ hx)) hr
    by_cases ct : rdOf false d m.f2 = true
    · have hp : pass1 d m = d.set m.f0.toNat true := by unfold pass1; rw [if_pos ct]
      rw [hp] at hn
      refine Ev.step (fun k => ?_) hn
      simp only [dataflowref39_Doomed.l1]
      rw [if_pos (by omega), if_pos (by omega), h1, if_pos m2, if_pos m3, if_pos ct, if_pos m0, if_pos m1, w2]
    · have hp : pass1 d m = d := by unfold pass1; rw [if_neg ct]
      rw [hp] at hn
      refine Ev.step (fun k => ?_) hn
      simp only [dataflowref39_Doomed.l1]
      rw [if_pos (by omega), if_pos (by omega), h1, if_pos m2, if_pos m3, if_neg ct, w2]
theorem rdoom_l (c : ByteArray) (ss : List ByteArray) (st er : Int) (ms : List S64) (hL : ms.length ≤ 1000) (hS : ss.length ≤ 1000) : ∀ (n j : Nat) (d : List Bool), ss.length - j = n → d.length ≤ 1000 → InM d.length ms → Ev (fun k => dataflowref39_Doomed.l0 k d j c ss st er ms) (collF (passN ms n d) 0 []) := by
  intro n
  induction n with
  | zero =>
    intro j d h h1 h2
    refine Ev.step (f := fun k => dataflowref39_Doomed.l2 k [] d ((0 : Nat) : Int)) (fun k => ?_) (rcoll_l d h1 d 0 [] rfl (Nat.le_refl _))
    simp only [dataflowref39_Doomed.l0]; rw [if_neg (by omega)]; rfl
  | succ n ih =>
    intro j d h h1 h2
    refine Ev.step (f := fun k => dataflowref39_Doomed.l1 k d j ((0 : Nat) : Int) c ss st er ms) (fun k => ?_) (rpass_l c ss st er ms hL j _ ms 0 d rfl h2 ?_)
    · simp only [dataflowref39_Doomed.l0]; rw [if_pos (by omega)]; rfl
    · unfold passN
      rw [w64 (by omega) (by omega)]
      exact ih (j + 1) (passF ms d) (by omega) (by rw [passF_len]; exact h1) (by rw [passF_len]; exact h2)
/-- The states that can fail. -/
def doomF (c : ByteArray) (ss : List ByteArray) (st er : Int) (ms : List S64) : List Int := if checkF c ss st er ms = 0 then collF (passN ms ss.length ((List.replicate ss.length false).set er.toNat true)) 0 [] else []
theorem doom_ready {c : ByteArray} {ss : List ByteArray} {st er : Int} {ms : List S64} (h : checkF c ss st er ms = 0) : InM ss.length ms := by
  obtain ⟨_, _, _, _, _, _, _, hmv⟩ := checkF_zero h
  intro x hx
  have := (mvF_zero _ _ _ _ hmv).1 x hx
  exact ⟨this.1, this.2.1, this.2.2.1, this.2.2.2.1⟩
theorem ldoom_ev (c : ByteArray) (ss : List ByteArray) (st er : Int) (ms : List S64) (hg : GoodP c ss ms) : Ev (fun k => protocol_Doomed.f k c ss st er ms) (doomF c ss st er ms) := by
  refine Ev.congr (f := fun k => (protocol_Check.f k c ss st er ms).bind fun t => (if t = 0 then (if 0 ≤ (ss.length : Int) then (if ((ss.length : Int) : Int).toNat ≤ 281474976710656 then ((some (List.replicate ((ss.length : Int) : Int).toNat false : List Bool)).bind fun y => (if 0 ≤ er then (if er < (y.length : Int) then (protocol_Doomed.l0 k (y.set (er : Int).toNat true) true c ss st er ms) else (none)) else (none))) else (none)) else (none)) else (some ([] : List Int)))) (fun k => rfl) (Ev.bind (lcheck_ev c ss st er ms hg) ?_)
  unfold doomF
  by_cases h : checkF c ss st er ms = 0
  · have hin := doom_ready h
    obtain ⟨_, l1, l2, _, _, hr, _, _⟩ := checkF_zero h
    rw [if_pos h]
    have hl : ((List.replicate ss.length false).set er.toNat true).length = ss.length := by simp
    refine Ev.congr (f := fun k => protocol_Doomed.l0 k ((List.replicate ss.length false).set er.toNat true) true c ss st er ms) (fun k => ?_) (ldoom_l c ss st er ms (by omega) _ _ ss.length (Nat.le_refl _) ?_ (by omega) (by rw [hl]; exact hin))
    · rw [if_pos h, if_pos (by omega), Int.toNat_natCast, if_pos (by omega), Option.bind_some, List.length_replicate, if_pos hr.2.2.1, if_pos hr.2.2.2]
    · unfold cntF
      have hc : ((List.replicate ss.length false).set er.toNat true).count false ≤ ((List.replicate ss.length false).set er.toNat true).length := List.count_le_length
      rw [hl] at hc
      exact hc
  · rw [if_neg h]
    exact Ev.congr (fun k => by rw [if_neg h]) (Ev.now _)
theorem rdoom_ev (c : ByteArray) (ss : List ByteArray) (st er : Int) (ms : List S64) (hg : GoodP c ss ms) : Ev (fun k => dataflowref39_Doomed.f k c ss st er ms) (doomF c ss st er ms) := by
  refine Ev.congr (f := fun k => (dataflowref39_Check.f k c ss st er ms).bind fun t => (if t = 0 then (if 0 ≤ (ss.length : Int) then (if ((ss.length : Int) : Int).toNat ≤ 281474976710656 then ((some (List.replicate ((ss.length : Int) : Int).toNat false : List Bool)).bind fun y => (if 0 ≤ er then (if er < (y.length : Int) then (dataflowref39_Doomed.l0 k (y.set (er : Int).toNat true) 0 c ss st er ms) else (none)) else (none))) else (none)) else (none)) else (some ([] : List Int)))) (fun k => rfl) (Ev.bind (rcheck_ev c ss st er ms hg) ?_)
  unfold doomF
  by_cases h : checkF c ss st er ms = 0
  · have hin := doom_ready h
    obtain ⟨_, l1, l2, _, _, hr, _, _⟩ := checkF_zero h
    rw [if_pos h]
    have hl : ((List.replicate ss.length false).set er.toNat true).length = ss.length := by simp
    refine Ev.congr (f := fun k => dataflowref39_Doomed.l0 k ((List.replicate ss.length false).set er.toNat true) ((0 : Nat) : Int) c ss st er ms) (fun k => ?_) (rdoom_l c ss st er ms (by omega) (by omega) ss.length 0 _ (by omega) (by omega) (by rw [hl]; exact hin))
    rw [if_pos h, if_pos (by omega), Int.toNat_natCast, if_pos (by omega), Option.bind_some, List.length_replicate, if_pos hr.2.2.1, if_pos hr.2.2.2]; rfl
  · rw [if_neg h]
    exact Ev.congr (fun k => by rw [if_neg h]) (Ev.now _)
end Go.Proofs.YthfhbdncphkdaaaDoor.H

/- For any valid protocol and methods, a run that is in Error stays there, and each state before it is one of Doomed: the pure statement of ProtocolAbsorbs. -/
import Derived.Test.YthfhbdncphkdaaaDoorWalkProtocolAbsorbs
import Derived.Test.YthfhbdncphkdaaaDoorProAbsorb
namespace Go.Proofs.YthfhbdncphkdaaaDoor.Pure
open Go.RowKit Go.Proofs.YthfhbdncphkdaaaDoorW.PrintWords Go.Proofs.YthfhbdncphkdaaaDoor.H
set_option linter.unusedVariables false
theorem rdI_drop (L : List Int) (i : Nat) (t : Int) (r : List Int) (h : L.drop i = t :: r) : rd L (i : Int) = t ∧ i < L.length ∧ L.drop (i + 1) = r := by
  have hlt : i < L.length := by
    by_cases c : i < L.length
    · exact c
    · rw [List.drop_of_length_le (by omega)] at h; cases h
  rw [List.drop_eq_getElem_cons hlt] at h
  injection h with h1 h2
  refine ⟨?_, hlt, h2⟩
  unfold rd
  rw [Int.toNat_natCast, List.getD_eq_getElem?_getD, List.getElem?_eq_getElem hlt, h1]; rfl
theorem collF_len' : ∀ (l : List Bool) (i : Nat) (acc : List Int), (collF l i acc).length ≤ acc.length + l.length := by
  intro l
  induction l with
  | nil => intro i acc; exact Nat.le_refl _
  | cons b r ih =>
    intro i acc
    unfold collF
    have := ih (i + 1) (if b = true then acc ++ [(i : Int)] else acc)
    have h2 : (if b = true then acc ++ [(i : Int)] else acc).length ≤ acc.length + 1 := by split <;> simp
    rw [List.length_cons]
    omega
theorem doomF_len' (c : ByteArray) (ss : List ByteArray) (st er : Int) (ms : List S64) : (doomF c ss st er ms).length ≤ ss.length := by
  unfold doomF
  split
  · have := collF_len' (passN ms ss.length ((List.replicate ss.length false).set er.toNat true)) 0 []
    rw [passN_len', List.length_set, List.length_replicate] at this
    simpa using this
  · simp
theorem in_l (c : ByteArray) (ss : List ByteArray) (st er : Int) (ms : List S64) (xs : List ByteArray) (last : Int) (dm : List Int) (hdm : dm.length ≤ 1000) (fl : Bool) (x8 s : Int) (r : Bool) (hr : Ev (fun k => dataflowlaw39_ProtocolAbsorbs.l0 k xs last dm fl (wrap64 (x8 + 1)) c ss st er ms) r) : ∀ (l : List Int) (i : Nat) (b : Bool), dm.drop i = l → (last = er → b = true ∨ s ∈ l) →
    Ev (fun k => dataflowlaw39_ProtocolAbsorbs.l1 k xs last dm fl x8 s b i c ss st er ms) r := by
  intro l
  induction l with
  | nil =>
    intro i b h hb
    have := drop_end dm i h
    refine Ev.step (fun k => ?_) hr
    simp only [dataflowlaw39_ProtocolAbsorbs.l1]; rw [if_neg (by omega)]
    by_cases e : last = er
    · rw [if_pos e, if_pos ((hb e).resolve_right (by simp))]
    · rw [if_neg e]
  | cons x rest ih =>
    intro i b h hb
    obtain ⟨h1, h2, h3⟩ := rdI_drop dm i x rest h
    have w2 : wrap64 ((i : Int) + 1) = ((i + 1 : Nat) : Int) := by rw [w64 (by omega) (by omega)]; rfl
    cases b with
    | true =>
      refine Ev.step (fun k => ?_) (ih (i + 1) true h3 (fun _ => .inl rfl))
      simp only [dataflowlaw39_ProtocolAbsorbs.l1]; rw [if_pos (by omega), if_pos trivial, w2]
    | false =>
      refine Ev.step (fun k => ?_) (ih (i + 1) (x == s) h3 (fun e => ?_))
      · simp only [dataflowlaw39_ProtocolAbsorbs.l1]; rw [if_pos (by omega), if_neg (by simp), if_pos (by omega), h1, w2]
      · have h4 := (hb e).resolve_left (by simp)
        rcases List.mem_cons.1 h4 with rfl | h5
        · left; simp
        · exact .inr h5
/-- The flag tells whether an earlier run ended in the error state. -/
def FailedBy (R : Nat → Int) (er : Int) (i : Nat) (fl : Bool) : Prop := fl = true ↔ ∃ j, j < i ∧ R j = er
theorem absorbs_l (c : ByteArray) (ss : List ByteArray) (st er : Int) (ms : List S64) (xs : List ByteArray) (hx : xs.length ≤ 1000) (R : Nat → Int) (dm : List Int) (hdm : dm.length ≤ 1000)
    (hrun : ∀ i, Ev (fun k => protocol_Run.f k c ss st er ms (xs.take i)) (R i)) (ha : ∀ a b, a ≤ b → R a = er → R b = er) (hd : ∀ a, R xs.length = er → R a ∈ dm) : ∀ (d i : Nat) (fl : Bool), xs.length + 1 - i = d → FailedBy R er i fl → i ≤ xs.length + 1 →
    Ev (fun k => dataflowlaw39_ProtocolAbsorbs.l0 k xs (R xs.length) dm fl i c ss st er ms) true := by
  intro d
  induction d with
  | zero =>
    intro i fl h hf hi
    have e : i = xs.length + 1 := by omega
    subst e
    refine Ev.step (f := fun k => (if (fl == (R xs.length == er)) = true then ((dataflowlaw39_awake.f k).bind fun t3 => (some t3)) else (some false))) (fun k => ?_) ?_
    · simp only [dataflowlaw39_ProtocolAbsorbs.l0]; rw [if_neg (by omega)]
    · have : (fl == (R xs.length == er)) = true := by
        rw [beq_iff_eq]
        cases fl with
        | true =>
          obtain ⟨j, h1, h2⟩ := hf.1 rfl
          rw [ha j xs.length (by omega) h2]; simp
        | false =>
          by_cases e : R xs.length = er
          · have := hf.2 ⟨xs.length, by omega, e⟩; cases this
          · simp [e]
      exact Ev.congr (fun k => by rw [if_pos this]) (Ev.bind awake39 (Ev.now _))
  | succ d ih =>
    intro i fl h hf hi
    have w2 : wrap64 ((i : Int) + 1) = ((i + 1 : Nat) : Int) := by rw [w64 (by omega) (by omega)]; rfl
    refine Ev.step (f := fun k => (protocol_Run.f k c ss st er ms (xs.take i)).bind fun t => (if fl = true then (dataflowlaw39_ProtocolAbsorbs.j2 k xs (R xs.length) dm fl i t (t != er) c ss st er ms) else (dataflowlaw39_ProtocolAbsorbs.j2 k xs (R xs.length) dm fl i t false c ss st er ms))) (fun k => ?_) (Ev.bind (hrun i) ?_)
    · simp only [dataflowlaw39_ProtocolAbsorbs.l0]; rw [if_pos (by omega), if_pos (by omega), Int.toNat_natCast]
    · have hnext : ∀ fl' : Bool, FailedBy R er (i + 1) fl' → Ev (fun k => dataflowlaw39_ProtocolAbsorbs.j3 k xs (R xs.length) dm fl' i (R i) c ss st er ms) true := by
        intro fl' hfl
        refine Ev.step (f := fun k => dataflowlaw39_ProtocolAbsorbs.l1 k xs (R xs.length) dm fl' i (R i) false ((0 : Nat) : Int) c ss st er ms) (fun k => by simp only [dataflowlaw39_ProtocolAbsorbs.j3]; rfl) (in_l c ss st er ms xs _ _ hdm fl' i _ true ?_ _ 0 false rfl (fun e => .inr ?_))
        · rw [w2]; exact ih (i + 1) fl' (by omega) hfl (by omega)
        · exact hd i e
      cases fl with
      | true =>
        obtain ⟨j, h1, h2⟩ := hf.1 rfl
        have hs := ha j i (by omega) h2
        refine Ev.congr (f := fun k => dataflowlaw39_ProtocolAbsorbs.j2 k xs (R xs.length) dm true i (R i) false c ss st er ms) (fun k => by rw [if_pos rfl, hs]; simp) (Ev.step (fun k => ?_) (hnext true ⟨fun _ => ⟨j, by omega, h2⟩, fun _ => rfl⟩))
        simp only [dataflowlaw39_ProtocolAbsorbs.j2]; rw [if_neg (by simp), if_pos trivial]
      | false =>
        refine Ev.congr (f := fun k => dataflowlaw39_ProtocolAbsorbs.j2 k xs (R xs.length) dm false i (R i) false c ss st er ms) (fun k => by rw [if_neg (by simp)]) (Ev.step (fun k => ?_) (hnext (R i == er) ⟨fun e => ⟨i, by omega, by simpa using e⟩, fun ⟨j, h1, h2⟩ => ?_⟩))
        · simp only [dataflowlaw39_ProtocolAbsorbs.j2]; rw [if_neg (by simp), if_neg (by simp)]
        · by_cases e : j = i
          · subst e; simpa using h2
          · have := hf.2 ⟨j, by omega, h2⟩; cases this
theorem run_takes (c : ByteArray) (ss : List ByteArray) (st er : Int) (ms : List S64) (hg : GoodP c ss ms) (h0 : checkF c ss st er ms = 0) (xs : List ByteArray) (hx : xs.length ≤ 1000) (i : Nat) : Ev (fun k => protocol_Run.f k c ss st er ms (xs.take i)) (runL ms st (xs.take i)) := by
  have hrun := lRun_ev c ss st er ms hg (xs.take i) (Nat.le_trans (List.length_take_le' i xs) (Nat.le_trans hx (by decide)))
  unfold runF at hrun
  rw [if_pos h0] at hrun
  exact hrun
theorem absorbs_all (c : ByteArray) (ss : List ByteArray) (st er : Int) (ms : List S64) (hg : GoodP c ss ms) (h0 : checkF c ss st er ms = 0) (xs : List ByteArray) (hx : xs.length ≤ 1000) :
    Ev (fun k => dataflowlaw39_ProtocolAbsorbs.l0 k xs (runL ms st xs) (doomF c ss st er ms) false ((0 : Nat) : Int) c ss st er ms) true := by
  have hab := absorb h0 xs
  have hz := checkF_zero h0
  have := absorbs_l c ss st er ms xs hx (fun i => runL ms st (xs.take i)) (doomF c ss st er ms) (Nat.le_trans (doomF_len' c ss st er ms) (Nat.le_trans hz.2.1 (by decide))) (run_takes c ss st er ms hg h0 xs hx) hab.1 (fun a e => hab.2 a (by rw [← List.take_length (l := xs)]; exact e)) _ 0 false rfl ⟨fun e => (by cases e), fun ⟨j, h, _⟩ => absurd h (Nat.not_lt_zero _)⟩ (Nat.zero_le _)
  simp only [List.take_length] at this
  exact this
theorem ProtocolAbsorbs : dataflowlaw39_ProtocolAbsorbs.Pure := by
  intro c ss st er ms xs ⟨g1, g2, _, _, g3⟩ _
  have hg : GoodP c ss ms := ⟨g1, g2, fun x hx => (g3 x hx).2.1⟩
  have ht : Ev (fun k => dataflowlaw39_ProtocolAbsorbs.j0 k xs true c ss st er ms) true := Ev.step (fun k => by simp only [dataflowlaw39_ProtocolAbsorbs.j0]; rw [if_pos trivial]) (Ev.bind awake39 (Ev.now true))
  by_cases h1 : (ss.length : Int) > 16
  · exact Ev.rounds (Ev.congr (fun k => by unfold dataflowlaw39_ProtocolAbsorbs.f; rw [if_pos h1]) ht)
  · by_cases h2 : (ms.length : Int) > 256
    · exact Ev.rounds (Ev.congr (fun k => by unfold dataflowlaw39_ProtocolAbsorbs.f; rw [if_neg h1, if_pos h2]) ht)
    · by_cases h3 : (xs.length : Int) > 30
      · exact Ev.rounds (Ev.congr (fun k => by unfold dataflowlaw39_ProtocolAbsorbs.f; rw [if_neg h1, if_neg h2, if_pos h3]) ht)
      · have hxl : xs.length ≤ 30 := by omega
        refine Ev.rounds (Ev.congr (f := fun k => (dataflowref39_Check.f k c ss st er ms).bind fun t => (dataflowlaw39_ProtocolAbsorbs.j0 k xs (t != 0) c ss st er ms)) (fun k => by unfold dataflowlaw39_ProtocolAbsorbs.f; rw [if_neg h1, if_neg h2, if_neg h3]) (Ev.bind (rcheck_ev c ss st er ms hg) ?_))
        by_cases h0 : checkF c ss st er ms = 0
        · have hrun := lRun_ev c ss st er ms hg xs (Nat.le_trans hxl (by decide))
          unfold runF at hrun
          rw [if_pos h0] at hrun
          refine Ev.step (f := fun k => (protocol_Run.f k c ss st er ms xs).bind fun t => ((protocol_Doomed.f k c ss st er ms).bind fun t2 => (dataflowlaw39_ProtocolAbsorbs.l0 k xs t t2 false ((0 : Nat) : Int) c ss st er ms))) (fun k => ?_) (Ev.bind hrun (Ev.bind (ldoom_ev c ss st er ms hg) ?_))
          · simp only [dataflowlaw39_ProtocolAbsorbs.j0]; rw [h0, if_neg (by simp)]; rfl
          · exact absorbs_all c ss st er ms hg h0 xs (Nat.le_trans hxl (by decide))
        · have hb : (checkF c ss st er ms != 0) = true := bne_iff_ne.2 h0
          exact Ev.congr (f := fun k => dataflowlaw39_ProtocolAbsorbs.j0 k xs true c ss st er ms) (fun k => by rw [hb]) ht
end Go.Proofs.YthfhbdncphkdaaaDoor.Pure

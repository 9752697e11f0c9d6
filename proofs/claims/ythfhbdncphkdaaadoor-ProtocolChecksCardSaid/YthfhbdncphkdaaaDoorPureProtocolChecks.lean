/- For any protocol, Check returns the first error of the definition, and Doomed the states that can fail: the pure statement of ProtocolChecks. -/
import Derived.Test.YthfhbdncphkdaaaDoorWalkProtocolChecks
import Derived.Test.YthfhbdncphkdaaaDoorProDoomed
namespace Go.Proofs.YthfhbdncphkdaaaDoor.Pure
open Go.RowKit Go.Proofs.YthfhbdncphkdaaaDoorW.PrintWords Go.Proofs.YthfhbdncphkdaaaDoor.H
set_option linter.unusedVariables false
theorem collF_len : ∀ (l : List Bool) (i : Nat) (acc : List Int), (collF l i acc).length ≤ acc.length + l.length := by
  intro l
  induction l with
  | nil => intro i acc; exact Nat.le_refl _
  | cons b r ih =>
    intro i acc
    unfold collF
    have := ih (i + 1) (if b = true then acc ++ [(i : Int)] else acc)
    have h2 : (if b = true then acc ++ [(i : Int)] else acc).length ≤ acc.length + 1 := by split <;> simp
    rw [List.length_cons]
    omega
theorem passN_len (ms : List S64) : ∀ (n : Nat) (d : List Bool), (passN ms n d).length = d.length := by
  intro n
  induction n with
  | zero => intro d; rfl
  | succ n ih => intro d; unfold passN; rw [ih, passF_len]
theorem doomF_len (c : ByteArray) (ss : List ByteArray) (st er : Int) (ms : List S64) : (doomF c ss st er ms).length ≤ ss.length := by
  unfold doomF
  split
  · have := collF_len (passN ms ss.length ((List.replicate ss.length false).set er.toNat true)) 0 []
    rw [passN_len, List.length_set, List.length_replicate] at this
    simpa using this
  · simp
theorem checks_l (c : ByteArray) (ss : List ByteArray) (st er : Int) (ms : List S64) (hg : GoodP c ss ms) (l : List Int) (hl : l.length ≤ 1000) : ∀ (d i : Nat), l.length - i = d → Ev (fun k => dataflowlaw39_ProtocolChecks.l0 k l l i c ss st er ms) true := by
  intro d
  induction d with
  | zero =>
    intro i h
    refine Ev.step (f := fun k => (protocol_Check.f k c ss st er ms).bind fun t => ((dataflowref39_Check.f k c ss st er ms).bind fun t2 => (if t = t2 then ((dataflowlaw39_awake.f k).bind fun t3 => (some t3)) else (some false)))) (fun k => ?_) (Ev.bind (lcheck_ev c ss st er ms hg) (Ev.bind (rcheck_ev c ss st er ms hg) ?_))
    · simp only [dataflowlaw39_ProtocolChecks.l0]; rw [if_neg (by omega)]
    · exact Ev.congr (fun k => by rw [if_pos rfl]) (Ev.bind awake39 (Ev.now _))
  | succ d ih =>
    intro i h
    refine Ev.step (fun k => ?_) (ih (i + 1) (by omega))
    simp only [dataflowlaw39_ProtocolChecks.l0]; rw [if_pos (by omega), if_pos (by omega), if_pos (by omega), if_pos trivial, w64 (by omega) (by omega)]; rfl
theorem ProtocolChecks : dataflowlaw39_ProtocolChecks.Pure := by
  intro c ss st er ms ⟨g1, g2, _, _, g3⟩
  have hg : GoodP c ss ms := ⟨g1, g2, fun x hx => (g3 x hx).2.1⟩
  have ht : Ev (fun k => dataflowlaw39_ProtocolChecks.j0 k true c ss st er ms) true := Ev.step (fun k => by simp only [dataflowlaw39_ProtocolChecks.j0]; rw [if_pos trivial]) (Ev.bind awake39 (Ev.now true))
  by_cases h1 : (ss.length : Int) > 100
  · exact Ev.rounds (Ev.congr (fun k => by unfold dataflowlaw39_ProtocolChecks.f; rw [if_pos h1]) ht)
  · by_cases h2 : (ms.length : Int) > 400
    · exact Ev.rounds (Ev.congr (fun k => by unfold dataflowlaw39_ProtocolChecks.f; rw [if_neg h1, decide_eq_true h2]) ht)
    · have hl := doomF_len c ss st er ms
      refine Ev.rounds (Ev.congr (f := fun k => dataflowlaw39_ProtocolChecks.j0 k false c ss st er ms) (fun k => by unfold dataflowlaw39_ProtocolChecks.f; rw [if_neg h1, decide_eq_false h2]) (Ev.step (f := fun k => (protocol_Doomed.f k c ss st er ms).bind fun t => ((dataflowref39_Doomed.f k c ss st er ms).bind fun t2 => (if (t.length : Int) = (t2.length : Int) then (dataflowlaw39_ProtocolChecks.l0 k t t2 0 c ss st er ms) else (some false)))) (fun k => ?_) (Ev.bind (ldoom_ev c ss st er ms hg) (Ev.bind (rdoom_ev c ss st er ms hg) ?_))))
      · simp only [dataflowlaw39_ProtocolChecks.j0]; rw [if_neg (by simp)]
      · exact Ev.congr (f := fun k => dataflowlaw39_ProtocolChecks.l0 k (doomF c ss st er ms) (doomF c ss st er ms) ((0 : Nat) : Int) c ss st er ms) (fun k => by rw [if_pos rfl]; rfl) (checks_l c ss st er ms hg _ (by omega) _ 0 rfl)
end Go.Proofs.YthfhbdncphkdaaaDoor.Pure

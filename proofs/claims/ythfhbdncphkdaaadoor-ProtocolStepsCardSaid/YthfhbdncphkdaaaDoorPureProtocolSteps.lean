/- For any protocol, state and methods, Step and Run are as by definition: the pure statement of ProtocolSteps. -/
import Derived.Test.YthfhbdncphkdaaaDoorWalkProtocolSteps
import Derived.Test.YthfhbdncphkdaaaDoorProRun
namespace Go.Proofs.YthfhbdncphkdaaaDoor.Pure
open Go.RowKit Go.Proofs.YthfhbdncphkdaaaDoorW.PrintWords Go.Proofs.YthfhbdncphkdaaaDoor.H
set_option linter.unusedVariables false
theorem steps_l (c : ByteArray) (ss : List ByteArray) (st er : Int) (ms : List S64) (hg : GoodP c ss ms) (q : Int) (xs : List ByteArray) (hx : xs.length ≤ 1000000) : ∀ (l : List ByteArray) (i : Nat), xs.drop i = l → Ev (fun k => dataflowlaw39_ProtocolSteps.l0 k q xs i c ss st er ms) true := by
  intro l
  induction l with
  | nil =>
    intro i h
    have := drop_end xs i h
    refine Ev.step (f := fun k => (protocol_Run.f k c ss st er ms xs).bind fun t => ((dataflowref39_Run.f k c ss st er ms xs).bind fun t2 => (if t = t2 then ((dataflowlaw39_awake.f k).bind fun t3 => (some t3)) else (some false)))) (fun k => ?_) (Ev.bind (lRun_ev c ss st er ms hg xs hx) (Ev.bind (rRun_ev c ss st er ms hg xs hx) ?_))
    · simp only [dataflowlaw39_ProtocolSteps.l0]; rw [if_neg (by omega)]
    · exact Ev.congr (fun k => by rw [if_pos rfl]) (Ev.bind awake39 (Ev.now _))
  | cons m r ih =>
    intro i h
    obtain ⟨h1, h2, h3⟩ := rdS_drop xs i m r h
    refine Ev.step (f := fun k => (protocol_Step.f k c ss st er ms q m).bind fun t => ((dataflowref39_Step.f k c ss st er ms q m).bind fun t2 => (if t = t2 then (dataflowlaw39_ProtocolSteps.l0 k q xs ((i + 1 : Nat) : Int) c ss st er ms) else (some false)))) (fun k => ?_) (Ev.bind (lStep_ev c ss st er ms hg q m) (Ev.bind (rStep_ev c ss st er ms hg q m) ?_))
    · simp only [dataflowlaw39_ProtocolSteps.l0]; rw [if_pos (by omega), if_pos (by omega), h1, w64 (by omega) (by omega)]; rfl
    · exact Ev.congr (fun k => by rw [if_pos rfl]) (ih (i + 1) h3)
theorem ProtocolSteps : dataflowlaw39_ProtocolSteps.Pure := by
  intro c ss st er ms q xs ⟨g1, g2, _, _, g3⟩ _ _
  have hg : GoodP c ss ms := ⟨g1, g2, fun x hx => (g3 x hx).2.1⟩
  have ht : Ev (fun k => dataflowlaw39_ProtocolSteps.j0 k q xs true c ss st er ms) true := Ev.step (fun k => by simp only [dataflowlaw39_ProtocolSteps.j0]; rw [if_pos trivial]) (Ev.bind awake39 (Ev.now true))
  by_cases h1 : (ss.length : Int) > 100
  · exact Ev.rounds (Ev.congr (fun k => by unfold dataflowlaw39_ProtocolSteps.f; rw [if_pos h1]) ht)
  · by_cases h2 : (ms.length : Int) > 400
    · exact Ev.rounds (Ev.congr (fun k => by unfold dataflowlaw39_ProtocolSteps.f; rw [if_neg h1, if_pos h2]) ht)
    · by_cases h3 : (xs.length : Int) > 50
      · exact Ev.rounds (Ev.congr (fun k => by unfold dataflowlaw39_ProtocolSteps.f; rw [if_neg h1, if_neg h2, decide_eq_true h3]) ht)
      · refine Ev.rounds (Ev.congr (f := fun k => dataflowlaw39_ProtocolSteps.j0 k q xs false c ss st er ms) (fun k => by unfold dataflowlaw39_ProtocolSteps.f; rw [if_neg h1, if_neg h2, decide_eq_false h3]) (Ev.step (f := fun k => dataflowlaw39_ProtocolSteps.l0 k q xs ((0 : Nat) : Int) c ss st er ms) (fun k => ?_) (steps_l c ss st er ms hg q xs (by omega) xs 0 rfl)))
        simp only [dataflowlaw39_ProtocolSteps.j0]; rw [if_neg (by simp)]; rfl
end Go.Proofs.YthfhbdncphkdaaaDoor.Pure

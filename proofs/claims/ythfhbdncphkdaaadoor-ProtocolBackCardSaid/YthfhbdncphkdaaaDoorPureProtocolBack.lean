/- For any protocol, its text is that of the definition, and is parsed as the protocol: the pure statement of ProtocolBack. -/
import Derived.Test.YthfhbdncphkdaaaDoorWalkProtocolBack
import Derived.Test.YthfhbdncphkdaaaDoorProTexts
namespace Go.Proofs.YthfhbdncphkdaaaDoor.Pure
open Go.RowKit Go.Proofs.YthfhbdncphkdaaaDoorW.PrintWords Go.Proofs.YthfhbdncphkdaaaDoor.H
set_option linter.unusedVariables false
theorem ProtocolBack : dataflowlaw39_ProtocolBack.Pure := by
  intro c ss st er ms ⟨g1, g2, _, _, g3⟩
  have hg : GoodP c ss ms := ⟨g1, g2, fun x hx => (g3 x hx).2.1⟩
  have ht : Ev (fun k => dataflowlaw39_ProtocolBack.j0 k true c ss st er ms) true := Ev.step (fun k => by simp only [dataflowlaw39_ProtocolBack.j0]; rw [if_pos trivial]) (Ev.bind awake39 (Ev.now true))
  by_cases h1 : (ss.length : Int) > 100
  · exact Ev.rounds (Ev.congr (fun k => by unfold dataflowlaw39_ProtocolBack.f; rw [if_pos h1]) ht)
  · by_cases h2 : (ms.length : Int) > 400
    · exact Ev.rounds (Ev.congr (fun k => by unfold dataflowlaw39_ProtocolBack.f; rw [if_neg h1, decide_eq_true h2]) ht)
    · refine Ev.rounds (Ev.congr (f := fun k => dataflowlaw39_ProtocolBack.j0 k false c ss st er ms) (fun k => by unfold dataflowlaw39_ProtocolBack.f; rw [if_neg h1, decide_eq_false h2]) ?_)
      refine Ev.step (f := fun k => (protocol_Text.f k c ss st er ms).bind fun b1 => ((dataflowref39_Text.f k c ss st er ms).bind fun b2 => (if b1.2 = b2.2 then (dataflowlaw39_ProtocolBack.j1 k b1.1 b1.2 (b1.1.toList != b2.1.toList) c ss st er ms) else (dataflowlaw39_ProtocolBack.j1 k b1.1 b1.2 true c ss st er ms)))) (fun k => by simp only [dataflowlaw39_ProtocolBack.j0]; rw [if_neg (by simp)]) (Ev.bind (ltext_ev c ss st er ms hg) (Ev.bind (rtext_ev c ss st er ms hg) ?_))
      refine Ev.congr (f := fun k => dataflowlaw39_ProtocolBack.j1 k (txtF c ss st er ms).1 (txtF c ss st er ms).2 false c ss st er ms) (fun k => by rw [if_pos rfl]; congr 1; simp) ?_
      by_cases h : checkF c ss st er ms = 0
      · have e : txtF c ss st er ms = (proText c ss st er ms, 0) := if_pos h
        rw [e]
        have hp := lparse_ev (proText c ss st er ms)
        rw [text_parse h] at hp
        refine Ev.step (f := fun k => (protocol_Parse.f k (proText c ss st er ms)).bind fun b => (if b.2.2.2.2.2.2 = 0 then (if b.2.2.2.2.2.1 = 0 then ((dataflowref39_Same.f k c ss st er ms b.1 b.2.1 b.2.2.1 b.2.2.2.1 b.2.2.2.2.1).bind fun t => (if t = true then ((dataflowlaw39_awake.f k).bind fun t2 => (some t2)) else (some false))) else (some false)) else (some false))) (fun k => by simp only [dataflowlaw39_ProtocolBack.j1]; rw [if_neg (by simp), if_pos trivial]) (Ev.bind hp ?_)
        refine Ev.congr (f := fun k => (dataflowref39_Same.f k c ss st er ms c ss st er ms).bind fun t => (if t = true then ((dataflowlaw39_awake.f k).bind fun t2 => (some t2)) else (some false))) (fun k => by rw [if_pos rfl, if_pos rfl]) (Ev.bind (same_ev c ss st er ms (by omega) (by omega)) ?_)
        exact Ev.congr (f := fun k => (dataflowlaw39_awake.f k).bind fun t2 => some t2) (fun k => if_pos rfl) (Ev.bind awake39 (Ev.now true))
      · have e : txtF c ss st er ms = ((⟨#[]⟩ : ByteArray), checkF c ss st er ms) := if_neg h
        rw [e]
        exact Ev.step (fun k => by simp only [dataflowlaw39_ProtocolBack.j1]; rw [if_neg (by simp), if_neg h]) (Ev.bind awake39 (Ev.now true))
end Go.Proofs.YthfhbdncphkdaaaDoor.Pure

/- The pure statement of the law ProtocolParses, and the walk that follows from it. -/
import Derived.Test.YthfhbdncphkdaaaDoorHf12
set_option linter.unusedVariables false
namespace Go.Proofs.YthfhbdncphkdaaaDoor.H
open Go.RowKit Go.Proofs.YthfhbdncphkdaaaDoorW.PrintWords
/-- The one pure statement that is left. -/
def dataflowlaw39_ProtocolParses.Pure : Prop := ∀ (a0 : ByteArray), a0.size ≤ 9223372036854775807 → ∃ k, dataflowlaw39_ProtocolParses.f k a0 = some true
theorem dataflowlaw39_ProtocolParses.walk (P : dataflowlaw39_ProtocolParses.Pure) (a0 : ByteArray) (w : World)  (hgh : Gh w) (q0 : a0.size ≤ 9223372036854775807) :
    Calls Tryd.prog 12 #[.string a0] w fun e w' => e = .returned (.bool true) ∧ Below w.heap.size w w' := by
  obtain ⟨k, h⟩ := P a0 q0
  refine (dataflowlaw39_ProtocolParses.calls k a0 true w hgh h).mono ?_
  rintro e w' ⟨rfl, hd⟩
  exact ⟨rfl, hd⟩
end Go.Proofs.YthfhbdncphkdaaaDoor.H

/- The pure statement of the law LexJoins, and the walk that follows from it. -/
import Derived.Test.YthfhbdncphkdaaaDoorGf6
namespace Go.Proofs.YthfhbdncphkdaaaDoor.G
open Go.RowKit Go.Proofs.YthfhbdncphkdaaaDoorW.PrintWords
/-- The one pure statement that is left. -/
def dataflowlaw07_LexJoins.Pure : Prop := ∀ (a0 : ByteArray), a0.size ≤ 140737488351232 → ∃ k, dataflowlaw07_LexJoins.f k a0 = some true
theorem dataflowlaw07_LexJoins.walk (P : dataflowlaw07_LexJoins.Pure) (a0 : ByteArray) (w : World) (hgh : Gh w) (w0 : a0.size ≤ 140737488351232) :
    Calls Tryd.prog 6 #[.string a0] w fun e w' => e = .returned (.bool true) ∧ Below w.heap.size w w' := by
  obtain ⟨k, h⟩ := P a0 w0
  refine (dataflowlaw07_LexJoins.calls k a0 true w hgh h).mono ?_
  rintro e w' ⟨rfl, hd⟩
  exact ⟨rfl, hd⟩
end Go.Proofs.YthfhbdncphkdaaaDoor.G

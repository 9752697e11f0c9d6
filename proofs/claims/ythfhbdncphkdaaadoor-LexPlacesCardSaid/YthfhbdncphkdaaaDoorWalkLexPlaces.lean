/- The pure statement of the law LexPlaces, and the walk that follows from it. -/
import Derived.Test.YthfhbdncphkdaaaDoorGf8
namespace Go.Proofs.YthfhbdncphkdaaaDoor.G
open Go.RowKit Go.Proofs.YthfhbdncphkdaaaDoorW.PrintWords
/-- The one pure statement that is left. -/
def dataflowlaw07_LexPlaces.Pure : Prop := ∀ (a0 : ByteArray) (a1 : Int), a0.size ≤ 140737488351232 → (Lit.int .i64 a1).wf = true → ∃ k, dataflowlaw07_LexPlaces.f k a0 a1 = some true
theorem dataflowlaw07_LexPlaces.walk (P : dataflowlaw07_LexPlaces.Pure) (a0 : ByteArray) (a1 : Int) (w : World) (hgh : Gh w) (w0 : a0.size ≤ 140737488351232) (w1 : (Lit.int .i64 a1).wf = true) :
    Calls Tryd.prog 8 #[.string a0, .int .i64 a1] w fun e w' => e = .returned (.bool true) ∧ Below w.heap.size w w' := by
  obtain ⟨k, h⟩ := P a0 a1 w0 w1
  refine (dataflowlaw07_LexPlaces.calls k a0 a1 true w hgh h).mono ?_
  rintro e w' ⟨rfl, hd⟩
  exact ⟨rfl, hd⟩
end Go.Proofs.YthfhbdncphkdaaaDoor.G

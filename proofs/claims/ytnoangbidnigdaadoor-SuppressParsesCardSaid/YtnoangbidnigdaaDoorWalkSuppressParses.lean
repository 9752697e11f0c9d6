/- The pure statement of the law SuppressParses, and the walk that follows from it. -/
import Derived.Test.YtnoangbidnigdaaDoorHf5
set_option linter.unusedVariables false
namespace Go.Proofs.YtnoangbidnigdaaDoor.H
open Go.RowKit Go.Proofs.YtnoangbidnigdaaDoorW.PrintWords
/-- The one pure statement that is left. -/
def dataflowlaw46_SuppressParses.Pure : Prop := ∀ (a0 : ByteArray), a0.size ≤ 9223372036854775807 → ∃ k, dataflowlaw46_SuppressParses.f k a0 = some true
theorem dataflowlaw46_SuppressParses.walk (P : dataflowlaw46_SuppressParses.Pure) (a0 : ByteArray) (w : World)  (hgh : Gh w) (q0 : a0.size ≤ 9223372036854775807) :
    Calls Tryd.prog 5 #[.string a0] w fun e w' => e = .returned (.bool true) ∧ Below w.heap.size w w' := by
  obtain ⟨k, h⟩ := P a0 q0
  refine (dataflowlaw46_SuppressParses.calls k a0 true w hgh h).mono ?_
  rintro e w' ⟨rfl, hd⟩
  exact ⟨rfl, hd⟩
end Go.Proofs.YtnoangbidnigdaaDoor.H

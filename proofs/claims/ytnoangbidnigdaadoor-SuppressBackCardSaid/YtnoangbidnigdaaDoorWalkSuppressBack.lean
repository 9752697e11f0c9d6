/- The pure statement of the law SuppressBack, and the walk that follows from it. -/
import Derived.Test.YtnoangbidnigdaaDoorHf4
set_option linter.unusedVariables false
namespace Go.Proofs.YtnoangbidnigdaaDoor.H
open Go.RowKit Go.Proofs.YtnoangbidnigdaaDoorW.PrintWords
/-- The one pure statement that is left. -/
def dataflowlaw46_SuppressBack.Pure : Prop := ∀ (l0 : List (S23)), (∀ x ∈ l0, ((Lit.int .i64 x.f0).wf = true ∧ x.f1.size ≤ 9223372036854775807 ∧ x.f2.size ≤ 9223372036854775807 ∧ x.f3.size ≤ 9223372036854775807 ∧ x.f4.size ≤ 9223372036854775807)) → ∃ k, dataflowlaw46_SuppressBack.f k l0 = some true
theorem dataflowlaw46_SuppressBack.walk (P : dataflowlaw46_SuppressBack.Pure) (A0 : Option Addr) (c0 : Nat) (l0 : List (S23)) (w : World) (hr0 : Kd.C k23 w A0 l0.length l0) (hc0 : l0.length ≤ c0) (hgh : Gh w) (q0 : (∀ x ∈ l0, ((Lit.int .i64 x.f0).wf = true ∧ x.f1.size ≤ 9223372036854775807 ∧ x.f2.size ≤ 9223372036854775807 ∧ x.f3.size ≤ 9223372036854775807 ∧ x.f4.size ≤ 9223372036854775807))) :
    Calls Tryd.prog 4 #[.slice A0 l0.length c0] w fun e w' => e = .returned (.bool true) ∧ Below w.heap.size w w' := by
  obtain ⟨k, h⟩ := P l0 q0
  refine (dataflowlaw46_SuppressBack.calls k A0 c0 l0 true w hr0 hc0 hgh h).mono ?_
  rintro e w' ⟨rfl, hd⟩
  exact ⟨rfl, hd⟩
end Go.Proofs.YtnoangbidnigdaaDoor.H

/- The pure statement of the law SuppressTells, and the walk that follows from it. -/
import Derived.Test.YtnoangbidnigdaaDoorHf3
set_option linter.unusedVariables false
namespace Go.Proofs.YtnoangbidnigdaaDoor.H
open Go.RowKit Go.Proofs.YtnoangbidnigdaaDoorW.PrintWords
/-- The one pure statement that is left. -/
def dataflowlaw46_SuppressTells.Pure : Prop := ∀ (a0_0 : Int) (a0_1 : ByteArray) (a0_2 : ByteArray) (a0_3 : ByteArray) (a0_4 : ByteArray) (a1_0 : Int) (a1_1 : ByteArray) (a1_2 : ByteArray) (a1_3 : Int) (a1_4 : ByteArray) (l1_5 : List (S25)), ((Lit.int .i64 a0_0).wf = true ∧ a0_1.size ≤ 9223372036854775807 ∧ a0_2.size ≤ 9223372036854775807 ∧ a0_3.size ≤ 9223372036854775807 ∧ a0_4.size ≤ 9223372036854775807) → ((Lit.int .i64 a1_0).wf = true ∧ (a1_1.size ≤ 9223372036854775807 ∧ a1_2.size ≤ 9223372036854775807 ∧ (Lit.int .i64 a1_3).wf = true) ∧ a1_4.size ≤ 9223372036854775807 ∧ (∀ x ∈ l1_5, (x.f0.size ≤ 9223372036854775807 ∧ x.f1.size ≤ 9223372036854775807 ∧ (Lit.int .i64 x.f2).wf = true))) → ∃ k, dataflowlaw46_SuppressTells.f k a0_0 a0_1 a0_2 a0_3 a0_4 a1_0 a1_1 a1_2 a1_3 a1_4 l1_5 = some true
theorem dataflowlaw46_SuppressTells.walk (P : dataflowlaw46_SuppressTells.Pure) (a0_0 : Int) (a0_1 : ByteArray) (a0_2 : ByteArray) (a0_3 : ByteArray) (a0_4 : ByteArray) (a1_0 : Int) (a1_1 : ByteArray) (a1_2 : ByteArray) (a1_3 : Int) (a1_4 : ByteArray) (A1_5 : Option Addr) (c1_5 : Nat) (l1_5 : List (S25)) (w : World) (hr1_5 : Kd.C k25 w A1_5 l1_5.length l1_5) (hc1_5 : l1_5.length ≤ c1_5) (hgh : Gh w) (q0 : ((Lit.int .i64 a0_0).wf = true ∧ a0_1.size ≤ 9223372036854775807 ∧ a0_2.size ≤ 9223372036854775807 ∧ a0_3.size ≤ 9223372036854775807 ∧ a0_4.size ≤ 9223372036854775807)) (q1 : ((Lit.int .i64 a1_0).wf = true ∧ (a1_1.size ≤ 9223372036854775807 ∧ a1_2.size ≤ 9223372036854775807 ∧ (Lit.int .i64 a1_3).wf = true) ∧ a1_4.size ≤ 9223372036854775807 ∧ (∀ x ∈ l1_5, (x.f0.size ≤ 9223372036854775807 ∧ x.f1.size ≤ 9223372036854775807 ∧ (Lit.int .i64 x.f2).wf = true)))) :
    Calls Tryd.prog 3 #[.agg #[.int .i64 a0_0, .string a0_1, .string a0_2, .string a0_3, .string a0_4], .agg #[.int .i64 a1_0, .string a1_1, .string a1_2, .int .i64 a1_3, .string a1_4, .slice A1_5 l1_5.length c1_5]] w fun e w' => e = .returned (.bool true) ∧ Below w.heap.size w w' := by
  obtain ⟨k, h⟩ := P a0_0 a0_1 a0_2 a0_3 a0_4 a1_0 a1_1 a1_2 a1_3 a1_4 l1_5 q0 q1
  refine (dataflowlaw46_SuppressTells.calls k a0_0 a0_1 a0_2 a0_3 a0_4 a1_0 a1_1 a1_2 a1_3 a1_4 A1_5 c1_5 l1_5 true w hr1_5 hc1_5 hgh h).mono ?_
  rintro e w' ⟨rfl, hd⟩
  exact ⟨rfl, hd⟩
end Go.Proofs.YtnoangbidnigdaaDoor.H

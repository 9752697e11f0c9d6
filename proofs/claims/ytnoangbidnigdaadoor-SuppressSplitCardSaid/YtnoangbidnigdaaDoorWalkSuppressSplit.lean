/- The pure statement of the law SuppressSplit, and the walk that follows from it. -/
import Derived.Test.YtnoangbidnigdaaDoorHf7
set_option linter.unusedVariables false
namespace Go.Proofs.YtnoangbidnigdaaDoor.H
open Go.RowKit Go.Proofs.YtnoangbidnigdaaDoorW.PrintWords
theorem len28 {w : World} {A : Option Addr} {l0 : List S28} (h : Kd.C k28 w A l0.length l0) : ∀ x ∈ l0, x.f3.length ≤ 9223372036854775807 := by
  intro x hx
  obtain ⟨j, hj, e⟩ := List.mem_iff_getElem.1 hx
  obtain ⟨ad, _, hc⟩ := h.2.2 (by omega)
  obtain ⟨c, _, hK, _⟩ := hc j x (by rw [List.getElem?_eq_getElem hj, e])
  obtain ⟨A5, c5, _, _, g5⟩ := k28_open hK
  exact g5.2.1
/-- The one pure statement that is left. -/
def dataflowlaw46_SuppressSplit.Pure : Prop := ∀ (l0 : List (S28)) (l1 : List (S23)), (∀ x ∈ l0, ((Lit.int .i64 x.f0).wf = true ∧ (x.f1.f0.size ≤ 9223372036854775807 ∧ x.f1.f1.size ≤ 9223372036854775807 ∧ (Lit.int .i64 x.f1.f2).wf = true) ∧ x.f2.size ≤ 9223372036854775807 ∧ (∀ y ∈ x.f3, (y.f0.size ≤ 9223372036854775807 ∧ y.f1.size ≤ 9223372036854775807 ∧ (Lit.int .i64 y.f2).wf = true)))) → (∀ x ∈ l1, ((Lit.int .i64 x.f0).wf = true ∧ x.f1.size ≤ 9223372036854775807 ∧ x.f2.size ≤ 9223372036854775807 ∧ x.f3.size ≤ 9223372036854775807 ∧ x.f4.size ≤ 9223372036854775807)) → (l0.length ≤ 9223372036854775807 ∧ ∀ x ∈ l0, x.f3.length ≤ 9223372036854775807) → ∃ k, dataflowlaw46_SuppressSplit.f k l0 l1 = some true
theorem dataflowlaw46_SuppressSplit.walk (P : dataflowlaw46_SuppressSplit.Pure) (A0 : Option Addr) (c0 : Nat) (l0 : List (S28)) (A1 : Option Addr) (c1 : Nat) (l1 : List (S23)) (w : World) (hr0 : Kd.C k28 w A0 l0.length l0) (hc0 : l0.length ≤ c0) (hr1 : Kd.C k23 w A1 l1.length l1) (hc1 : l1.length ≤ c1) (hgh : Gh w) (q0 : (∀ x ∈ l0, ((Lit.int .i64 x.f0).wf = true ∧ (x.f1.f0.size ≤ 9223372036854775807 ∧ x.f1.f1.size ≤ 9223372036854775807 ∧ (Lit.int .i64 x.f1.f2).wf = true) ∧ x.f2.size ≤ 9223372036854775807 ∧ (∀ y ∈ x.f3, (y.f0.size ≤ 9223372036854775807 ∧ y.f1.size ≤ 9223372036854775807 ∧ (Lit.int .i64 y.f2).wf = true))))) (q1 : (∀ x ∈ l1, ((Lit.int .i64 x.f0).wf = true ∧ x.f1.size ≤ 9223372036854775807 ∧ x.f2.size ≤ 9223372036854775807 ∧ x.f3.size ≤ 9223372036854775807 ∧ x.f4.size ≤ 9223372036854775807))) :
    Calls Tryd.prog 7 #[.slice A0 l0.length c0, .slice A1 l1.length c1] w fun e w' => e = .returned (.bool true) ∧ Below w.heap.size w w' := by
  obtain ⟨k, h⟩ := P l0 l1 q0 q1 ⟨hr0.2.1, len28 hr0⟩
  refine (dataflowlaw46_SuppressSplit.calls k A0 c0 l0 A1 c1 l1 true w hr0 hc0 hr1 hc1 hgh h).mono ?_
  rintro e w' ⟨rfl, hd⟩
  exact ⟨rfl, hd⟩
end Go.Proofs.YtnoangbidnigdaaDoor.H

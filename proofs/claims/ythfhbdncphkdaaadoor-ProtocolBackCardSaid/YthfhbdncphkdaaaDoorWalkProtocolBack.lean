/- The pure statement of the law ProtocolBack, and the walk that follows from it. -/
import Derived.Test.YthfhbdncphkdaaaDoorHf11
set_option linter.unusedVariables false
namespace Go.Proofs.YthfhbdncphkdaaaDoor.H
open Go.RowKit Go.Proofs.YthfhbdncphkdaaaDoorW.PrintWords
/-- The one pure statement that is left. -/
def dataflowlaw39_ProtocolBack.Pure : Prop := ∀ (a0_0 : ByteArray) (l0_1 : List (ByteArray)) (a0_2 : Int) (a0_3 : Int) (l0_4 : List (S64)), (a0_0.size ≤ 9223372036854775807 ∧ (∀ x ∈ l0_1, x.size ≤ 9223372036854775807) ∧ (Lit.int .i64 a0_2).wf = true ∧ (Lit.int .i64 a0_3).wf = true ∧ (∀ x ∈ l0_4, ((Lit.int .i64 x.f0).wf = true ∧ x.f1.size ≤ 9223372036854775807 ∧ (Lit.int .i64 x.f2).wf = true))) → ∃ k, dataflowlaw39_ProtocolBack.f k a0_0 l0_1 a0_2 a0_3 l0_4 = some true
theorem dataflowlaw39_ProtocolBack.walk (P : dataflowlaw39_ProtocolBack.Pure) (a0_0 : ByteArray) (A0_1 : Option Addr) (c0_1 : Nat) (l0_1 : List (ByteArray)) (a0_2 : Int) (a0_3 : Int) (A0_4 : Option Addr) (c0_4 : Nat) (l0_4 : List (S64)) (w : World) (hr0_1 : Kd.C Kd.string w A0_1 l0_1.length l0_1) (hc0_1 : l0_1.length ≤ c0_1) (hr0_4 : Kd.C k64 w A0_4 l0_4.length l0_4) (hc0_4 : l0_4.length ≤ c0_4) (hgh : Gh w) (q0 : (a0_0.size ≤ 9223372036854775807 ∧ (∀ x ∈ l0_1, x.size ≤ 9223372036854775807) ∧ (Lit.int .i64 a0_2).wf = true ∧ (Lit.int .i64 a0_3).wf = true ∧ (∀ x ∈ l0_4, ((Lit.int .i64 x.f0).wf = true ∧ x.f1.size ≤ 9223372036854775807 ∧ (Lit.int .i64 x.f2).wf = true)))) :
    Calls Tryd.prog 11 #[.agg #[.string a0_0, .slice A0_1 l0_1.length c0_1, .int .i64 a0_2, .int .i64 a0_3, .slice A0_4 l0_4.length c0_4]] w fun e w' => e = .returned (.bool true) ∧ Below w.heap.size w w' := by
  obtain ⟨k, h⟩ := P a0_0 l0_1 a0_2 a0_3 l0_4 q0
  refine (dataflowlaw39_ProtocolBack.calls k a0_0 A0_1 c0_1 l0_1 a0_2 a0_3 A0_4 c0_4 l0_4 true w hr0_1 hc0_1 hr0_4 hc0_4 hgh h).mono ?_
  rintro e w' ⟨rfl, hd⟩
  exact ⟨rfl, hd⟩
end Go.Proofs.YthfhbdncphkdaaaDoor.H

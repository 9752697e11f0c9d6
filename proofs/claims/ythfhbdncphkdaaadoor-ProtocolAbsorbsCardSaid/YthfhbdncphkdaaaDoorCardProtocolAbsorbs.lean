/- The law ProtocolAbsorbs of the given program: for every input the call returns true and its arguments read as before. Conditions: the listed package variables hold what the program's text lays (tied). -/
import Derived.Test.YthfhbdncphkdaaaDoorRowProtocolAbsorbs
import Derived.Test.YthfhbdncphkdaaaDoorTie
import Derived.Test.YthfhbdncphkdaaaDoorCards
import Derived.SevenTiedAt
namespace Go.Proofs.YthfhbdncphkdaaaDoor
open Go
theorem protocolAbsorbs_card : Rows.ProtocolAbsorbsCardSaid :=
  Claim7.holds_tied_plain_at .later [] [.data] true (true, "018ec51513146fa51bb83c71926e2aa3c4bdfb495f0dd487e4ddbce391f2d1c8") false
    protocolAbsorbs.proved (fun _ h => by cases h) (by kernel_rfl) (fun _ h => by cases h) protocolAbsorbs_row_tie rfl ⟨rfl, rfl⟩ (by kernel_rfl) rfl
    (fun f fn hf hfn => by
      obtain rfl : f = 10 := Option.some.inj ((show Tryd.prog.funcNamed Rows.protocolAbsorbsRow.func = some 10 by kernel_rfl).symm.trans hf) |>.symm
      obtain rfl : fn = Tryd.f10 := (Option.some.inj (Tryd.func10.symm.trans hfn)).symm
      exact ⟨by kernel_rfl, fun j t ht => by
        rw [Tryd.params10] at ht
        have hm : t ∈ [35, 32] := by simpa using Array.mem_of_getElem? ht
        have hall : ([35, 32].all fun u => !Tryd.prog.wantsStandIn u) = true := by kernel_rfl
        exact (show Tryd.prog.wantsStandIn t = false by simpa using List.all_eq_true.1 hall t hm)⟩)
    (by kernel_rfl)
#print axioms protocolAbsorbs_card
end Go.Proofs.YthfhbdncphkdaaaDoor

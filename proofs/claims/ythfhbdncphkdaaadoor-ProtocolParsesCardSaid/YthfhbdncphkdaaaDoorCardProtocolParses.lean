/- The law ProtocolParses of the given program: for every input the call returns true and its arguments read as before. Conditions: the listed package variables hold what the program's text lays (tied). -/
import Derived.Test.YthfhbdncphkdaaaDoorRowProtocolParses
import Derived.Test.YthfhbdncphkdaaaDoorTie
import Derived.Test.YthfhbdncphkdaaaDoorCards
import Derived.SevenTiedAt
namespace Go.Proofs.YthfhbdncphkdaaaDoor
open Go
theorem protocolParses_card : Rows.ProtocolParsesCardSaid :=
  Claim7.holds_tied_plain_at .later [] [.data, .data, .pinned] true (true, "018ec51513146fa51bb83c71926e2aa3c4bdfb495f0dd487e4ddbce391f2d1c8") false
    protocolParses.proved (fun _ h => by cases h) (by kernel_rfl) (fun _ h => by cases h) protocolParses_row_tie rfl ⟨rfl, rfl⟩ (by kernel_rfl) rfl
    (fun f fn hf hfn => by
      obtain rfl : f = 12 := Option.some.inj ((show Tryd.prog.funcNamed Rows.protocolParsesRow.func = some 12 by kernel_rfl).symm.trans hf) |>.symm
      obtain rfl : fn = Tryd.f12 := (Option.some.inj (Tryd.func12.symm.trans hfn)).symm
      exact ⟨by kernel_rfl, fun j t ht => by
        rw [Tryd.params12] at ht
        have hm : t ∈ [9] := by simpa using Array.mem_of_getElem? ht
        have hall : ([9].all fun u => !Tryd.prog.wantsStandIn u) = true := by kernel_rfl
        exact (show Tryd.prog.wantsStandIn t = false by simpa using List.all_eq_true.1 hall t hm)⟩)
    (by kernel_rfl)
#print axioms protocolParses_card
end Go.Proofs.YthfhbdncphkdaaaDoor

/- The law SuppressSplit of the given program: for every input the call returns true and its arguments read as before. Conditions: the listed package variables hold what the program's text lays (tied). -/
import Derived.Test.YtnoangbidnigdaaDoorRowSuppressSplit
import Derived.Test.YtnoangbidnigdaaDoorTie
import Derived.Test.YtnoangbidnigdaaDoorCards
import Derived.SevenTiedAt
namespace Go.Proofs.YtnoangbidnigdaaDoor
open Go
theorem suppressSplit_card : Rows.SuppressSplitCardSaid :=
  Claim7.holds_tied_plain_at .later [] [.data, .handle, .data, .widerDeep, .pinned] true (true, "03f7e6a959acd5efdf070100afaee45044fdd04c6f0bf518ae47c78205d84695") true
    suppressSplit.proved (fun _ h => by cases h) (by kernel_rfl) (fun _ h => by cases h) suppressSplit_row_tie rfl ⟨rfl, rfl⟩ (by kernel_rfl) rfl
    (fun f fn hf hfn => by
      obtain rfl : f = 7 := Option.some.inj ((show Tryd.prog.funcNamed Rows.suppressSplitRow.func = some 7 by kernel_rfl).symm.trans hf) |>.symm
      obtain rfl : fn = Tryd.f7 := (Option.some.inj (Tryd.func7.symm.trans hfn)).symm
      exact ⟨by kernel_rfl, fun j t ht => by
        rw [Tryd.params7] at ht
        have hm : t ∈ [41, 33] := by simpa using Array.mem_of_getElem? ht
        have hall : ([41, 33].all fun u => !Tryd.prog.wantsStandIn u) = true := by kernel_rfl
        exact (show Tryd.prog.wantsStandIn t = false by simpa using List.all_eq_true.1 hall t hm)⟩)
    (by kernel_rfl)
#print axioms suppressSplit_card
end Go.Proofs.YtnoangbidnigdaaDoor

/- The law SuppressParses of the given program: for every input the call returns true and its arguments read as before. Conditions: the listed package variables hold what the program's text lays (tied). -/
import Derived.Test.YtnoangbidnigdaaDoorRowSuppressParses
import Derived.Test.YtnoangbidnigdaaDoorTie
import Derived.Test.YtnoangbidnigdaaDoorCards
import Derived.SevenTiedAt
namespace Go.Proofs.YtnoangbidnigdaaDoor
open Go
theorem suppressParses_card : Rows.SuppressParsesCardSaid :=
  Claim7.holds_tied_plain_at .later [] [.data, .handle, .data, .widerDeep, .pinned] true (true, "03f7e6a959acd5efdf070100afaee45044fdd04c6f0bf518ae47c78205d84695") true
    suppressParses.proved (fun _ h => by cases h) (by kernel_rfl) (fun _ h => by cases h) suppressParses_row_tie rfl ⟨rfl, rfl⟩ (by kernel_rfl) rfl
    (fun f fn hf hfn => by
      obtain rfl : f = 5 := Option.some.inj ((show Tryd.prog.funcNamed Rows.suppressParsesRow.func = some 5 by kernel_rfl).symm.trans hf) |>.symm
      obtain rfl : fn = Tryd.f5 := (Option.some.inj (Tryd.func5.symm.trans hfn)).symm
      exact ⟨by kernel_rfl, fun j t ht => by
        rw [Tryd.params5] at ht
        have hm : t ∈ [9] := by simpa using Array.mem_of_getElem? ht
        have hall : ([9].all fun u => !Tryd.prog.wantsStandIn u) = true := by kernel_rfl
        exact (show Tryd.prog.wantsStandIn t = false by simpa using List.all_eq_true.1 hall t hm)⟩)
    (by kernel_rfl)
#print axioms suppressParses_card
end Go.Proofs.YtnoangbidnigdaaDoor

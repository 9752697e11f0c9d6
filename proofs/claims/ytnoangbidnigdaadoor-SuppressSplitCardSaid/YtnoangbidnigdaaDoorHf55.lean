/- Printed (xprint.py): Go functions as Lean functions, each with the proof that its call does what the Lean function says. -/
import Derived.Test.YtnoangbidnigdaaDoorH0
import Derived.Test.YtnoangbidnigdaaDoorShelf
namespace Go.Proofs.YtnoangbidnigdaaDoor.H
open Go.RowKit Go.Proofs.YtnoangbidnigdaaDoorW.PrintWords Go.Proofs.YtnoangbidnigdaaDoorW.PrintLast Go.Proofs.YtnoangbidnigdaaDoorW.PrintMore
attribute [local go_sem] max2_int min2_int max_two min_two max_three min_three max_four min_four   -- for this text's walks alone
set_option linter.unusedVariables false
set_option linter.unusedSimpArgs false
/-! ### strings_SplitN: function 55 -/
--EXT strings_SplitN
/-- New memory that holds texts, and more places behind them. -/
theorem R_of_cells(w:World)(l:List ByteArray)(n:Nat)(hl:l.length≤n)(hn:n≤maxLen):Kd.R Kd.string 9 (w.alloc (.cells (Lib.cellsOf l n) 9)) w.heap.size (fun _=>True) (.slice (some ⟨w.heap.size,0,none⟩) l.length n) l:=by
  refine Kd.R_of_own ⟨?_,.inr ⟨w.heap.size,n,Lib.cellsOf l n,rfl,Nat.le_refl _,?_,hl,hn,?_,?_⟩⟩ (fun _ _=>trivial)
  · simp [encs]
  · show(w.heap.push _)[w.heap.size]?=some _
    simp
  · rw [Lib.cellsOf_size hl];omega
  · unfold Lib.cellsOf encs
    rw [List.toList_toArray,List.take_append_of_le_length (by simp),List.take_of_length_le (by simp)]
def strings_SplitN.f(a0:ByteArray)(a1:ByteArray)(a2:Int):Option (List ByteArray):=if a0.size<4294967281∧1≤a1.size∧1≤a2∧a2≤9223372036854775807 then some (Lib.splitB a1 0 (min a2.toNat (a0.size+1)-1) a0) else none
theorem strings_SplitN.calls(a0:ByteArray)(a1:ByteArray)(a2:Int)(r:List ByteArray)(w:World)(hgh:Gh w)(h:strings_SplitN.f a0 a1 a2=some r) :
    Calls Tryd.prog 55 #[.string a0,.string a1,.int .i64 a2] w fun e w'=>∃ v0_:Value,e=.returned v0_∧Kd.R Kd.string 9 w' w.heap.size (fun _=>True) v0_ r∧Below w.heap.size w w':=by
  unfold strings_SplitN.f at h
  split at h
  · rename_i hs
    obtain⟨h1,h2,h3,h4⟩:=hs;obtain rfl:=Option.some.inj h;obtain⟨m,hm⟩:=hgh.mx;obtain⟨n,rfl⟩:∃ n:Nat,a2=(n:Int):=⟨a2.toNat,by omega⟩;rw [Int.toNat_natCast]
    have hl:(Lib.splitB a1 0 (min n (a0.size+1)-1) a0).length≤min n (a0.size+1):=by have:=Lib.splitB_length_le a1 0 (min n (a0.size+1)-1) a0;omega
    refine(Tryd.strings_SplitN a0 a1 n m w h1 hm h2 (by omega) (by omega)).mono ?_;rintro e w' ⟨rfl,rfl⟩;refine⟨_,rfl,R_of_cells _ _ _ hl (by unfold maxLen;omega),below_alloc (Below.refl _ _) _⟩
  · cases h

end Go.Proofs.YtnoangbidnigdaaDoor.H

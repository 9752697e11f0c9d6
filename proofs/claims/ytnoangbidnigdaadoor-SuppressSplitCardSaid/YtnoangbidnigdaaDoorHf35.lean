/- Printed (xprint.py): Go functions as Lean functions, each with the proof that its call does what the Lean function says. -/
import Derived.Test.YtnoangbidnigdaaDoorH0
import Derived.Test.YtnoangbidnigdaaDoorShelf
namespace Go.Proofs.YtnoangbidnigdaaDoor.H
open Go.RowKit Go.Proofs.YtnoangbidnigdaaDoorW.PrintWords Go.Proofs.YtnoangbidnigdaaDoorW.PrintLast Go.Proofs.YtnoangbidnigdaaDoorW.PrintMore
set_option linter.unusedVariables false
set_option linter.unusedSimpArgs false
/-! ### strings_Cut: function 35 -/
--EXT strings_Cut
def strings_Cut.f(a0:ByteArray)(a1:ByteArray):Option (ByteArray × ByteArray × Bool):=if a0.size<4294967281 then some (⟨(Lib.cut a0.data.toList a1.data.toList).1.toArray⟩,⟨(Lib.cut a0.data.toList a1.data.toList).2.1.toArray⟩,(Lib.cut a0.data.toList a1.data.toList).2.2) else none
theorem strings_Cut.calls(a0:ByteArray)(a1:ByteArray)(r1:ByteArray)(r2:ByteArray)(r3:Bool)(w:World)(hgh:Gh w)(h:strings_Cut.f a0 a1=some (r1,r2,r3)) :
    Calls Tryd.prog 35 #[.string a0,.string a1] w fun e w'=>e=.returned (.tuple #[.string r1,.string r2,.bool r3])∧Drawn0 w w':=by
  unfold strings_Cut.f at h
  split at h
  · rename_i hs
    simp only [Option.some.injEq,Prod.mk.injEq] at h;obtain⟨rfl,rfl,rfl⟩:=h;obtain⟨m,hm⟩:=hgh.mx
    exact(Tryd.strings_Cut a0 a1 m w hs hm).mono fun e w' h=>⟨h.1,⟨h.2⟩⟩
  · cases h

end Go.Proofs.YtnoangbidnigdaaDoor.H

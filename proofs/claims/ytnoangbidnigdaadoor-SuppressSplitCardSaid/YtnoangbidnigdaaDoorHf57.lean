/- Printed (xprint.py): Go functions as Lean functions, each with the proof that its call does what the Lean function says. -/
import Derived.Test.YtnoangbidnigdaaDoorH0
namespace Go.Proofs.YtnoangbidnigdaaDoor.H
open Go.RowKit Go.Proofs.YtnoangbidnigdaaDoorW.PrintWords Go.Proofs.YtnoangbidnigdaaDoorW.PrintLast Go.Proofs.YtnoangbidnigdaaDoorW.PrintMore
attribute [local go_sem] max2_int min2_int max_two min_two max_three min_three max_four min_four   -- for this text's walks alone
set_option linter.unusedVariables false
set_option linter.unusedSimpArgs false
/-! ### suppress_unstar: function 57 -/
def suppress_unstar.f(a0:ByteArray):Option (ByteArray):=if a0.toList=([42]:List UInt8) then(some (⟨#[]⟩:ByteArray)) else(some a0)
set_option maxHeartbeats 8000000 in
set_option maxRecDepth 100000 in
theorem suppress_unstar.calls(a0:ByteArray)(r:ByteArray)(w:World)(h:suppress_unstar.f a0=some r) :
  Calls Tryd.prog 57 #[.string a0] w fun e w'=>e=.returned (.string r)∧Drawn0 w w':=by
 have H:(if a0.toList=([42]:List UInt8) then(some (⟨#[]⟩:ByteArray)) else(some a0))=some r:=h;clear h
 by_cases c2:a0.toList=([42]:List UInt8)
 ·rw [if_pos c2] at H;obtain⟨c2b0,c2b1⟩:=eqT_ c2;clear c2;obtain rfl:=Option.some.inj H;go_enter Tryd.func57,Tryd.ntmps57;go_wp2;go_ret;exact⟨fr_,(by repeat(first|exact Drawn0.refl _|apply Drawn0.step))⟩
 ·rw [if_neg c2] at H;obtain⟨c2b0,c2b1⟩:=eqF_ c2;obtain rfl:=Option.some.inj H;go_enter Tryd.func57,Tryd.ntmps57;go_wp2;go_ret;exact⟨fr_,(by repeat(first|exact Drawn0.refl _|apply Drawn0.step))⟩
end Go.Proofs.YtnoangbidnigdaaDoor.H

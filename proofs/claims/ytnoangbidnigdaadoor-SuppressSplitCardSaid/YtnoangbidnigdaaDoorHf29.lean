/- Printed (xprint.py): Go functions as Lean functions, each with the proof that its call does what the Lean function says. -/
import Derived.Test.YtnoangbidnigdaaDoorH0
namespace Go.Proofs.YtnoangbidnigdaaDoor.H
open Go.RowKit Go.Proofs.YtnoangbidnigdaaDoorW.PrintWords Go.Proofs.YtnoangbidnigdaaDoorW.PrintLast Go.Proofs.YtnoangbidnigdaaDoorW.PrintMore
attribute [local go_sem] max2_int min2_int max_two min_two max_three min_three max_four min_four   -- for this text's walks alone
set_option linter.unusedVariables false
set_option linter.unusedSimpArgs false
/-! ### suppress_Match_1: function 29 -/
def suppress_Match_1.f(a0:ByteArray)(a1:ByteArray):Option (Bool):=if a0.toList=([]:List UInt8) then(some true) else(some (a0.toList==a1.toList))
set_option maxHeartbeats 8000000 in
set_option maxRecDepth 100000 in
theorem suppress_Match_1.calls(a0:ByteArray)(a1:ByteArray)(r:Bool)(w:World)(h:suppress_Match_1.f a0 a1=some r) :
  Calls Tryd.prog 29 #[.string a0,.string a1] w fun e w'=>e=.returned (.bool r)∧Drawn0 w w':=by
 have H:(if a0.toList=([]:List UInt8) then(some true) else(some (a0.toList==a1.toList)))=some r:=h;clear h
 by_cases c3:a0.toList=([]:List UInt8)
 ·rw [if_pos c3] at H;obtain⟨c3b0,c3b1⟩:=eqT_ c3;clear c3;obtain rfl:=Option.some.inj H;go_enter Tryd.func29,Tryd.ntmps29;go_wp2;go_ret;exact⟨fr_,(by repeat(first|exact Drawn0.refl _|apply Drawn0.step))⟩
 ·rw [if_neg c3] at H;obtain⟨c3b0,c3b1⟩:=eqF_ c3;obtain rfl:=Option.some.inj H;go_enter Tryd.func29,Tryd.ntmps29;go_wp2;go_ret;exact⟨fr_,(by repeat(first|exact Drawn0.refl _|apply Drawn0.step))⟩
end Go.Proofs.YtnoangbidnigdaaDoor.H

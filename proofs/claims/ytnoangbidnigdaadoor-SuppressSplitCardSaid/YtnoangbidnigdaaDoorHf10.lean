/- Printed (xprint.py): Go functions as Lean functions, each with the proof that its call does what the Lean function says. -/
import Derived.Test.YtnoangbidnigdaaDoorH0
import Derived.Test.YtnoangbidnigdaaDoorHf29
namespace Go.Proofs.YtnoangbidnigdaaDoor.H
open Go.RowKit Go.Proofs.YtnoangbidnigdaaDoorW.PrintWords Go.Proofs.YtnoangbidnigdaaDoorW.PrintLast Go.Proofs.YtnoangbidnigdaaDoorW.PrintMore
attribute [local go_sem] max2_int min2_int max_two min_two max_three min_three max_four min_four   -- for this text's walks alone
set_option linter.unusedVariables false
set_option linter.unusedSimpArgs false
/-! ### suppress_Match: function 10 -/
--EXT suppress_Match
/-- Does what is asked for fit? -/
def fitsB(a b:ByteArray):Bool:=if a.toList=([]:List UInt8) then true else a.toList==b.toList
theorem fits_eq(a b:ByteArray):suppress_Match_1.f a b=some (fitsB a b):=by
  unfold suppress_Match_1.f fitsB
  split <;> rfl
def suppress_Match.f(a0_0:Int)(a0_1:ByteArray)(a0_2:ByteArray)(a0_3:ByteArray)(a0_4:ByteArray)(a1_0:Int)(a1_1:ByteArray)(a1_2:ByteArray)(a1_3:Int)(a1_4:ByteArray)(l1_5:List (S25)):Option (Bool):=some ((a0_0==0||a0_0==a1_0)&&fitsB a0_1 a1_1&&fitsB a0_2 a1_2&&fitsB a0_3 a1_4)
set_option maxHeartbeats 2000000 in
theorem suppress_Match.calls(a0_0:Int)(a0_1:ByteArray)(a0_2:ByteArray)(a0_3:ByteArray)(a0_4:ByteArray)(a1_0:Int)(a1_1:ByteArray)(a1_2:ByteArray)(a1_3:Int)(a1_4:ByteArray)(A1_5:Option Addr)(c1_5:Nat)(l1_5:List (S25))(r:Bool)(w:World)(hr1_5:Kd.C k25 w A1_5 l1_5.length l1_5)(hc1_5:l1_5.length≤c1_5)(h:suppress_Match.f a0_0 a0_1 a0_2 a0_3 a0_4 a1_0 a1_1 a1_2 a1_3 a1_4 l1_5=some r) :
    Calls Tryd.prog 10 #[.agg #[.int .i64 a0_0,.string a0_1,.string a0_2,.string a0_3,.string a0_4],.agg #[.int .i64 a1_0,.string a1_1,.string a1_2,.int .i64 a1_3,.string a1_4,.slice A1_5 l1_5.length c1_5]] w fun e w'=>e=.returned (.bool r)∧Below w.heap.size w w':=by
  have hu1:=Tryd.underlying23;have hu2:=Tryd.underlying28;have hu3:=Tryd.underlying25;obtain rfl:=Option.some.inj h;clear h hr1_5 hc1_5;obtain⟨k0,hk0⟩:∃ k,(a0_0==0)=k:=⟨_,rfl⟩;obtain⟨k1,hk1⟩:∃ k,(a0_0==a1_0)=k:=⟨_,rfl⟩;have F1:=Aside0.mk (fits_eq a0_1 a1_1);have F2:=Aside0.mk (fits_eq a0_2 a1_2);have F3:=Aside0.mk (fits_eq a0_3 a1_4);rw [hk0,hk1];generalize fitsB a0_1 a1_1=q1 at F1 ⊢;generalize fitsB a0_2 a1_2=q2 at F2 ⊢;generalize fitsB a0_3 a1_4=q3 at F3 ⊢;have hB:=Aside0.mk (Below.refl w.heap.size w);cases k0 <;> cases k1 <;> cases q1 <;> cases q2
  all_goals
    go_enter Tryd.func10,Tryd.ntmps10
    go_wp2_with (first|(go_at_call 29;(with_reducible refine(suppress_Match_1.calls a0_1 a1_1 _ _ F1.out).mono ?_);rintro e w' ⟨rfl,⟨nd,rfl⟩⟩)|(go_at_call 29;(with_reducible refine(suppress_Match_1.calls a0_2 a1_2 _ _ F2.out).mono ?_);rintro e w' ⟨rfl,⟨nd,rfl⟩⟩)|(go_at_call 29;(with_reducible refine(suppress_Match_1.calls a0_3 a1_4 _ _ F3.out).mono ?_);rintro e w' ⟨rfl,⟨nd,rfl⟩⟩))
    go_ret;exact⟨by rfl,by repeat(first|exact hB.out|apply pw_below_drewN|apply below_drew1|apply below_alloc)⟩

end Go.Proofs.YtnoangbidnigdaaDoor.H

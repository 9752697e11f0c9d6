/- Printed (xprint.py): Go functions as Lean functions, each with the proof that its call does what the Lean function says. -/
import Derived.Test.YthfhbdncphkdaaaDoorH0
import Derived.Test.YthfhbdncphkdaaaDoorHe
namespace Go.Proofs.YthfhbdncphkdaaaDoor.H
open Go.RowKit Go.Proofs.YthfhbdncphkdaaaDoorW.PrintWords Go.Proofs.YthfhbdncphkdaaaDoorW.PrintLast Go.Proofs.YthfhbdncphkdaaaDoorW.PrintMore
attribute [local go_sem] max2_int min2_int max_two min_two max_three min_three max_four min_four   -- for this text's walks alone
set_option linter.unusedVariables false
set_option linter.unusedSimpArgs false
/-! ### dataflowref39_form: function 68 -/
def dataflowref39_form.f(k:Nat)(l0:List ByteArray)(a1:ByteArray)(a2:Int):Option (Bool):=if 0<(l0.length:Int) then(if (rdOf ByteArray.empty l0 0).toList=a1.toList then(if a2>0 then(if (l0.length:Int)=a2 then(if a2=0 then(if (l0.length:Int)<2 then(some false) else((dataflowref39_at.f k l0 (⟨#[]⟩:ByteArray)).bind fun t69002=>(some (decide (t69002<0))))) else((dataflowref39_at.f k l0 (⟨#[]⟩:ByteArray)).bind fun t69003=>(some (decide (t69003<0))))) else(some false)) else(if a2=0 then(if (l0.length:Int)<2 then(some false) else((dataflowref39_at.f k l0 (⟨#[]⟩:ByteArray)).bind fun t69004=>(some (decide (t69004<0))))) else((dataflowref39_at.f k l0 (⟨#[]⟩:ByteArray)).bind fun t69005=>(some (decide (t69005<0)))))) else(some false)) else(none)
theorem b68_1{p:Prop}(h:p:=by repeat(first|exact Drawn0.refl _|apply Drawn0.step)):p:=h
theorem b68_2{p:Prop}(h:p:=by repeat(first|exact HR0.out|(with_reducible refine Kd.C_alloc ?_ _)|(with_reducible refine Kd.C_drewN ?_ _)|(with_reducible refine Kd.C_drew ?_))):p:=h
theorem dataflowref39_form.mono:∀ a0 a1 a2 k,LeO (dataflowref39_form.f k a0 a1 a2) (dataflowref39_form.f (k+1) a0 a1 a2):=by
 intro a0 a1 a2 k;unfold dataflowref39_form.f
 repeat' first
   |(with_reducible exact dataflowref39_at.mono _ _ _)
   |(with_reducible exact LeO.refl _)
   |(with_reducible exact LeO.none _)
   |(with_reducible refine LeO.ite ?_ ?_)
   |(with_reducible refine LeO.bind ?_ (fun _=>?_))
   |exact dataflowref39_at.mono _ _ _
   |exact LeO.none _
   |refine LeO.ite ?_ ?_
   |refine LeO.bind ?_ (fun _=>?_)
set_option maxHeartbeats 8000000 in
set_option maxRecDepth 100000 in
theorem dataflowref39_form.calls(k:Nat)(A0:Option Addr)(c0:Nat)(l0:List ByteArray)(a1:ByteArray)(a2:Int)(r:Bool)(w:World)(hr0:Kd.C Kd.string w A0 l0.length l0)(hc0:l0.length≤c0)(h:dataflowref39_form.f k l0 a1 a2=some r) :
  Calls Tryd.prog 68 #[.slice A0 l0.length c0,.string a1,.int .i64 a2] w fun e w'=>e=.returned (.bool r)∧Drawn0 w w':=by
 have HR0:=Aside0.mk hr0;have HC0:=Aside0.mk hc0;clear hr0 hc0;have H:(if 0<(l0.length:Int) then(if (rdOf ByteArray.empty l0 0).toList=a1.toList then(if a2>0 then(if (l0.length:Int)=a2 then(if a2=0 then(if (l0.length:Int)<2 then(some false) else((dataflowref39_at.f k l0 (⟨#[]⟩:ByteArray)).bind fun t69002=>(some (decide (t69002<0))))) else((dataflowref39_at.f k l0 (⟨#[]⟩:ByteArray)).bind fun t69003=>(some (decide (t69003<0))))) else(some false)) else(if a2=0 then(if (l0.length:Int)<2 then(some false) else((dataflowref39_at.f k l0 (⟨#[]⟩:ByteArray)).bind fun t69004=>(some (decide (t69004<0))))) else((dataflowref39_at.f k l0 (⟨#[]⟩:ByteArray)).bind fun t69005=>(some (decide (t69005<0)))))) else(some false)) else(none))=some r:=h;clear h
 by_cases c4:0<(l0.length:Int)
 ·rw [if_pos c4] at H;have c4b0:decide (0<(l0.length:Int))=true:=decide_eq_true c4;have c4b1:decide (0<l0.length)=true:=decide_eq_true (by omega);clear c4
  by_cases c5:(rdOf ByteArray.empty l0 0).toList=a1.toList
  ·rw [if_pos c5] at H;obtain⟨c5b0,c5b1⟩:=eqT_ c5;clear c5
   by_cases c6:a2>0
   ·rw [if_pos c6] at H;have c6b0:decide (0<a2)=true:=decide_eq_true c6;clear c6
    by_cases c7:(l0.length:Int)=a2
    ·rw [if_pos c7] at H;obtain⟨c7b0,c7b1⟩:=eqT_ c7;clear c7
     by_cases c8:a2=0
     ·rw [if_pos c8] at H;obtain⟨c8b0,c8b1⟩:=eqT_ c8;clear c8
      by_cases c9:(l0.length:Int)<2
      ·rw [if_pos c9] at H;have c9b0:decide ((l0.length:Int)<2)=true:=decide_eq_true c9;have c9b1:decide (l0.length<2)=true:=decide_eq_true (by omega);clear c9;obtain rfl:=Option.some.inj H;have p69001:0≤(0:Int):=(by omega);have q69001:0<(l0.length:Int):=of_decide_eq_true as_;obtain⟨ad69001,e69001,hx69001_0⟩:=Kd.at_string HR0.out 0 p69001 q69001;cases e69001;have qi69001:(0<l0.length)=True:=eq_true (by omega);(try rw [show((0:Int)).toNat=0 from rfl] at hx69001_0);(try rw [Addr.add_zero'] at hx69001_0);replace p69001:=eq_true p69001;replace q69001:=eq_true q69001;go_enter Tryd.func68,Tryd.ntmps68;go_wp2;go_ret;exact⟨fr_,b68_1⟩
      ·rw [if_neg c9] at H;have c9b0:decide ((l0.length:Int)<2)=false:=decide_eq_false c9;have c9b1:decide (l0.length<2)=false:=decide_eq_false (by omega);clear c9;replace H:=Option.bind_eq_some_iff.mp H;obtain⟨t69002,A100,H⟩:=H;have A10:=Aside0.mk A100;clear A100;obtain rfl:=Option.some.inj H;have p69001:0≤(0:Int):=(by omega);have q69001:0<(l0.length:Int):=of_decide_eq_true as_;obtain⟨ad69001,e69001,hx69001_0⟩:=Kd.at_string HR0.out 0 p69001 q69001;cases e69001;have qi69001:(0<l0.length)=True:=eq_true (by omega);(try rw [show((0:Int)).toNat=0 from rfl] at hx69001_0);(try rw [Addr.add_zero'] at hx69001_0);replace p69001:=eq_true p69001;replace q69001:=eq_true q69001;go_enter Tryd.func68,Tryd.ntmps68
       go_wp2_with (first|((with_reducible refine gate_callee (f:=57) rfl ?_);refine goesL_ (some 32) rfl rfl Tryd.func57 (by kernel_rfl) rfl #[.slice (some ad69001) l0.length c0,.string (⟨#[]⟩:ByteArray)] rfl mp_ ?_;(with_reducible refine(dataflowref39_at.calls k _ _ l0 (⟨#[]⟩:ByteArray) t69002 _ ?side1 ?side2 A10.out).mono ?_);(case side1=>exact b68_2);(case side2=>exact HC0.out);rintro e w' ⟨rfl,⟨nd,rfl⟩⟩;refine⟨_,rfl,?_⟩))
       go_ret;exact⟨fr_,b68_1⟩
     ·rw [if_neg c8] at H;obtain⟨c8b0,c8b1⟩:=eqF_ c8;replace H:=Option.bind_eq_some_iff.mp H;obtain⟨t69003,A110,H⟩:=H;have A11:=Aside0.mk A110;clear A110;obtain rfl:=Option.some.inj H;have p69001:0≤(0:Int):=(by omega);have q69001:0<(l0.length:Int):=of_decide_eq_true as_;obtain⟨ad69001,e69001,hx69001_0⟩:=Kd.at_string HR0.out 0 p69001 q69001;cases e69001;have qi69001:(0<l0.length)=True:=eq_true (by omega);(try rw [show((0:Int)).toNat=0 from rfl] at hx69001_0);(try rw [Addr.add_zero'] at hx69001_0);replace p69001:=eq_true p69001;replace q69001:=eq_true q69001;go_enter Tryd.func68,Tryd.ntmps68
      go_wp2_with (first|((with_reducible refine gate_callee (f:=57) rfl ?_);refine goesL_ (some 32) rfl rfl Tryd.func57 (by kernel_rfl) rfl #[.slice (some ad69001) l0.length c0,.string (⟨#[]⟩:ByteArray)] rfl mp_ ?_;(with_reducible refine(dataflowref39_at.calls k _ _ l0 (⟨#[]⟩:ByteArray) t69003 _ ?side1 ?side2 A11.out).mono ?_);(case side1=>exact b68_2);(case side2=>exact HC0.out);rintro e w' ⟨rfl,⟨nd,rfl⟩⟩;refine⟨_,rfl,?_⟩))
      go_ret;exact⟨fr_,b68_1⟩
    ·rw [if_neg c7] at H;obtain⟨c7b0,c7b1⟩:=eqF_ c7;obtain rfl:=Option.some.inj H;have p69001:0≤(0:Int):=(by omega);have q69001:0<(l0.length:Int):=of_decide_eq_true as_;obtain⟨ad69001,e69001,hx69001_0⟩:=Kd.at_string HR0.out 0 p69001 q69001;cases e69001;have qi69001:(0<l0.length)=True:=eq_true (by omega);(try rw [show((0:Int)).toNat=0 from rfl] at hx69001_0);(try rw [Addr.add_zero'] at hx69001_0);replace p69001:=eq_true p69001;replace q69001:=eq_true q69001;go_enter Tryd.func68,Tryd.ntmps68;go_wp2;go_ret;exact⟨fr_,b68_1⟩
   ·rw [if_neg c6] at H;have c6b0:decide (0<a2)=false:=decide_eq_false c6;clear c6
    by_cases c12:a2=0
    ·rw [if_pos c12] at H;obtain⟨c12b0,c12b1⟩:=eqT_ c12;clear c12
     by_cases c13:(l0.length:Int)<2
     ·rw [if_pos c13] at H;have c13b0:decide ((l0.length:Int)<2)=true:=decide_eq_true c13;have c13b1:decide (l0.length<2)=true:=decide_eq_true (by omega);clear c13;obtain rfl:=Option.some.inj H;have p69001:0≤(0:Int):=(by omega);have q69001:0<(l0.length:Int):=of_decide_eq_true as_;obtain⟨ad69001,e69001,hx69001_0⟩:=Kd.at_string HR0.out 0 p69001 q69001;cases e69001;have qi69001:(0<l0.length)=True:=eq_true (by omega);(try rw [show((0:Int)).toNat=0 from rfl] at hx69001_0);(try rw [Addr.add_zero'] at hx69001_0);replace p69001:=eq_true p69001;replace q69001:=eq_true q69001;go_enter Tryd.func68,Tryd.ntmps68;go_wp2;go_ret;exact⟨fr_,b68_1⟩
     ·rw [if_neg c13] at H;have c13b0:decide ((l0.length:Int)<2)=false:=decide_eq_false c13;have c13b1:decide (l0.length<2)=false:=decide_eq_false (by omega);clear c13;replace H:=Option.bind_eq_some_iff.mp H;obtain⟨t69004,A140,H⟩:=H;have A14:=Aside0.mk A140;clear A140;obtain rfl:=Option.some.inj H;have p69001:0≤(0:Int):=(by omega);have q69001:0<(l0.length:Int):=of_decide_eq_true as_;obtain⟨ad69001,e69001,hx69001_0⟩:=Kd.at_string HR0.out 0 p69001 q69001;cases e69001;have qi69001:(0<l0.length)=True:=eq_true (by omega);(try rw [show((0:Int)).toNat=0 from rfl] at hx69001_0);(try rw [Addr.add_zero'] at hx69001_0);replace p69001:=eq_true p69001;replace q69001:=eq_true q69001;go_enter Tryd.func68,Tryd.ntmps68
      go_wp2_with (first|((with_reducible refine gate_callee (f:=57) rfl ?_);refine goesL_ (some 32) rfl rfl Tryd.func57 (by kernel_rfl) rfl #[.slice (some ad69001) l0.length c0,.string (⟨#[]⟩:ByteArray)] rfl mp_ ?_;(with_reducible refine(dataflowref39_at.calls k _ _ l0 (⟨#[]⟩:ByteArray) t69004 _ ?side1 ?side2 A14.out).mono ?_);(case side1=>exact b68_2);(case side2=>exact HC0.out);rintro e w' ⟨rfl,⟨nd,rfl⟩⟩;refine⟨_,rfl,?_⟩))
      go_ret;exact⟨fr_,b68_1⟩
    ·rw [if_neg c12] at H;obtain⟨c12b0,c12b1⟩:=eqF_ c12;replace H:=Option.bind_eq_some_iff.mp H;obtain⟨t69005,A150,H⟩:=H;have A15:=Aside0.mk A150;clear A150;obtain rfl:=Option.some.inj H;have p69001:0≤(0:Int):=(by omega);have q69001:0<(l0.length:Int):=of_decide_eq_true as_;obtain⟨ad69001,e69001,hx69001_0⟩:=Kd.at_string HR0.out 0 p69001 q69001;cases e69001;have qi69001:(0<l0.length)=True:=eq_true (by omega);(try rw [show((0:Int)).toNat=0 from rfl] at hx69001_0);(try rw [Addr.add_zero'] at hx69001_0);replace p69001:=eq_true p69001;replace q69001:=eq_true q69001;go_enter Tryd.func68,Tryd.ntmps68
     go_wp2_with (first|((with_reducible refine gate_callee (f:=57) rfl ?_);refine goesL_ (some 32) rfl rfl Tryd.func57 (by kernel_rfl) rfl #[.slice (some ad69001) l0.length c0,.string (⟨#[]⟩:ByteArray)] rfl mp_ ?_;(with_reducible refine(dataflowref39_at.calls k _ _ l0 (⟨#[]⟩:ByteArray) t69005 _ ?side1 ?side2 A15.out).mono ?_);(case side1=>exact b68_2);(case side2=>exact HC0.out);rintro e w' ⟨rfl,⟨nd,rfl⟩⟩;refine⟨_,rfl,?_⟩))
     go_ret;exact⟨fr_,b68_1⟩
  ·rw [if_neg c5] at H;obtain⟨c5b0,c5b1⟩:=eqF_ c5;obtain rfl:=Option.some.inj H;have p69001:0≤(0:Int):=(by omega);have q69001:0<(l0.length:Int):=of_decide_eq_true as_;obtain⟨ad69001,e69001,hx69001_0⟩:=Kd.at_string HR0.out 0 p69001 q69001;cases e69001;have qi69001:(0<l0.length)=True:=eq_true (by omega);(try rw [show((0:Int)).toNat=0 from rfl] at hx69001_0);(try rw [Addr.add_zero'] at hx69001_0);replace p69001:=eq_true p69001;replace q69001:=eq_true q69001;go_enter Tryd.func68,Tryd.ntmps68;go_wp2;go_ret;exact⟨fr_,b68_1⟩
 ·rw [if_neg c4] at H;exact absurd H (by simp)
end Go.Proofs.YthfhbdncphkdaaaDoor.H

/- Printed (xprint.py): Go functions as Lean functions, each with the proof that its call does what the Lean function says. -/
import Derived.Test.YtnoangbidnigdaaDoorH0
namespace Go.Proofs.YtnoangbidnigdaaDoor.H
open Go.RowKit Go.Proofs.YtnoangbidnigdaaDoorW.PrintWords Go.Proofs.YtnoangbidnigdaaDoorW.PrintLast Go.Proofs.YtnoangbidnigdaaDoorW.PrintMore
attribute [local go_sem] max2_int min2_int max_two min_two max_three min_three max_four min_four   -- for this text's walks alone
attribute [local go_sem] xs_gtr xs_leq xs_geq
set_option linter.unusedVariables false
set_option linter.unusedSimpArgs false
-- BUNDLE b
/-! ### cmp_Or_int: function 82 -/
def cmp_Or_int.l0:Nat→Int→List Int→Int→Int→Option (Int)
 |0,_,_,_,_=>none
 |k+1,x3,x6,x7,x8=>if x8<x7 then(if 0≤x8 then(if x8<(x6.length:Int) then(if (rd x6 x8)=x3 then(cmp_Or_int.l0 k x3 x6 x7 (wrap64 (x8+1))) else(some (rd x6 x8))) else(none)) else(none)) else(some x3)
def cmp_Or_int.f(k:Nat)(l0:List Int):Option (Int):=cmp_Or_int.l0 k 0 l0 (l0.length:Int) 0
theorem b82_1{p:Prop}(h:p:=by repeat(first|exact Drawn0.refl _|apply Drawn0.step)):p:=h
theorem m82_0{p:Prop}(h:p:=by repeat' first|(with_reducible exact ih0 _ _ _ _)|(with_reducible exact LeO.refl _)|(with_reducible exact LeO.none _)|(with_reducible refine LeO.ite ?_ ?_)|(with_reducible refine LeO.bind ?_ (fun _=>?_))|exact ih0 _ _ _ _|exact LeO.none _|refine LeO.ite ?_ ?_|refine LeO.bind ?_ (fun _=>?_)):p:=h
theorem cmp_Or_int.mono_l:∀ k,(∀ y0 y1 y2 y3,LeO (cmp_Or_int.l0 k y0 y1 y2 y3) (cmp_Or_int.l0 (k+1) y0 y1 y2 y3))
 |0=>fun _ _ _ _ r h=>by simp [cmp_Or_int.l0] at h
 |k+1=>by
  have ih0:=cmp_Or_int.mono_l k
  ·intro y0 y1 y2 y3;unfold cmp_Or_int.l0;exact m82_0
theorem cmp_Or_int.mono:∀ a0 k,LeO (cmp_Or_int.f k a0) (cmp_Or_int.f (k+1) a0):=by
 intro a0 k;have ih0:=cmp_Or_int.mono_l k;unfold cmp_Or_int.f;exact m82_0
set_option maxHeartbeats 8000000 in
set_option maxRecDepth 100000 in
theorem cmp_Or_int.calls(k:Nat)(A0:Option Addr)(c0:Nat)(l0:List Int)(r:Int)(w:World)(hr0:Kd.C (Kd.int .i64) w A0 l0.length l0)(hc0:l0.length≤c0)(h:cmp_Or_int.f k l0=some r) :
  Calls Tryd.prog 82 #[.slice A0 l0.length c0] w fun e w'=>e=.returned (.int .i64 r)∧Drawn0 w w':=by
 have HR0:=Aside0.mk hr0;have HC0:=Aside0.mk hc0;clear hr0 hc0;have H:(cmp_Or_int.l0 k 0 l0 (l0.length:Int) 0)=some r:=h;clear h;have H':=Aside0.mk H;clear H;go_enter Tryd.func82,Tryd.ntmps82;go_wp2
 go_loopg [8] k (fun kq v8 w'=>∃ (x8_1:Int),v8=.int .i64 x8_1∧Aside0 (cmp_Or_int.l0 kq 0 l0 (l0.length:Int) x8_1=some r)∧Aside0 (kq≤k)∧Drawn0 w w')
 case atStart=>exact⟨(0),fr_,H',⟨Nat.le_refl _⟩,b82_1⟩
 case round =>
  clear H';obtain⟨x8_1,rfl,HA,HK1,⟨m1,rfl⟩⟩:=hrel
  cases gk with
  |zero=>exact absurd HA.out (by simp [cmp_Or_int.l0])
  |succ k1 =>
   have H:=HA.out;clear HA;simp only [cmp_Or_int.l0] at H
   by_cases c2:x8_1<(l0.length:Int)
   ·rw [if_pos c2] at H;have c2b0:decide (x8_1<(l0.length:Int))=true:=decide_eq_true c2;clear c2
    by_cases c3:0≤x8_1
    ·rw [if_pos c3] at H;have c3b0:decide (0≤x8_1)=true:=decide_eq_true c3;clear c3
     by_cases c4:x8_1<(l0.length:Int)
     ·rw [if_pos c4] at H;have c4b0:decide (x8_1<(l0.length:Int))=true:=decide_eq_true c4;clear c4
      by_cases c5:(rd l0 x8_1)=0
      ·rw [if_pos c5] at H;obtain⟨c5b0,c5b1⟩:=eqT_ c5;clear c5;have H':=Aside0.mk H;clear H;have p83001:0≤(x8_1:Int):=of_decide_eq_true as_;have q83001:x8_1<(l0.length:Int):=of_decide_eq_true as_;obtain⟨ad83001,e83001,hx83001_0⟩:=Kd.at_int HR0.out x8_1 p83001 q83001;cases e83001;replace p83001:=eq_true p83001;replace q83001:=eq_true q83001;go_wp2
       go_roundg k1
       case measure=>have:=HK1.out;omega
       case rel=>exact⟨(wrap64 (x8_1+1)),fr_,H',⟨(by have:=HK1.out;omega)⟩,b82_1⟩
      ·rw [if_neg c5] at H;obtain⟨c5b0,c5b1⟩:=eqF_ c5;obtain rfl:=Option.some.inj H;have p83001:0≤(x8_1:Int):=of_decide_eq_true as_;have q83001:x8_1<(l0.length:Int):=of_decide_eq_true as_;obtain⟨ad83001,e83001,hx83001_0⟩:=Kd.at_int HR0.out x8_1 p83001 q83001;cases e83001;replace p83001:=eq_true p83001;replace q83001:=eq_true q83001;go_wp2;go_ret;exact⟨fr_,b82_1⟩
     ·rw [if_neg c4] at H;exact absurd H (by simp)
    ·rw [if_neg c3] at H;exact absurd H (by simp)
   ·rw [if_neg c2] at H;have c2b0:decide (x8_1<(l0.length:Int))=false:=decide_eq_false c2;clear c2;obtain rfl:=Option.some.inj H;go_wp2;go_ret;exact⟨fr_,b82_1⟩
/-! ### cmp_isNaN_int: function 95 -/
def cmp_isNaN_int.f(a0:Int):Option (Bool):=some (a0 !=a0)
set_option maxHeartbeats 8000000 in
set_option maxRecDepth 100000 in
theorem cmp_isNaN_int.calls(a0:Int)(r:Bool)(w:World)(h:cmp_isNaN_int.f a0=some r) :
  Calls Tryd.prog 95 #[.int .i64 a0] w fun e w'=>e=.returned (.bool r)∧Drawn0 w w':=by
 have H:(some (a0 !=a0))=some r:=h;clear h;obtain rfl:=Option.some.inj H;go_enter Tryd.func95,Tryd.ntmps95;go_wp2;go_ret;exact⟨fr_,(by repeat(first|exact Drawn0.refl _|apply Drawn0.step))⟩
/-! ### cmp_Compare_int: function 84 -/
def cmp_Compare_int.f(a0:Int)(a1:Int):Option (Int):=(cmp_isNaN_int.f a0).bind fun t85001=>((cmp_isNaN_int.f a1).bind fun t85002=>(if t85001=true then(if t85002=true then(some 0) else(some (-1))) else(if t85002=true then(some 1) else(if a0<a1 then(some (-1)) else(if a0>a1 then(some 1) else(some 0))))))
theorem b84_1{p:Prop}(h:p:=by repeat(first|exact Drawn0.refl _|apply Drawn0.step)):p:=h
set_option maxHeartbeats 8000000 in
set_option maxRecDepth 100000 in
theorem cmp_Compare_int.calls(a0:Int)(a1:Int)(r:Int)(w:World)(h:cmp_Compare_int.f a0 a1=some r) :
  Calls Tryd.prog 84 #[.int .i64 a0,.int .i64 a1] w fun e w'=>e=.returned (.int .i64 r)∧Drawn0 w w':=by
 have H:((cmp_isNaN_int.f a0).bind fun t85001=>((cmp_isNaN_int.f a1).bind fun t85002=>(if t85001=true then(if t85002=true then(some 0) else(some (-1))) else(if t85002=true then(some 1) else(if a0<a1 then(some (-1)) else(if a0>a1 then(some 1) else(some 0)))))))=some r:=h;clear h;replace H:=Option.bind_eq_some_iff.mp H;obtain⟨t85001,A30,H⟩:=H;have A3:=Aside0.mk A30;clear A30;replace H:=Option.bind_eq_some_iff.mp H;obtain⟨t85002,A40,H⟩:=H;have A4:=Aside0.mk A40;clear A40
 by_cases c5:t85001=true
 ·subst c5;rw [if_pos rfl] at H
  by_cases c6:t85002=true
  ·subst c6;rw [if_pos rfl] at H;obtain rfl:=Option.some.inj H;go_enter Tryd.func84,Tryd.ntmps84
   go_wp2_with (first|((with_reducible refine gate_callee (f:=95) rfl ?_);refine goesL_ (some 8) rfl rfl Tryd.func95 (by kernel_rfl) rfl #[.int .i64 a0] rfl mp_ ?_;(with_reducible refine(cmp_isNaN_int.calls a0 true _ A3.out).mono ?_);rintro e w' ⟨rfl,⟨nd,rfl⟩⟩;refine⟨_,rfl,?_⟩)|((with_reducible refine gate_callee (f:=95) rfl ?_);refine goesL_ (some 10) rfl rfl Tryd.func95 (by kernel_rfl) rfl #[.int .i64 a1] rfl mp_ ?_;(with_reducible refine(cmp_isNaN_int.calls a1 true _ A4.out).mono ?_);rintro e w' ⟨rfl,⟨nd,rfl⟩⟩;refine⟨_,rfl,?_⟩))
   go_ret;exact⟨fr_,b84_1⟩
  ·replace c6:=Bool.eq_false_iff.mpr c6;subst c6;rw [if_neg nf_] at H;obtain rfl:=Option.some.inj H;go_enter Tryd.func84,Tryd.ntmps84
   go_wp2_with (first|((with_reducible refine gate_callee (f:=95) rfl ?_);refine goesL_ (some 8) rfl rfl Tryd.func95 (by kernel_rfl) rfl #[.int .i64 a0] rfl mp_ ?_;(with_reducible refine(cmp_isNaN_int.calls a0 true _ A3.out).mono ?_);rintro e w' ⟨rfl,⟨nd,rfl⟩⟩;refine⟨_,rfl,?_⟩)|((with_reducible refine gate_callee (f:=95) rfl ?_);refine goesL_ (some 10) rfl rfl Tryd.func95 (by kernel_rfl) rfl #[.int .i64 a1] rfl mp_ ?_;(with_reducible refine(cmp_isNaN_int.calls a1 false _ A4.out).mono ?_);rintro e w' ⟨rfl,⟨nd,rfl⟩⟩;refine⟨_,rfl,?_⟩))
   go_ret;exact⟨fr_,b84_1⟩
 ·replace c5:=Bool.eq_false_iff.mpr c5;subst c5;rw [if_neg nf_] at H
  by_cases c7:t85002=true
  ·subst c7;rw [if_pos rfl] at H;obtain rfl:=Option.some.inj H;go_enter Tryd.func84,Tryd.ntmps84
   go_wp2_with (first|((with_reducible refine gate_callee (f:=95) rfl ?_);refine goesL_ (some 8) rfl rfl Tryd.func95 (by kernel_rfl) rfl #[.int .i64 a0] rfl mp_ ?_;(with_reducible refine(cmp_isNaN_int.calls a0 false _ A3.out).mono ?_);rintro e w' ⟨rfl,⟨nd,rfl⟩⟩;refine⟨_,rfl,?_⟩)|((with_reducible refine gate_callee (f:=95) rfl ?_);refine goesL_ (some 10) rfl rfl Tryd.func95 (by kernel_rfl) rfl #[.int .i64 a1] rfl mp_ ?_;(with_reducible refine(cmp_isNaN_int.calls a1 true _ A4.out).mono ?_);rintro e w' ⟨rfl,⟨nd,rfl⟩⟩;refine⟨_,rfl,?_⟩))
   go_ret;exact⟨fr_,b84_1⟩
  ·replace c7:=Bool.eq_false_iff.mpr c7;subst c7;rw [if_neg nf_] at H
   by_cases c8:a0<a1
   ·rw [if_pos c8] at H;have c8b0:decide (a0<a1)=true:=decide_eq_true c8;clear c8;obtain rfl:=Option.some.inj H;go_enter Tryd.func84,Tryd.ntmps84
    go_wp2_with (first|((with_reducible refine gate_callee (f:=95) rfl ?_);refine goesL_ (some 8) rfl rfl Tryd.func95 (by kernel_rfl) rfl #[.int .i64 a0] rfl mp_ ?_;(with_reducible refine(cmp_isNaN_int.calls a0 false _ A3.out).mono ?_);rintro e w' ⟨rfl,⟨nd,rfl⟩⟩;refine⟨_,rfl,?_⟩)|((with_reducible refine gate_callee (f:=95) rfl ?_);refine goesL_ (some 10) rfl rfl Tryd.func95 (by kernel_rfl) rfl #[.int .i64 a1] rfl mp_ ?_;(with_reducible refine(cmp_isNaN_int.calls a1 false _ A4.out).mono ?_);rintro e w' ⟨rfl,⟨nd,rfl⟩⟩;refine⟨_,rfl,?_⟩))
    go_ret;exact⟨fr_,b84_1⟩
   ·rw [if_neg c8] at H;have c8b0:decide (a0<a1)=false:=decide_eq_false c8;clear c8
    by_cases c9:a0>a1
    ·rw [if_pos c9] at H;have c9b0:decide (a1<a0)=true:=decide_eq_true c9;clear c9;obtain rfl:=Option.some.inj H;go_enter Tryd.func84,Tryd.ntmps84
     go_wp2_with (first|((with_reducible refine gate_callee (f:=95) rfl ?_);refine goesL_ (some 8) rfl rfl Tryd.func95 (by kernel_rfl) rfl #[.int .i64 a0] rfl mp_ ?_;(with_reducible refine(cmp_isNaN_int.calls a0 false _ A3.out).mono ?_);rintro e w' ⟨rfl,⟨nd,rfl⟩⟩;refine⟨_,rfl,?_⟩)|((with_reducible refine gate_callee (f:=95) rfl ?_);refine goesL_ (some 10) rfl rfl Tryd.func95 (by kernel_rfl) rfl #[.int .i64 a1] rfl mp_ ?_;(with_reducible refine(cmp_isNaN_int.calls a1 false _ A4.out).mono ?_);rintro e w' ⟨rfl,⟨nd,rfl⟩⟩;refine⟨_,rfl,?_⟩))
     go_ret;exact⟨fr_,b84_1⟩
    ·rw [if_neg c9] at H;have c9b0:decide (a1<a0)=false:=decide_eq_false c9;clear c9;obtain rfl:=Option.some.inj H;go_enter Tryd.func84,Tryd.ntmps84
     go_wp2_with (first|((with_reducible refine gate_callee (f:=95) rfl ?_);refine goesL_ (some 8) rfl rfl Tryd.func95 (by kernel_rfl) rfl #[.int .i64 a0] rfl mp_ ?_;(with_reducible refine(cmp_isNaN_int.calls a0 false _ A3.out).mono ?_);rintro e w' ⟨rfl,⟨nd,rfl⟩⟩;refine⟨_,rfl,?_⟩)|((with_reducible refine gate_callee (f:=95) rfl ?_);refine goesL_ (some 10) rfl rfl Tryd.func95 (by kernel_rfl) rfl #[.int .i64 a1] rfl mp_ ?_;(with_reducible refine(cmp_isNaN_int.calls a1 false _ A4.out).mono ?_);rintro e w' ⟨rfl,⟨nd,rfl⟩⟩;refine⟨_,rfl,?_⟩))
     go_ret;exact⟨fr_,b84_1⟩
/-! ### cmp_isNaN_string: function 96 -/
def cmp_isNaN_string.f(a0:ByteArray):Option (Bool):=some (a0.toList !=a0.toList)
set_option maxHeartbeats 8000000 in
set_option maxRecDepth 100000 in
theorem cmp_isNaN_string.calls(a0:ByteArray)(r:Bool)(w:World)(h:cmp_isNaN_string.f a0=some r) :
  Calls Tryd.prog 96 #[.string a0] w fun e w'=>e=.returned (.bool r)∧Drawn0 w w':=by
 have H:(some (a0.toList !=a0.toList))=some r:=h;clear h;obtain rfl:=Option.some.inj H;go_enter Tryd.func96,Tryd.ntmps96;go_wp2;go_ret;exact⟨fr_,(by repeat(first|exact Drawn0.refl _|apply Drawn0.step))⟩
/-! ### cmp_Compare_string: function 85 -/
def cmp_Compare_string.f(a0:ByteArray)(a1:ByteArray):Option (Int):=(cmp_isNaN_string.f a0).bind fun t86001=>((cmp_isNaN_string.f a1).bind fun t86002=>(if t86001=true then(if t86002=true then(some 0) else(some (-1))) else(if t86002=true then(some 1) else(if (Op.bytesLess a0.toList a1.toList)=true then(some (-1)) else(if (Op.bytesLess a1.toList a0.toList)=true then(some 1) else(some 0))))))
theorem b85_1{p:Prop}(h:p:=by repeat(first|exact Drawn0.refl _|apply Drawn0.step)):p:=h
set_option maxHeartbeats 8000000 in
set_option maxRecDepth 100000 in
theorem cmp_Compare_string.calls(a0:ByteArray)(a1:ByteArray)(r:Int)(w:World)(h:cmp_Compare_string.f a0 a1=some r) :
  Calls Tryd.prog 85 #[.string a0,.string a1] w fun e w'=>e=.returned (.int .i64 r)∧Drawn0 w w':=by
 have H:((cmp_isNaN_string.f a0).bind fun t86001=>((cmp_isNaN_string.f a1).bind fun t86002=>(if t86001=true then(if t86002=true then(some 0) else(some (-1))) else(if t86002=true then(some 1) else(if (Op.bytesLess a0.toList a1.toList)=true then(some (-1)) else(if (Op.bytesLess a1.toList a0.toList)=true then(some 1) else(some 0)))))))=some r:=h;clear h;replace H:=Option.bind_eq_some_iff.mp H;obtain⟨t86001,A30,H⟩:=H;have A3:=Aside0.mk A30;clear A30;replace H:=Option.bind_eq_some_iff.mp H;obtain⟨t86002,A40,H⟩:=H;have A4:=Aside0.mk A40;clear A40
 by_cases c5:t86001=true
 ·subst c5;rw [if_pos rfl] at H
  by_cases c6:t86002=true
  ·subst c6;rw [if_pos rfl] at H;obtain rfl:=Option.some.inj H;go_enter Tryd.func85,Tryd.ntmps85
   go_wp2_with (first|((with_reducible refine gate_callee (f:=96) rfl ?_);refine goesL_ (some 8) rfl rfl Tryd.func96 (by kernel_rfl) rfl #[.string a0] rfl mp_ ?_;(with_reducible refine(cmp_isNaN_string.calls a0 true _ A3.out).mono ?_);rintro e w' ⟨rfl,⟨nd,rfl⟩⟩;refine⟨_,rfl,?_⟩)|((with_reducible refine gate_callee (f:=96) rfl ?_);refine goesL_ (some 10) rfl rfl Tryd.func96 (by kernel_rfl) rfl #[.string a1] rfl mp_ ?_;(with_reducible refine(cmp_isNaN_string.calls a1 true _ A4.out).mono ?_);rintro e w' ⟨rfl,⟨nd,rfl⟩⟩;refine⟨_,rfl,?_⟩))
   go_ret;exact⟨fr_,b85_1⟩
  ·replace c6:=Bool.eq_false_iff.mpr c6;subst c6;rw [if_neg nf_] at H;obtain rfl:=Option.some.inj H;go_enter Tryd.func85,Tryd.ntmps85
   go_wp2_with (first|((with_reducible refine gate_callee (f:=96) rfl ?_);refine goesL_ (some 8) rfl rfl Tryd.func96 (by kernel_rfl) rfl #[.string a0] rfl mp_ ?_;(with_reducible refine(cmp_isNaN_string.calls a0 true _ A3.out).mono ?_);rintro e w' ⟨rfl,⟨nd,rfl⟩⟩;refine⟨_,rfl,?_⟩)|((with_reducible refine gate_callee (f:=96) rfl ?_);refine goesL_ (some 10) rfl rfl Tryd.func96 (by kernel_rfl) rfl #[.string a1] rfl mp_ ?_;(with_reducible refine(cmp_isNaN_string.calls a1 false _ A4.out).mono ?_);rintro e w' ⟨rfl,⟨nd,rfl⟩⟩;refine⟨_,rfl,?_⟩))
   go_ret;exact⟨fr_,b85_1⟩
 ·replace c5:=Bool.eq_false_iff.mpr c5;subst c5;rw [if_neg nf_] at H
  by_cases c7:t86002=true
  ·subst c7;rw [if_pos rfl] at H;obtain rfl:=Option.some.inj H;go_enter Tryd.func85,Tryd.ntmps85
   go_wp2_with (first|((with_reducible refine gate_callee (f:=96) rfl ?_);refine goesL_ (some 8) rfl rfl Tryd.func96 (by kernel_rfl) rfl #[.string a0] rfl mp_ ?_;(with_reducible refine(cmp_isNaN_string.calls a0 false _ A3.out).mono ?_);rintro e w' ⟨rfl,⟨nd,rfl⟩⟩;refine⟨_,rfl,?_⟩)|((with_reducible refine gate_callee (f:=96) rfl ?_);refine goesL_ (some 10) rfl rfl Tryd.func96 (by kernel_rfl) rfl #[.string a1] rfl mp_ ?_;(with_reducible refine(cmp_isNaN_string.calls a1 true _ A4.out).mono ?_);rintro e w' ⟨rfl,⟨nd,rfl⟩⟩;refine⟨_,rfl,?_⟩))
   go_ret;exact⟨fr_,b85_1⟩
  ·replace c7:=Bool.eq_false_iff.mpr c7;subst c7;rw [if_neg nf_] at H
   by_cases c8:(Op.bytesLess a0.toList a1.toList)=true
   ·rw [if_pos c8] at H;have c8b0:(Op.bytesLess a0.toList a1.toList)=true:=c8;clear c8;obtain rfl:=Option.some.inj H;go_enter Tryd.func85,Tryd.ntmps85
    go_wp2_with (first|((with_reducible refine gate_callee (f:=96) rfl ?_);refine goesL_ (some 8) rfl rfl Tryd.func96 (by kernel_rfl) rfl #[.string a0] rfl mp_ ?_;(with_reducible refine(cmp_isNaN_string.calls a0 false _ A3.out).mono ?_);rintro e w' ⟨rfl,⟨nd,rfl⟩⟩;refine⟨_,rfl,?_⟩)|((with_reducible refine gate_callee (f:=96) rfl ?_);refine goesL_ (some 10) rfl rfl Tryd.func96 (by kernel_rfl) rfl #[.string a1] rfl mp_ ?_;(with_reducible refine(cmp_isNaN_string.calls a1 false _ A4.out).mono ?_);rintro e w' ⟨rfl,⟨nd,rfl⟩⟩;refine⟨_,rfl,?_⟩))
    go_ret;exact⟨fr_,b85_1⟩
   ·rw [if_neg c8] at H
    have c8b0:(Op.bytesLess a0.toList a1.toList)=false:=by simpa using c8
    clear c8
    by_cases c9:(Op.bytesLess a1.toList a0.toList)=true
    ·rw [if_pos c9] at H;have c9b0:(Op.bytesLess a1.toList a0.toList)=true:=c9;clear c9;obtain rfl:=Option.some.inj H;go_enter Tryd.func85,Tryd.ntmps85
     go_wp2_with (first|((with_reducible refine gate_callee (f:=96) rfl ?_);refine goesL_ (some 8) rfl rfl Tryd.func96 (by kernel_rfl) rfl #[.string a0] rfl mp_ ?_;(with_reducible refine(cmp_isNaN_string.calls a0 false _ A3.out).mono ?_);rintro e w' ⟨rfl,⟨nd,rfl⟩⟩;refine⟨_,rfl,?_⟩)|((with_reducible refine gate_callee (f:=96) rfl ?_);refine goesL_ (some 10) rfl rfl Tryd.func96 (by kernel_rfl) rfl #[.string a1] rfl mp_ ?_;(with_reducible refine(cmp_isNaN_string.calls a1 false _ A4.out).mono ?_);rintro e w' ⟨rfl,⟨nd,rfl⟩⟩;refine⟨_,rfl,?_⟩))
     go_ret;exact⟨fr_,b85_1⟩
    ·rw [if_neg c9] at H
     have c9b0:(Op.bytesLess a1.toList a0.toList)=false:=by simpa using c9
     clear c9;obtain rfl:=Option.some.inj H;go_enter Tryd.func85,Tryd.ntmps85
     go_wp2_with (first|((with_reducible refine gate_callee (f:=96) rfl ?_);refine goesL_ (some 8) rfl rfl Tryd.func96 (by kernel_rfl) rfl #[.string a0] rfl mp_ ?_;(with_reducible refine(cmp_isNaN_string.calls a0 false _ A3.out).mono ?_);rintro e w' ⟨rfl,⟨nd,rfl⟩⟩;refine⟨_,rfl,?_⟩)|((with_reducible refine gate_callee (f:=96) rfl ?_);refine goesL_ (some 10) rfl rfl Tryd.func96 (by kernel_rfl) rfl #[.string a1] rfl mp_ ?_;(with_reducible refine(cmp_isNaN_string.calls a1 false _ A4.out).mono ?_);rintro e w' ⟨rfl,⟨nd,rfl⟩⟩;refine⟨_,rfl,?_⟩))
     go_ret;exact⟨fr_,b85_1⟩
/-! ### finding_comparePlaces: function 83 -/
def finding_comparePlaces.f(k:Nat)(a0_0:ByteArray)(a0_1:ByteArray)(a0_2:Int)(a1_0:ByteArray)(a1_1:ByteArray)(a1_2:Int):Option (Int):=(cmp_Compare_string.f a0_0 a1_0).bind fun t84003=>((cmp_Compare_string.f a0_1 a1_1).bind fun t84004=>((cmp_Compare_int.f a0_2 a1_2).bind fun t84005=>((cmp_Or_int.f k (([t84003,t84004,t84005]:List Int))).bind fun t84009=>(some t84009))))
theorem b83_1{p:Prop}(h:p:=by(with_reducible repeat(first|refine blk_drewN ?_ _|refine blk_drew ?_|refine blk_alloc ?_ _));exact BK84001.out):p:=h
theorem b83_2{p:Prop}(h:p:=by repeat(first|(with_reducible first|exact HB.out|apply below_alloc|apply pw_below_drewN|apply below_drew1|refine below_set ?_ GE84001.out)|exact HB.out)):p:=h
theorem b83_3{p:Prop}(h:p:=by repeat(first|(with_reducible first|exact HB.out|apply below_alloc|apply pw_below_drewN|apply below_drew1|refine below_set ?_ GE84001.out|refine below_set ?_ GE84002.out)|exact HB.out)):p:=h
theorem finding_comparePlaces.mono:∀ a0 a1 a2 a3 a4 a5 k,LeO (finding_comparePlaces.f k a0 a1 a2 a3 a4 a5) (finding_comparePlaces.f (k+1) a0 a1 a2 a3 a4 a5):=by
 intro a0 a1 a2 a3 a4 a5 k;unfold finding_comparePlaces.f
 repeat' first
   |(with_reducible exact cmp_Or_int.mono _ _)
   |(with_reducible exact LeO.refl _)
   |(with_reducible exact LeO.none _)
   |(with_reducible refine LeO.ite ?_ ?_)
   |(with_reducible refine LeO.bind ?_ (fun _=>?_))
   |exact cmp_Or_int.mono _ _
   |exact LeO.none _
   |refine LeO.ite ?_ ?_
   |refine LeO.bind ?_ (fun _=>?_)
def finding_comparePlaces.T1:Bool × List (List Nat × List Nat):=(true,[([],[]),([0],[0]),([],[]),([2],[2]),([1,3],[1,3]),([],[]),([5],[5]),([],[]),([7],[7]),([6,8,4],[6,8]),([],[]),([10],[10]),([],[]),([12],[12]),([11,13,9],[11,13]),([4,9,14],[4,9,14]),([15,14],[15]),([16,16,0,1,2,3,4,5,6,7,8,9,10,11,12,13,14,15,16],[16])])
def finding_comparePlaces.B1:List Nat:=[0,1,0,4,15,0,32,0,128,511,0,1024,0,4096,16383,32767,65535,131071]
theorem finding_comparePlaces.tab1:rtab .any (opsOf Tryd.f83 1)=finding_comparePlaces.T1:=by kernel_rfl
theorem finding_comparePlaces.bits1:waitsOk finding_comparePlaces.T1.2 finding_comparePlaces.B1=true:=by kernel_rfl
set_option maxHeartbeats 8000000 in
set_option maxRecDepth 100000 in
theorem finding_comparePlaces.calls(k:Nat)(a0_0:ByteArray)(a0_1:ByteArray)(a0_2:Int)(a1_0:ByteArray)(a1_1:ByteArray)(a1_2:Int)(r:Int)(w:World)(h:finding_comparePlaces.f k a0_0 a0_1 a0_2 a1_0 a1_1 a1_2=some r) :
  Calls Tryd.prog 83 #[.agg #[.string a0_0,.string a0_1,.int .i64 a0_2],.agg #[.string a1_0,.string a1_1,.int .i64 a1_2]] w fun e w'=>e=.returned (.int .i64 r)∧Below w.heap.size w w':=by
 have hu25:=Tryd.underlying25;have HB:=Aside0.mk (Below.refl w.heap.size w);have H:((cmp_Compare_string.f a0_0 a1_0).bind fun t84003=>((cmp_Compare_string.f a0_1 a1_1).bind fun t84004=>((cmp_Compare_int.f a0_2 a1_2).bind fun t84005=>((cmp_Or_int.f k (([t84003,t84004,t84005]:List Int))).bind fun t84009=>(some t84009)))))=some r:=h;clear h;replace H:=Option.bind_eq_some_iff.mp H;obtain⟨t84003,A30,H⟩:=H;have A3:=Aside0.mk A30;clear A30;replace H:=Option.bind_eq_some_iff.mp H;obtain⟨t84004,A40,H⟩:=H;have A4:=Aside0.mk A40;clear A40;replace H:=Option.bind_eq_some_iff.mp H;obtain⟨t84005,A50,H⟩:=H;have A5:=Aside0.mk A50;clear A50;obtain⟨y84006,hy84006⟩:∃ y_:List Int,y_=(([t84003,t84004,t84005]:List Int)):=⟨_,rfl⟩
 replace H:((cmp_Or_int.f k y84006).bind fun t84009=>(some t84009))=some r:=by first|(rw [hy84006];with_reducible exact H)|(have H2_:=(Option.bind_some _ _).symm.trans H;rw [hy84006];with_reducible exact H2_)|(have H2_:=(Option.bind_some _ _).symm.trans H;with_reducible exact H2_)|with_reducible exact H|(rw [hy84006];exact H)|exact H
 have Ny84006:=Aside0.mk hy84006;clear hy84006;replace H:=Option.bind_eq_some_iff.mp H;obtain⟨t84009,A60,H⟩:=H;have A6:=Aside0.mk A60;clear A60;obtain rfl:=Option.some.inj H;go_enter Tryd.func83,Tryd.ntmps83
 try go_wp2_with (first|((with_reducible refine gate_dst (N:=2) rfl ?_);refine box_event ?hg (N:=2) ?hd (cs:=#[.string a0_0,.string a0_1,.int .i64 a0_2]) (t:=25) ?hr ?_;(case hd=>rfl);(case hg=>rfl);(case hr=>first|(go_simp;done)|(go_simp;rfl));intro gb84001 hg w7 hbox hb;have n_:=as4_ (below_step bl_ hb) hbox ((by rw [hg];exact(below_size bl_):w.heap.size≤gb84001)) ((by rw [hg];exact(below_size bl_):w.heap.size≤gb84001));clear HB;obtain⟨HB,BK84001,GW84001,GE84001⟩:=n_;clear hb hbox hg)|((with_reducible refine gate_dst (N:=3) rfl ?_);refine box_event ?hg (N:=3) ?hd (cs:=#[.string a1_0,.string a1_1,.int .i64 a1_2]) (t:=25) ?hr ?_;(case hd=>rfl);(case hg=>rfl);(case hr=>first|(go_simp;done)|(go_simp;rfl));intro gb84002 hg w8 hbox hb;have n_:=as7_ (blk_below (g:=gb84001) (o:=.cells #[.string a0_0,.string a0_1,.int .i64 a0_2] 25 (0,0)) b83_1 hb) (below_step b83_2 hb) hbox ((by rw [hg];exact(below_size b83_2):w.heap.size≤gb84002)) ((by rw [hg];exact(below_size b83_2):w.heap.size≤gb84002)) ((by rw [hg];exact Nat.ne_of_lt (blk_lt (g:=gb84001) (o:=.cells #[.string a0_0,.string a0_1,.int .i64 a0_2] 25 (0,0)) b83_1):gb84001≠gb84002)) ((by rw [hg];exact Nat.ne_of_gt (blk_lt (g:=gb84001) (o:=.cells #[.string a0_0,.string a0_1,.int .i64 a0_2] 25 (0,0)) b83_1):gb84002≠gb84001));clear BK84001 HB;obtain⟨BK84001,HB,BK84002,GW84002,GE84002,NB84001_84002,NB84002_84001⟩:=n_;clear hb hbox hg))
 have n_:=as3_ (blk_drew BK84001.out) (blk_drew BK84002.out) (below_drew1 HB.out);clear BK84001 BK84002 HB;obtain⟨BK84001,BK84002,HB⟩:=n_;refine start_ (n:=18) (S:=fun w'=>w'.cell? ⟨gb84001,0,none⟩=some (.string a0_0)∧w'.cell? ⟨gb84001,1,none⟩=some (.string a0_1)∧w'.cell? ⟨gb84001,2,none⟩=some (.int .i64 a0_2)∧w'.cell? ⟨gb84002,0,none⟩=some (.string a1_0)∧w'.cell? ⟨gb84002,1,none⟩=some (.string a1_1)∧w'.cell? ⟨gb84002,2,none⟩=some (.int .i64 a1_2)) (ds:=[]) #[false,false,false,false,false,false,false,false,false,false,false,false,false,false,false,false,false,false] (by kernel_rfl) rfl rfl ⟨(blk_cell BK84001.out 0).trans rfl,(blk_cell BK84001.out 1).trans rfl,(blk_cell BK84001.out 2).trans rfl,(blk_cell BK84002.out 0).trans rfl,(blk_cell BK84002.out 1).trans rfl,(blk_cell BK84002.out 2).trans rfl⟩ (fun hHeld=>?_);refine with_tabW finding_comparePlaces.tab1 finding_comparePlaces.bits1 (fun HT_ HW_=>?_);generalize w8.drew=w9 at BK84001 BK84002 HB hHeld ⊢;refine pu_ 0 5 ?_;refine pu_ 2 7 ?_;refine pu_ 5 10 ?_;refine pu_ 7 12 ?_;refine pu_ 10 15 ?_;refine pu_ 12 17 ?_;refine tk_ 1 6 ?_;refine tk_ 3 8 ?_;refine tk_ 6 11 ?_;refine tk_ 8 13 ?_;refine tk_ 11 16 ?_;refine tk_ 13 18 ?_;refine one_ (i:=4) (N:=some 9) #[true,true,true,true,true,true,true,true,true,false,true,true,true,true,false,false,false,false] rfl rfl (one_of HT_.out (by kernel_rfl)) (by decide) (fun K hK=>?_);refine goes_ Tryd.func85 (by kernel_rfl) rfl #[.string a0_0,.string a1_0] (by rfl) rfl rfl mp_ ?_;(with_reducible refine(cmp_Compare_string.calls a0_0 a1_0 t84003 _ A3.out).mono ?_);rintro e w' ⟨rfl,⟨nd,rfl⟩⟩;refine⟨_,rfl,?_⟩;refine hK.out _ _ ⟨(blk_cell BK84001.out 0).trans rfl,(blk_cell BK84001.out 1).trans rfl,(blk_cell BK84001.out 2).trans rfl,(blk_cell BK84002.out 0).trans rfl,(blk_cell BK84002.out 1).trans rfl,(blk_cell BK84002.out 2).trans rfl⟩ (fun hHeld=>?_);clear hK K;refine norm_ (a':=?_) ?_ ?_;rotate_left
 ·show Act.put _ (some 9) _=_
  simp only [Act.put,List.setIfInBounds_toArray,List.set_cons_zero,List.set_cons_succ,i64_w,i32_w];rfl
 refine one_ (i:=9) (N:=some 14) #[true,true,true,true,true,true,true,true,true,true,true,true,true,true,false,false,false,false] rfl rfl (one_of HT_.out (by kernel_rfl)) (by decide) (fun K hK=>?_);refine goes_ Tryd.func85 (by kernel_rfl) rfl #[.string a0_1,.string a1_1] (by rfl) rfl rfl mp_ ?_;(with_reducible refine(cmp_Compare_string.calls a0_1 a1_1 t84004 _ A4.out).mono ?_);rintro e w' ⟨rfl,⟨nd,rfl⟩⟩;refine⟨_,rfl,?_⟩;refine hK.out _ _ ⟨(blk_cell BK84001.out 0).trans rfl,(blk_cell BK84001.out 1).trans rfl,(blk_cell BK84001.out 2).trans rfl,(blk_cell BK84002.out 0).trans rfl,(blk_cell BK84002.out 1).trans rfl,(blk_cell BK84002.out 2).trans rfl⟩ (fun hHeld=>?_);clear hK K;refine norm_ (a':=?_) ?_ ?_;rotate_left
 ·show Act.put _ (some 14) _=_
  simp only [Act.put,List.setIfInBounds_toArray,List.set_cons_zero,List.set_cons_succ,i64_w,i32_w];rfl
 refine one_ (i:=14) (N:=some 19) #[true,true,true,true,true,true,true,true,true,true,true,true,true,true,true,false,false,false] rfl rfl (one_of HT_.out (by kernel_rfl)) (by decide) (fun K hK=>?_);refine goes_ Tryd.func84 (by kernel_rfl) rfl #[.int .i64 a0_2,.int .i64 a1_2] (by rfl) rfl rfl mp_ ?_;(with_reducible refine(cmp_Compare_int.calls a0_2 a1_2 t84005 _ A5.out).mono ?_);rintro e w' ⟨rfl,⟨nd,rfl⟩⟩;refine⟨_,rfl,?_⟩;refine hK.out _ _ ⟨(blk_cell BK84001.out 0).trans rfl,(blk_cell BK84001.out 1).trans rfl,(blk_cell BK84001.out 2).trans rfl,(blk_cell BK84002.out 0).trans rfl,(blk_cell BK84002.out 1).trans rfl,(blk_cell BK84002.out 2).trans rfl⟩ (fun hHeld=>?_);clear hK K;refine norm_ (a':=?_) ?_ ?_;rotate_left
 ·show Act.put _ (some 19) _=_
  simp only [Act.put,List.setIfInBounds_toArray,List.set_cons_zero,List.set_cons_succ,i64_w,i32_w];rfl
 refine one_ (i:=15) (N:=some 20) #[true,true,true,true,true,true,true,true,true,true,true,true,true,true,true,true,false,false] rfl rfl (one_of HT_.out (by kernel_rfl)) (by decide) (fun K hK=>?_);refine Kd.R_lit_step (Kd.int .i64) _ 3 ?hg (N:=20) ?hd (xs:=([t84003,t84004,t84005]:List Int)) (inner:=[.int .i64 t84003,.int .i64 t84004,.int .i64 t84005]) (ok:=fun _=>True) (okp:=fun _=>True) ?hr ?hp (fun _ hk=>hk) trivial (Below.refl _ _) (Nat.le_refl _) (by simp) ?_;(case hd=>rfl);(case hg=>rfl);(case hr=>first|(go_simp;done)|(go_simp;rfl));(case hp=>exact(Reps.one (show Kd.M (Kd.int .i64) _ _ _ t84003 [.int .i64 t84003] from rfl) (Reps.one (show Kd.M (Kd.int .i64) _ _ _ t84004 [.int .i64 t84004] from rfl) (Reps.one (show Kd.M (Kd.int .i64) _ _ _ t84005 [.int .i64 t84005] from rfl) (Reps.none _ _)))));intro v84007 w10 ho11 hb hg_ hnew_;clear hg_ hnew_
 (first|rw [← Ny84006.out] at ho11|(simp only [Int.reduceToNat] at ho11;rw [← Ny84006.out] at ho11))
 have n_:=as4_ (Kd.R_lower ho11 (below_size b83_3)) (blk_below (g:=gb84001) (o:=.cells #[.string a0_0,.string a0_1,.int .i64 a0_2] 25 (0,0)) b83_1 hb) (blk_below (g:=gb84002) (o:=.cells #[.string a1_0,.string a1_1,.int .i64 a1_2] 25 (0,0)) (by(with_reducible repeat(first|refine blk_drewN ?_ _|refine blk_drew ?_|refine blk_alloc ?_ _));exact BK84002.out) hb) (below_step b83_3 hb);clear BK84001 BK84002 HB;obtain⟨HO84008,BK84001,BK84002,HB⟩:=n_;clear hb ho11;obtain⟨Ao12,co12,eo12⟩:=Kd.R_slice HO84008.out
 (first|subst eo12|(injection eo12 with f1_ f2_ f3_;have f4_:=f1_.symm;have f5_:=f3_.symm;clear f1_ f2_ f3_;subst f4_;subst f5_))
 refine hK.out _ _ ⟨(blk_cell BK84001.out 0).trans rfl,(blk_cell BK84001.out 1).trans rfl,(blk_cell BK84001.out 2).trans rfl,(blk_cell BK84002.out 0).trans rfl,(blk_cell BK84002.out 1).trans rfl,(blk_cell BK84002.out 2).trans rfl⟩ (fun hHeld=>?_);clear hK K;refine norm_ (a':=?_) ?_ ?_;rotate_left
 ·show Act.put _ (some 20) _=_
  simp only [Act.put,List.setIfInBounds_toArray,List.set_cons_zero,List.set_cons_succ,i64_w,i32_w];rfl
 refine one_ (i:=16) (N:=some 21) #[true,true,true,true,true,true,true,true,true,true,true,true,true,true,true,true,true,false] rfl rfl (one_of HT_.out (by kernel_rfl)) (by decide) (fun K hK=>?_);refine goes_ Tryd.func82 (by kernel_rfl) rfl #[.slice Ao12 y84006.length co12] (by rfl) rfl rfl mp_ ?_;(with_reducible refine(cmp_Or_int.calls k _ _ y84006 t84009 _ ?side1 ?side2 A6.out).mono ?_);(case side1=>exact(by repeat(first|exact(Kd.R_reads' HO84008.out).2.2|(with_reducible refine Kd.C_alloc ?_ _)|(with_reducible refine Kd.C_drewN ?_ _)|(with_reducible refine Kd.C_drew ?_))));(case side2=>exact(Kd.R_reads' HO84008.out).2.1);rintro e w' ⟨rfl,⟨nd,rfl⟩⟩;refine⟨_,rfl,?_⟩;refine hK.out _ _ ⟨(blk_cell BK84001.out 0).trans rfl,(blk_cell BK84001.out 1).trans rfl,(blk_cell BK84001.out 2).trans rfl,(blk_cell BK84002.out 0).trans rfl,(blk_cell BK84002.out 1).trans rfl,(blk_cell BK84002.out 2).trans rfl⟩ (fun hHeld=>?_);clear hK K;refine norm_ (a':=?_) ?_ ?_;rotate_left
 ·show Act.put _ (some 21) _=_
  simp only [Act.put,List.setIfInBounds_toArray,List.set_cons_zero,List.set_cons_succ,i64_w,i32_w];rfl
 refine pu_ 17 4 ?_;refine done_ (done_of HT_.out (by kernel_rfl)) ?_;(try go_wp2);go_ret;exact⟨er_,b83_3⟩
/-! ### dataflowref45_numbers: function 47 -/
def dataflowref45_numbers.f(a0:Int)(a1:Int):Option (Int):=if a0<a1 then(some (-1)) else(if a0>a1 then(some 1) else(some 0))
theorem b47_1{p:Prop}(h:p:=by repeat(first|exact Drawn0.refl _|apply Drawn0.step)):p:=h
set_option maxHeartbeats 8000000 in
set_option maxRecDepth 100000 in
theorem dataflowref45_numbers.calls(a0:Int)(a1:Int)(r:Int)(w:World)(h:dataflowref45_numbers.f a0 a1=some r) :
  Calls Tryd.prog 47 #[.int .i64 a0,.int .i64 a1] w fun e w'=>e=.returned (.int .i64 r)∧Drawn0 w w':=by
 have H:(if a0<a1 then(some (-1)) else(if a0>a1 then(some 1) else(some 0)))=some r:=h;clear h
 by_cases c3:a0<a1
 ·rw [if_pos c3] at H;have c3b0:decide (a0<a1)=true:=decide_eq_true c3;clear c3;obtain rfl:=Option.some.inj H;go_enter Tryd.func47,Tryd.ntmps47;go_wp2;go_ret;exact⟨fr_,b47_1⟩
 ·rw [if_neg c3] at H;have c3b0:decide (a0<a1)=false:=decide_eq_false c3;clear c3
  by_cases c4:a0>a1
  ·rw [if_pos c4] at H;have c4b0:decide (a1<a0)=true:=decide_eq_true c4;clear c4;obtain rfl:=Option.some.inj H;go_enter Tryd.func47,Tryd.ntmps47;go_wp2;go_ret;exact⟨fr_,b47_1⟩
  ·rw [if_neg c4] at H;have c4b0:decide (a1<a0)=false:=decide_eq_false c4;clear c4;obtain rfl:=Option.some.inj H;go_enter Tryd.func47,Tryd.ntmps47;go_wp2;go_ret;exact⟨fr_,b47_1⟩
/-! ### dataflowref45_words: function 48 -/
def dataflowref45_words.f(a0:ByteArray)(a1:ByteArray):Option (Int):=if (Op.bytesLess a0.toList a1.toList)=true then(some (-1)) else(if (Op.bytesLess a1.toList a0.toList)=true then(some 1) else(some 0))
theorem b48_1{p:Prop}(h:p:=by repeat(first|exact Drawn0.refl _|apply Drawn0.step)):p:=h
set_option maxHeartbeats 8000000 in
set_option maxRecDepth 100000 in
theorem dataflowref45_words.calls(a0:ByteArray)(a1:ByteArray)(r:Int)(w:World)(h:dataflowref45_words.f a0 a1=some r) :
  Calls Tryd.prog 48 #[.string a0,.string a1] w fun e w'=>e=.returned (.int .i64 r)∧Drawn0 w w':=by
 have H:(if (Op.bytesLess a0.toList a1.toList)=true then(some (-1)) else(if (Op.bytesLess a1.toList a0.toList)=true then(some 1) else(some 0)))=some r:=h;clear h
 by_cases c3:(Op.bytesLess a0.toList a1.toList)=true
 ·rw [if_pos c3] at H;have c3b0:(Op.bytesLess a0.toList a1.toList)=true:=c3;clear c3;obtain rfl:=Option.some.inj H;go_enter Tryd.func48,Tryd.ntmps48;go_wp2;go_ret;exact⟨fr_,b48_1⟩
 ·rw [if_neg c3] at H
  have c3b0:(Op.bytesLess a0.toList a1.toList)=false:=by simpa using c3
  clear c3
  by_cases c4:(Op.bytesLess a1.toList a0.toList)=true
  ·rw [if_pos c4] at H;have c4b0:(Op.bytesLess a1.toList a0.toList)=true:=c4;clear c4;obtain rfl:=Option.some.inj H;go_enter Tryd.func48,Tryd.ntmps48;go_wp2;go_ret;exact⟨fr_,b48_1⟩
  ·rw [if_neg c4] at H
   have c4b0:(Op.bytesLess a1.toList a0.toList)=false:=by simpa using c4
   clear c4;obtain rfl:=Option.some.inj H;go_enter Tryd.func48,Tryd.ntmps48;go_wp2;go_ret;exact⟨fr_,b48_1⟩
/-! ### dataflowref45_ComparePlaces: function 46 -/
def dataflowref45_ComparePlaces.f(a0_0:ByteArray)(a0_1:ByteArray)(a0_2:Int)(a1_0:ByteArray)(a1_1:ByteArray)(a1_2:Int):Option (Int):=(dataflowref45_words.f a0_0 a1_0).bind fun t47003=>(if t47003=0 then((dataflowref45_words.f a0_1 a1_1).bind fun t47004=>(if t47004=0 then((dataflowref45_numbers.f a0_2 a1_2).bind fun t47005=>(some t47005)) else(some t47004))) else(some t47003))
theorem b46_1{p:Prop}(h:p:=by(with_reducible repeat(first|refine blk_drewN ?_ _|refine blk_drew ?_|refine blk_alloc ?_ _));exact BK47001.out):p:=h
theorem b46_2{p:Prop}(h:p:=by repeat(first|(with_reducible first|exact HB.out|apply below_alloc|apply pw_below_drewN|apply below_drew1|refine below_set ?_ GE47001.out)|exact HB.out)):p:=h
theorem b46_3{p:Prop}(h:p:=by repeat(first|(with_reducible first|exact HB.out|apply below_alloc|apply pw_below_drewN|apply below_drew1|refine below_set ?_ GE47001.out|refine below_set ?_ GE47002.out)|exact HB.out)):p:=h
theorem b46_4{p:Prop}(h:p:=by rw [hg];exact(below_size bl_)):p:=h
theorem b46_5{p:Prop}(h:p:=by rw [hg];exact(below_size b46_2)):p:=h
theorem b46_6{p:Prop}(h:p:=by rw [hg];exact Nat.ne_of_lt (blk_lt (g:=gb47001) (o:=.cells #[.string a0_0,.string a0_1,.int .i64 a0_2] 25 (0,0)) b46_1)):p:=h
theorem b46_7{p:Prop}(h:p:=by rw [hg];exact Nat.ne_of_gt (blk_lt (g:=gb47001) (o:=.cells #[.string a0_0,.string a0_1,.int .i64 a0_2] 25 (0,0)) b46_1)):p:=h
set_option maxHeartbeats 8000000 in
set_option maxRecDepth 100000 in
theorem dataflowref45_ComparePlaces.calls(a0_0:ByteArray)(a0_1:ByteArray)(a0_2:Int)(a1_0:ByteArray)(a1_1:ByteArray)(a1_2:Int)(r:Int)(w:World)(h:dataflowref45_ComparePlaces.f a0_0 a0_1 a0_2 a1_0 a1_1 a1_2=some r) :
  Calls Tryd.prog 46 #[.agg #[.string a0_0,.string a0_1,.int .i64 a0_2],.agg #[.string a1_0,.string a1_1,.int .i64 a1_2]] w fun e w'=>e=.returned (.int .i64 r)∧Below w.heap.size w w':=by
 have hu25:=Tryd.underlying25;have HB:=Aside0.mk (Below.refl w.heap.size w);have H:((dataflowref45_words.f a0_0 a1_0).bind fun t47003=>(if t47003=0 then((dataflowref45_words.f a0_1 a1_1).bind fun t47004=>(if t47004=0 then((dataflowref45_numbers.f a0_2 a1_2).bind fun t47005=>(some t47005)) else(some t47004))) else(some t47003)))=some r:=h;clear h;replace H:=Option.bind_eq_some_iff.mp H;obtain⟨t47003,A30,H⟩:=H;have A3:=Aside0.mk A30;clear A30
 by_cases c4:t47003=0
 ·rw [if_pos c4] at H;obtain⟨c4b0,c4b1⟩:=eqT_ c4;clear c4;replace H:=Option.bind_eq_some_iff.mp H;obtain⟨t47004,A50,H⟩:=H;have A5:=Aside0.mk A50;clear A50
  by_cases c6:t47004=0
  ·rw [if_pos c6] at H;obtain⟨c6b0,c6b1⟩:=eqT_ c6;clear c6;replace H:=Option.bind_eq_some_iff.mp H;obtain⟨t47005,A70,H⟩:=H;have A7:=Aside0.mk A70;clear A70;obtain rfl:=Option.some.inj H;go_enter Tryd.func46,Tryd.ntmps46
   go_wp2_with (first|((with_reducible refine gate_dst (N:=2) rfl ?_);refine box_event ?hg (N:=2) ?hd (cs:=#[.string a0_0,.string a0_1,.int .i64 a0_2]) (t:=25) ?hr ?_;(case hd=>rfl);(case hg=>rfl);(case hr=>first|(go_simp;done)|(go_simp;rfl));intro gb47001 hg w8 hbox hb;have n_:=as4_ (below_step bl_ hb) hbox ((b46_4:w.heap.size≤gb47001)) ((b46_4:w.heap.size≤gb47001));clear HB;obtain⟨HB,BK47001,GW47001,GE47001⟩:=n_;clear hb hbox hg)|((with_reducible refine gate_dst (N:=3) rfl ?_);refine box_event ?hg (N:=3) ?hd (cs:=#[.string a1_0,.string a1_1,.int .i64 a1_2]) (t:=25) ?hr ?_;(case hd=>rfl);(case hg=>rfl);(case hr=>first|(go_simp;done)|(go_simp;rfl));intro gb47002 hg w9 hbox hb;have n_:=as7_ (blk_below (g:=gb47001) (o:=.cells #[.string a0_0,.string a0_1,.int .i64 a0_2] 25 (0,0)) b46_1 hb) (below_step b46_2 hb) hbox ((b46_5:w.heap.size≤gb47002)) ((b46_5:w.heap.size≤gb47002)) ((b46_6:gb47001≠gb47002)) ((b46_7:gb47002≠gb47001));clear BK47001 HB;obtain⟨BK47001,HB,BK47002,GW47002,GE47002,NB47001_47002,NB47002_47001⟩:=n_;clear hb hbox hg;have hnb10:=NB47001_47002.out;have hnc10:=NB47002_47001.out;obtain⟨hcz11_0,hcz11_1,hcz11_2,hfz11_0,hfz11_1,hfz11_2⟩:=cz3_ BK47001.out;obtain⟨hcz12_0,hcz12_1,hcz12_2,hfz12_0,hfz12_1,hfz12_2⟩:=cz3_ BK47002.out)|((with_reducible refine gate_callee (f:=48) rfl ?_);refine goesL_ (some 11) rfl rfl Tryd.func48 (by kernel_rfl) rfl #[.string a0_0,.string a1_0] rfl mp_ ?_;(with_reducible refine(dataflowref45_words.calls a0_0 a1_0 t47003 _ A3.out).mono ?_);rintro e w' ⟨rfl,⟨nd,rfl⟩⟩;refine⟨_,rfl,?_⟩)|((with_reducible refine gate_callee (f:=48) rfl ?_);refine goesL_ (some 19) rfl rfl Tryd.func48 (by kernel_rfl) rfl #[.string a0_1,.string a1_1] rfl mp_ ?_;(with_reducible refine(dataflowref45_words.calls a0_1 a1_1 t47004 _ A5.out).mono ?_);rintro e w' ⟨rfl,⟨nd,rfl⟩⟩;refine⟨_,rfl,?_⟩)|((with_reducible refine gate_callee (f:=47) rfl ?_);refine goesL_ (some 27) rfl rfl Tryd.func47 (by kernel_rfl) rfl #[.int .i64 a0_2,.int .i64 a1_2] rfl mp_ ?_;(with_reducible refine(dataflowref45_numbers.calls a0_2 a1_2 t47005 _ A7.out).mono ?_);rintro e w' ⟨rfl,⟨nd,rfl⟩⟩;refine⟨_,rfl,?_⟩))
   go_ret;exact⟨er_,b46_3⟩
  ·rw [if_neg c6] at H;obtain⟨c6b0,c6b1⟩:=eqF_ c6;obtain rfl:=Option.some.inj H;go_enter Tryd.func46,Tryd.ntmps46
   go_wp2_with (first|((with_reducible refine gate_dst (N:=2) rfl ?_);refine box_event ?hg (N:=2) ?hd (cs:=#[.string a0_0,.string a0_1,.int .i64 a0_2]) (t:=25) ?hr ?_;(case hd=>rfl);(case hg=>rfl);(case hr=>first|(go_simp;done)|(go_simp;rfl));intro gb47001 hg w13 hbox hb;have n_:=as4_ (below_step bl_ hb) hbox ((b46_4:w.heap.size≤gb47001)) ((b46_4:w.heap.size≤gb47001));clear HB;obtain⟨HB,BK47001,GW47001,GE47001⟩:=n_;clear hb hbox hg)|((with_reducible refine gate_dst (N:=3) rfl ?_);refine box_event ?hg (N:=3) ?hd (cs:=#[.string a1_0,.string a1_1,.int .i64 a1_2]) (t:=25) ?hr ?_;(case hd=>rfl);(case hg=>rfl);(case hr=>first|(go_simp;done)|(go_simp;rfl));intro gb47002 hg w14 hbox hb;have n_:=as7_ (blk_below (g:=gb47001) (o:=.cells #[.string a0_0,.string a0_1,.int .i64 a0_2] 25 (0,0)) b46_1 hb) (below_step b46_2 hb) hbox ((b46_5:w.heap.size≤gb47002)) ((b46_5:w.heap.size≤gb47002)) ((b46_6:gb47001≠gb47002)) ((b46_7:gb47002≠gb47001));clear BK47001 HB;obtain⟨BK47001,HB,BK47002,GW47002,GE47002,NB47001_47002,NB47002_47001⟩:=n_;clear hb hbox hg;have hnb15:=NB47001_47002.out;have hnc15:=NB47002_47001.out;obtain⟨hcz16_0,hcz16_1,hcz16_2,hfz16_0,hfz16_1,hfz16_2⟩:=cz3_ BK47001.out;obtain⟨hcz17_0,hcz17_1,hcz17_2,hfz17_0,hfz17_1,hfz17_2⟩:=cz3_ BK47002.out)|((with_reducible refine gate_callee (f:=48) rfl ?_);refine goesL_ (some 11) rfl rfl Tryd.func48 (by kernel_rfl) rfl #[.string a0_0,.string a1_0] rfl mp_ ?_;(with_reducible refine(dataflowref45_words.calls a0_0 a1_0 t47003 _ A3.out).mono ?_);rintro e w' ⟨rfl,⟨nd,rfl⟩⟩;refine⟨_,rfl,?_⟩)|((with_reducible refine gate_callee (f:=48) rfl ?_);refine goesL_ (some 19) rfl rfl Tryd.func48 (by kernel_rfl) rfl #[.string a0_1,.string a1_1] rfl mp_ ?_;(with_reducible refine(dataflowref45_words.calls a0_1 a1_1 t47004 _ A5.out).mono ?_);rintro e w' ⟨rfl,⟨nd,rfl⟩⟩;refine⟨_,rfl,?_⟩))
   go_ret;exact⟨er_,b46_3⟩
 ·rw [if_neg c4] at H;obtain⟨c4b0,c4b1⟩:=eqF_ c4;obtain rfl:=Option.some.inj H;go_enter Tryd.func46,Tryd.ntmps46
  go_wp2_with (first|((with_reducible refine gate_dst (N:=2) rfl ?_);refine box_event ?hg (N:=2) ?hd (cs:=#[.string a0_0,.string a0_1,.int .i64 a0_2]) (t:=25) ?hr ?_;(case hd=>rfl);(case hg=>rfl);(case hr=>first|(go_simp;done)|(go_simp;rfl));intro gb47001 hg w18 hbox hb;have n_:=as4_ (below_step bl_ hb) hbox ((b46_4:w.heap.size≤gb47001)) ((b46_4:w.heap.size≤gb47001));clear HB;obtain⟨HB,BK47001,GW47001,GE47001⟩:=n_;clear hb hbox hg)|((with_reducible refine gate_dst (N:=3) rfl ?_);refine box_event ?hg (N:=3) ?hd (cs:=#[.string a1_0,.string a1_1,.int .i64 a1_2]) (t:=25) ?hr ?_;(case hd=>rfl);(case hg=>rfl);(case hr=>first|(go_simp;done)|(go_simp;rfl));intro gb47002 hg w19 hbox hb;have n_:=as7_ (blk_below (g:=gb47001) (o:=.cells #[.string a0_0,.string a0_1,.int .i64 a0_2] 25 (0,0)) b46_1 hb) (below_step b46_2 hb) hbox ((b46_5:w.heap.size≤gb47002)) ((b46_5:w.heap.size≤gb47002)) ((b46_6:gb47001≠gb47002)) ((b46_7:gb47002≠gb47001));clear BK47001 HB;obtain⟨BK47001,HB,BK47002,GW47002,GE47002,NB47001_47002,NB47002_47001⟩:=n_;clear hb hbox hg;have hnb20:=NB47001_47002.out;have hnc20:=NB47002_47001.out;obtain⟨hcz21_0,hcz21_1,hcz21_2,hfz21_0,hfz21_1,hfz21_2⟩:=cz3_ BK47001.out;obtain⟨hcz22_0,hcz22_1,hcz22_2,hfz22_0,hfz22_1,hfz22_2⟩:=cz3_ BK47002.out)|((with_reducible refine gate_callee (f:=48) rfl ?_);refine goesL_ (some 11) rfl rfl Tryd.func48 (by kernel_rfl) rfl #[.string a0_0,.string a1_0] rfl mp_ ?_;(with_reducible refine(dataflowref45_words.calls a0_0 a1_0 t47003 _ A3.out).mono ?_);rintro e w' ⟨rfl,⟨nd,rfl⟩⟩;refine⟨_,rfl,?_⟩))
  go_ret;exact⟨er_,b46_3⟩
end Go.Proofs.YtnoangbidnigdaaDoor.H

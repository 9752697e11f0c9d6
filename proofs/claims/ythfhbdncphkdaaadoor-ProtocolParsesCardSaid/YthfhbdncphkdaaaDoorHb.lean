/- Printed (xprint.py): Go functions as Lean functions, each with the proof that its call does what the Lean function says. -/
import Derived.Test.YthfhbdncphkdaaaDoorH0
namespace Go.Proofs.YthfhbdncphkdaaaDoor.H
open Go.RowKit Go.Proofs.YthfhbdncphkdaaaDoorW.PrintWords Go.Proofs.YthfhbdncphkdaaaDoorW.PrintLast Go.Proofs.YthfhbdncphkdaaaDoorW.PrintMore
attribute [local go_sem] max2_int min2_int max_two min_two max_three min_three max_four min_four   -- for this text's walks alone
attribute [local go_sem] xs_gtr xs_leq xs_geq
set_option linter.unusedVariables false
set_option linter.unusedSimpArgs false
-- BUNDLE b
/-! ### slices_Index_string_string: function 92 -/
def slices_Index_string_string.l0:Nat→List ByteArray→ByteArray→Int→Int→Option (Int)
 |0,_,_,_,_=>none
 |k+1,x0,x1,x7,x8=>if x8<x7 then(if 0≤x8 then(if x8<(x0.length:Int) then(if x1.toList=(rdOf ByteArray.empty x0 x8).toList then(some x8) else(slices_Index_string_string.l0 k x0 x1 x7 (wrap64 (x8+1)))) else(none)) else(none)) else(some (-1))
def slices_Index_string_string.f(k:Nat)(l0:List ByteArray)(a1:ByteArray):Option (Int):=slices_Index_string_string.l0 k l0 a1 (l0.length:Int) 0
theorem b92_1{p:Prop}(h:p:=by repeat(first|exact Drawn0.refl _|apply Drawn0.step)):p:=h
theorem m92_0{p:Prop}(h:p:=by repeat' first|(with_reducible exact ih0 _ _ _ _)|(with_reducible exact LeO.refl _)|(with_reducible exact LeO.none _)|(with_reducible refine LeO.ite ?_ ?_)|(with_reducible refine LeO.bind ?_ (fun _=>?_))|exact ih0 _ _ _ _|exact LeO.none _|refine LeO.ite ?_ ?_|refine LeO.bind ?_ (fun _=>?_)):p:=h
theorem slices_Index_string_string.mono_l:∀ k,(∀ y0 y1 y2 y3,LeO (slices_Index_string_string.l0 k y0 y1 y2 y3) (slices_Index_string_string.l0 (k+1) y0 y1 y2 y3))
 |0=>fun _ _ _ _ r h=>by simp [slices_Index_string_string.l0] at h
 |k+1=>by
  have ih0:=slices_Index_string_string.mono_l k
  ·intro y0 y1 y2 y3;unfold slices_Index_string_string.l0;exact m92_0
theorem slices_Index_string_string.mono:∀ a0 a1 k,LeO (slices_Index_string_string.f k a0 a1) (slices_Index_string_string.f (k+1) a0 a1):=by
 intro a0 a1 k;have ih0:=slices_Index_string_string.mono_l k;unfold slices_Index_string_string.f;exact m92_0
set_option maxHeartbeats 8000000 in
set_option maxRecDepth 100000 in
theorem slices_Index_string_string.calls(k:Nat)(A0:Option Addr)(c0:Nat)(l0:List ByteArray)(a1:ByteArray)(r:Int)(w:World)(hr0:Kd.C Kd.string w A0 l0.length l0)(hc0:l0.length≤c0)(h:slices_Index_string_string.f k l0 a1=some r) :
  Calls Tryd.prog 92 #[.slice A0 l0.length c0,.string a1] w fun e w'=>e=.returned (.int .i64 r)∧Drawn0 w w':=by
 have HR0:=Aside0.mk hr0;have HC0:=Aside0.mk hc0;clear hr0 hc0;have H:(slices_Index_string_string.l0 k l0 a1 (l0.length:Int) 0)=some r:=h;clear h;have H':=Aside0.mk H;clear H;go_enter Tryd.func92,Tryd.ntmps92;go_wp2
 go_loopg [8] k (fun kq v8 w'=>∃ (x8_1:Int),v8=.int .i64 x8_1∧Aside0 (slices_Index_string_string.l0 kq l0 a1 (l0.length:Int) x8_1=some r)∧Aside0 (kq≤k)∧Drawn0 w w')
 case atStart=>exact⟨(0),fr_,H',⟨Nat.le_refl _⟩,b92_1⟩
 case round =>
  clear H';(try clear p2);obtain⟨x8_1,rfl,HA,HK1,⟨m1,rfl⟩⟩:=hrel
  cases gk with
  |zero=>exact absurd HA.out (by simp [slices_Index_string_string.l0])
  |succ k1 =>
   have H:=HA.out;clear HA;simp only [slices_Index_string_string.l0] at H
   by_cases c3:x8_1<(l0.length:Int)
   ·rw [if_pos c3] at H;have c3b0:decide (x8_1<(l0.length:Int))=true:=decide_eq_true c3;clear c3
    by_cases c4:0≤x8_1
    ·rw [if_pos c4] at H;have c4b0:decide (0≤x8_1)=true:=decide_eq_true c4;clear c4
     by_cases c5:x8_1<(l0.length:Int)
     ·rw [if_pos c5] at H;have c5b0:decide (x8_1<(l0.length:Int))=true:=decide_eq_true c5;clear c5
      by_cases c6:a1.toList=(rdOf ByteArray.empty l0 x8_1).toList
      ·rw [if_pos c6] at H;obtain⟨c6b0,c6b1⟩:=eqT_ c6;clear c6;obtain rfl:=Option.some.inj H;have p93001:0≤(x8_1:Int):=of_decide_eq_true as_;have q93001:x8_1<(l0.length:Int):=of_decide_eq_true as_;obtain⟨ad93001,e93001,hx93001_0⟩:=Kd.at_string HR0.out x8_1 p93001 q93001;cases e93001;replace p93001:=eq_true p93001;replace q93001:=eq_true q93001;go_wp2;go_ret;exact⟨fr_,b92_1⟩
      ·rw [if_neg c6] at H;obtain⟨c6b0,c6b1⟩:=eqF_ c6;have H':=Aside0.mk H;clear H;have p93001:0≤(x8_1:Int):=of_decide_eq_true as_;have q93001:x8_1<(l0.length:Int):=of_decide_eq_true as_;obtain⟨ad93001,e93001,hx93001_0⟩:=Kd.at_string HR0.out x8_1 p93001 q93001;cases e93001;replace p93001:=eq_true p93001;replace q93001:=eq_true q93001;go_wp2
       go_roundg k1
       case measure=>have:=HK1.out;omega
       case rel=>exact⟨(wrap64 (x8_1+1)),fr_,H',⟨(by have:=HK1.out;omega)⟩,b92_1⟩
     ·rw [if_neg c5] at H;exact absurd H (by simp)
    ·rw [if_neg c4] at H;exact absurd H (by simp)
   ·rw [if_neg c3] at H;have c3b0:decide (x8_1<(l0.length:Int))=false:=decide_eq_false c3;clear c3;obtain rfl:=Option.some.inj H;go_wp2;go_ret;exact⟨fr_,b92_1⟩
/-! ### slices_Contains_string_string: function 64 -/
def slices_Contains_string_string.f(k:Nat)(l0:List ByteArray)(a1:ByteArray):Option (Bool):=(slices_Index_string_string.f k l0 a1).bind fun t65001=>(some (decide (t65001≥0)))
theorem slices_Contains_string_string.mono:∀ a0 a1 k,LeO (slices_Contains_string_string.f k a0 a1) (slices_Contains_string_string.f (k+1) a0 a1):=by
 intro a0 a1 k;unfold slices_Contains_string_string.f
 repeat' first
   |(with_reducible exact slices_Index_string_string.mono _ _ _)
   |(with_reducible exact LeO.refl _)
   |(with_reducible exact LeO.none _)
   |(with_reducible refine LeO.ite ?_ ?_)
   |(with_reducible refine LeO.bind ?_ (fun _=>?_))
   |exact slices_Index_string_string.mono _ _ _
   |exact LeO.none _
   |refine LeO.ite ?_ ?_
   |refine LeO.bind ?_ (fun _=>?_)
set_option maxHeartbeats 8000000 in
set_option maxRecDepth 100000 in
theorem slices_Contains_string_string.calls(k:Nat)(A0:Option Addr)(c0:Nat)(l0:List ByteArray)(a1:ByteArray)(r:Bool)(w:World)(hr0:Kd.C Kd.string w A0 l0.length l0)(hc0:l0.length≤c0)(h:slices_Contains_string_string.f k l0 a1=some r) :
  Calls Tryd.prog 64 #[.slice A0 l0.length c0,.string a1] w fun e w'=>e=.returned (.bool r)∧Drawn0 w w':=by
 have HR0:=Aside0.mk hr0;have HC0:=Aside0.mk hc0;clear hr0 hc0;have H:((slices_Index_string_string.f k l0 a1).bind fun t65001=>(some (decide (t65001≥0))))=some r:=h;clear h;replace H:=Option.bind_eq_some_iff.mp H;obtain⟨t65001,A30,H⟩:=H;have A3:=Aside0.mk A30;clear A30;obtain rfl:=Option.some.inj H;go_enter Tryd.func64,Tryd.ntmps64
 go_wp2_with (first|((with_reducible refine gate_callee (f:=92) rfl ?_);refine goesL_ (some 7) rfl rfl Tryd.func92 (by kernel_rfl) rfl #[.slice A0 l0.length c0,.string a1] rfl mp_ ?_;(with_reducible refine(slices_Index_string_string.calls k _ _ l0 a1 t65001 _ ?side1 ?side2 A3.out).mono ?_);(case side1=>exact(by repeat(first|exact HR0.out|(with_reducible refine Kd.C_alloc ?_ _)|(with_reducible refine Kd.C_drewN ?_ _)|(with_reducible refine Kd.C_drew ?_))));(case side2=>exact HC0.out);rintro e w' ⟨rfl,⟨nd,rfl⟩⟩;refine⟨_,rfl,?_⟩))
 go_ret;exact⟨fr_,(by repeat(first|exact Drawn0.refl _|apply Drawn0.step))⟩
/-! ### cmp_Or_int: function 95 -/
def cmp_Or_int.l0:Nat→Int→List Int→Int→Int→Option (Int)
 |0,_,_,_,_=>none
 |k+1,x3,x6,x7,x8=>if x8<x7 then(if 0≤x8 then(if x8<(x6.length:Int) then(if (rd x6 x8)=x3 then(cmp_Or_int.l0 k x3 x6 x7 (wrap64 (x8+1))) else(some (rd x6 x8))) else(none)) else(none)) else(some x3)
def cmp_Or_int.f(k:Nat)(l0:List Int):Option (Int):=cmp_Or_int.l0 k 0 l0 (l0.length:Int) 0
theorem b95_1{p:Prop}(h:p:=by repeat(first|exact Drawn0.refl _|apply Drawn0.step)):p:=h
theorem m95_0{p:Prop}(h:p:=by repeat' first|(with_reducible exact ih0 _ _ _ _)|(with_reducible exact LeO.refl _)|(with_reducible exact LeO.none _)|(with_reducible refine LeO.ite ?_ ?_)|(with_reducible refine LeO.bind ?_ (fun _=>?_))|exact ih0 _ _ _ _|exact LeO.none _|refine LeO.ite ?_ ?_|refine LeO.bind ?_ (fun _=>?_)):p:=h
theorem cmp_Or_int.mono_l:∀ k,(∀ y0 y1 y2 y3,LeO (cmp_Or_int.l0 k y0 y1 y2 y3) (cmp_Or_int.l0 (k+1) y0 y1 y2 y3))
 |0=>fun _ _ _ _ r h=>by simp [cmp_Or_int.l0] at h
 |k+1=>by
  have ih0:=cmp_Or_int.mono_l k
  ·intro y0 y1 y2 y3;unfold cmp_Or_int.l0;exact m95_0
theorem cmp_Or_int.mono:∀ a0 k,LeO (cmp_Or_int.f k a0) (cmp_Or_int.f (k+1) a0):=by
 intro a0 k;have ih0:=cmp_Or_int.mono_l k;unfold cmp_Or_int.f;exact m95_0
set_option maxHeartbeats 8000000 in
set_option maxRecDepth 100000 in
theorem cmp_Or_int.calls(k:Nat)(A0:Option Addr)(c0:Nat)(l0:List Int)(r:Int)(w:World)(hr0:Kd.C (Kd.int .i64) w A0 l0.length l0)(hc0:l0.length≤c0)(h:cmp_Or_int.f k l0=some r) :
  Calls Tryd.prog 95 #[.slice A0 l0.length c0] w fun e w'=>e=.returned (.int .i64 r)∧Drawn0 w w':=by
 have HR0:=Aside0.mk hr0;have HC0:=Aside0.mk hc0;clear hr0 hc0;have H:(cmp_Or_int.l0 k 0 l0 (l0.length:Int) 0)=some r:=h;clear h;have H':=Aside0.mk H;clear H;go_enter Tryd.func95,Tryd.ntmps95;go_wp2
 go_loopg [8] k (fun kq v8 w'=>∃ (x8_1:Int),v8=.int .i64 x8_1∧Aside0 (cmp_Or_int.l0 kq 0 l0 (l0.length:Int) x8_1=some r)∧Aside0 (kq≤k)∧Drawn0 w w')
 case atStart=>exact⟨(0),fr_,H',⟨Nat.le_refl _⟩,b95_1⟩
 case round =>
  clear H';obtain⟨x8_1,rfl,HA,HK1,⟨m1,rfl⟩⟩:=hrel
  cases gk with
  |zero=>exact absurd HA.out (by simp [cmp_Or_int.l0])
  |succ k1 =>
   have H:=HA.out;clear HA;simp only [cmp_Or_int.l0] at H
   by_cases c2:x8_1<(l0.length:Int)
   ·rw [if_pos c2] at H;have c2b0:decide (x8_1<(l0.length:Int))=true:=decide_eq_true c2;clear c2
    by_cases c3:0≤x8_1
    ·rw [if_pos c3] at H;have c3b0:decide (0≤x8_1)=true:=decide_eq_true c3;clear c3
     by_cases c4:x8_1<(l0.length:Int)
     ·rw [if_pos c4] at H;have c4b0:decide (x8_1<(l0.length:Int))=true:=decide_eq_true c4;clear c4
      by_cases c5:(rd l0 x8_1)=0
      ·rw [if_pos c5] at H;obtain⟨c5b0,c5b1⟩:=eqT_ c5;clear c5;have H':=Aside0.mk H;clear H;have p96001:0≤(x8_1:Int):=of_decide_eq_true as_;have q96001:x8_1<(l0.length:Int):=of_decide_eq_true as_;obtain⟨ad96001,e96001,hx96001_0⟩:=Kd.at_int HR0.out x8_1 p96001 q96001;cases e96001;replace p96001:=eq_true p96001;replace q96001:=eq_true q96001;go_wp2
       go_roundg k1
       case measure=>have:=HK1.out;omega
       case rel=>exact⟨(wrap64 (x8_1+1)),fr_,H',⟨(by have:=HK1.out;omega)⟩,b95_1⟩
      ·rw [if_neg c5] at H;obtain⟨c5b0,c5b1⟩:=eqF_ c5;obtain rfl:=Option.some.inj H;have p96001:0≤(x8_1:Int):=of_decide_eq_true as_;have q96001:x8_1<(l0.length:Int):=of_decide_eq_true as_;obtain⟨ad96001,e96001,hx96001_0⟩:=Kd.at_int HR0.out x8_1 p96001 q96001;cases e96001;replace p96001:=eq_true p96001;replace q96001:=eq_true q96001;go_wp2;go_ret;exact⟨fr_,b95_1⟩
     ·rw [if_neg c4] at H;exact absurd H (by simp)
    ·rw [if_neg c3] at H;exact absurd H (by simp)
   ·rw [if_neg c2] at H;have c2b0:decide (x8_1<(l0.length:Int))=false:=decide_eq_false c2;clear c2;obtain rfl:=Option.some.inj H;go_wp2;go_ret;exact⟨fr_,b95_1⟩
/-! ### cmp_isNaN_int: function 102 -/
def cmp_isNaN_int.f(a0:Int):Option (Bool):=some (a0 !=a0)
set_option maxHeartbeats 8000000 in
set_option maxRecDepth 100000 in
theorem cmp_isNaN_int.calls(a0:Int)(r:Bool)(w:World)(h:cmp_isNaN_int.f a0=some r) :
  Calls Tryd.prog 102 #[.int .i64 a0] w fun e w'=>e=.returned (.bool r)∧Drawn0 w w':=by
 have H:(some (a0 !=a0))=some r:=h;clear h;obtain rfl:=Option.some.inj H;go_enter Tryd.func102,Tryd.ntmps102;go_wp2;go_ret;exact⟨fr_,(by repeat(first|exact Drawn0.refl _|apply Drawn0.step))⟩
/-! ### cmp_Compare_int: function 96 -/
def cmp_Compare_int.f(a0:Int)(a1:Int):Option (Int):=(cmp_isNaN_int.f a0).bind fun t97001=>((cmp_isNaN_int.f a1).bind fun t97002=>(if t97001=true then(if t97002=true then(some 0) else(some (-1))) else(if t97002=true then(some 1) else(if a0<a1 then(some (-1)) else(if a0>a1 then(some 1) else(some 0))))))
theorem b96_1{p:Prop}(h:p:=by repeat(first|exact Drawn0.refl _|apply Drawn0.step)):p:=h
set_option maxHeartbeats 8000000 in
set_option maxRecDepth 100000 in
theorem cmp_Compare_int.calls(a0:Int)(a1:Int)(r:Int)(w:World)(h:cmp_Compare_int.f a0 a1=some r) :
  Calls Tryd.prog 96 #[.int .i64 a0,.int .i64 a1] w fun e w'=>e=.returned (.int .i64 r)∧Drawn0 w w':=by
 have H:((cmp_isNaN_int.f a0).bind fun t97001=>((cmp_isNaN_int.f a1).bind fun t97002=>(if t97001=true then(if t97002=true then(some 0) else(some (-1))) else(if t97002=true then(some 1) else(if a0<a1 then(some (-1)) else(if a0>a1 then(some 1) else(some 0)))))))=some r:=h;clear h;replace H:=Option.bind_eq_some_iff.mp H;obtain⟨t97001,A30,H⟩:=H;have A3:=Aside0.mk A30;clear A30;replace H:=Option.bind_eq_some_iff.mp H;obtain⟨t97002,A40,H⟩:=H;have A4:=Aside0.mk A40;clear A40
 by_cases c5:t97001=true
 ·subst c5;rw [if_pos rfl] at H
  by_cases c6:t97002=true
  ·subst c6;rw [if_pos rfl] at H;obtain rfl:=Option.some.inj H;go_enter Tryd.func96,Tryd.ntmps96
   go_wp2_with (first|((with_reducible refine gate_callee (f:=102) rfl ?_);refine goesL_ (some 8) rfl rfl Tryd.func102 (by kernel_rfl) rfl #[.int .i64 a0] rfl mp_ ?_;(with_reducible refine(cmp_isNaN_int.calls a0 true _ A3.out).mono ?_);rintro e w' ⟨rfl,⟨nd,rfl⟩⟩;refine⟨_,rfl,?_⟩)|((with_reducible refine gate_callee (f:=102) rfl ?_);refine goesL_ (some 10) rfl rfl Tryd.func102 (by kernel_rfl) rfl #[.int .i64 a1] rfl mp_ ?_;(with_reducible refine(cmp_isNaN_int.calls a1 true _ A4.out).mono ?_);rintro e w' ⟨rfl,⟨nd,rfl⟩⟩;refine⟨_,rfl,?_⟩))
   go_ret;exact⟨fr_,b96_1⟩
  ·replace c6:=Bool.eq_false_iff.mpr c6;subst c6;rw [if_neg nf_] at H;obtain rfl:=Option.some.inj H;go_enter Tryd.func96,Tryd.ntmps96
   go_wp2_with (first|((with_reducible refine gate_callee (f:=102) rfl ?_);refine goesL_ (some 8) rfl rfl Tryd.func102 (by kernel_rfl) rfl #[.int .i64 a0] rfl mp_ ?_;(with_reducible refine(cmp_isNaN_int.calls a0 true _ A3.out).mono ?_);rintro e w' ⟨rfl,⟨nd,rfl⟩⟩;refine⟨_,rfl,?_⟩)|((with_reducible refine gate_callee (f:=102) rfl ?_);refine goesL_ (some 10) rfl rfl Tryd.func102 (by kernel_rfl) rfl #[.int .i64 a1] rfl mp_ ?_;(with_reducible refine(cmp_isNaN_int.calls a1 false _ A4.out).mono ?_);rintro e w' ⟨rfl,⟨nd,rfl⟩⟩;refine⟨_,rfl,?_⟩))
   go_ret;exact⟨fr_,b96_1⟩
 ·replace c5:=Bool.eq_false_iff.mpr c5;subst c5;rw [if_neg nf_] at H
  by_cases c7:t97002=true
  ·subst c7;rw [if_pos rfl] at H;obtain rfl:=Option.some.inj H;go_enter Tryd.func96,Tryd.ntmps96
   go_wp2_with (first|((with_reducible refine gate_callee (f:=102) rfl ?_);refine goesL_ (some 8) rfl rfl Tryd.func102 (by kernel_rfl) rfl #[.int .i64 a0] rfl mp_ ?_;(with_reducible refine(cmp_isNaN_int.calls a0 false _ A3.out).mono ?_);rintro e w' ⟨rfl,⟨nd,rfl⟩⟩;refine⟨_,rfl,?_⟩)|((with_reducible refine gate_callee (f:=102) rfl ?_);refine goesL_ (some 10) rfl rfl Tryd.func102 (by kernel_rfl) rfl #[.int .i64 a1] rfl mp_ ?_;(with_reducible refine(cmp_isNaN_int.calls a1 true _ A4.out).mono ?_);rintro e w' ⟨rfl,⟨nd,rfl⟩⟩;refine⟨_,rfl,?_⟩))
   go_ret;exact⟨fr_,b96_1⟩
  ·replace c7:=Bool.eq_false_iff.mpr c7;subst c7;rw [if_neg nf_] at H
   by_cases c8:a0<a1
   ·rw [if_pos c8] at H;have c8b0:decide (a0<a1)=true:=decide_eq_true c8;clear c8;obtain rfl:=Option.some.inj H;go_enter Tryd.func96,Tryd.ntmps96
    go_wp2_with (first|((with_reducible refine gate_callee (f:=102) rfl ?_);refine goesL_ (some 8) rfl rfl Tryd.func102 (by kernel_rfl) rfl #[.int .i64 a0] rfl mp_ ?_;(with_reducible refine(cmp_isNaN_int.calls a0 false _ A3.out).mono ?_);rintro e w' ⟨rfl,⟨nd,rfl⟩⟩;refine⟨_,rfl,?_⟩)|((with_reducible refine gate_callee (f:=102) rfl ?_);refine goesL_ (some 10) rfl rfl Tryd.func102 (by kernel_rfl) rfl #[.int .i64 a1] rfl mp_ ?_;(with_reducible refine(cmp_isNaN_int.calls a1 false _ A4.out).mono ?_);rintro e w' ⟨rfl,⟨nd,rfl⟩⟩;refine⟨_,rfl,?_⟩))
    go_ret;exact⟨fr_,b96_1⟩
   ·rw [if_neg c8] at H;have c8b0:decide (a0<a1)=false:=decide_eq_false c8;clear c8
    by_cases c9:a0>a1
    ·rw [if_pos c9] at H;have c9b0:decide (a1<a0)=true:=decide_eq_true c9;clear c9;obtain rfl:=Option.some.inj H;go_enter Tryd.func96,Tryd.ntmps96
     go_wp2_with (first|((with_reducible refine gate_callee (f:=102) rfl ?_);refine goesL_ (some 8) rfl rfl Tryd.func102 (by kernel_rfl) rfl #[.int .i64 a0] rfl mp_ ?_;(with_reducible refine(cmp_isNaN_int.calls a0 false _ A3.out).mono ?_);rintro e w' ⟨rfl,⟨nd,rfl⟩⟩;refine⟨_,rfl,?_⟩)|((with_reducible refine gate_callee (f:=102) rfl ?_);refine goesL_ (some 10) rfl rfl Tryd.func102 (by kernel_rfl) rfl #[.int .i64 a1] rfl mp_ ?_;(with_reducible refine(cmp_isNaN_int.calls a1 false _ A4.out).mono ?_);rintro e w' ⟨rfl,⟨nd,rfl⟩⟩;refine⟨_,rfl,?_⟩))
     go_ret;exact⟨fr_,b96_1⟩
    ·rw [if_neg c9] at H;have c9b0:decide (a1<a0)=false:=decide_eq_false c9;clear c9;obtain rfl:=Option.some.inj H;go_enter Tryd.func96,Tryd.ntmps96
     go_wp2_with (first|((with_reducible refine gate_callee (f:=102) rfl ?_);refine goesL_ (some 8) rfl rfl Tryd.func102 (by kernel_rfl) rfl #[.int .i64 a0] rfl mp_ ?_;(with_reducible refine(cmp_isNaN_int.calls a0 false _ A3.out).mono ?_);rintro e w' ⟨rfl,⟨nd,rfl⟩⟩;refine⟨_,rfl,?_⟩)|((with_reducible refine gate_callee (f:=102) rfl ?_);refine goesL_ (some 10) rfl rfl Tryd.func102 (by kernel_rfl) rfl #[.int .i64 a1] rfl mp_ ?_;(with_reducible refine(cmp_isNaN_int.calls a1 false _ A4.out).mono ?_);rintro e w' ⟨rfl,⟨nd,rfl⟩⟩;refine⟨_,rfl,?_⟩))
     go_ret;exact⟨fr_,b96_1⟩
/-! ### cmp_isNaN_string: function 103 -/
def cmp_isNaN_string.f(a0:ByteArray):Option (Bool):=some (a0.toList !=a0.toList)
set_option maxHeartbeats 8000000 in
set_option maxRecDepth 100000 in
theorem cmp_isNaN_string.calls(a0:ByteArray)(r:Bool)(w:World)(h:cmp_isNaN_string.f a0=some r) :
  Calls Tryd.prog 103 #[.string a0] w fun e w'=>e=.returned (.bool r)∧Drawn0 w w':=by
 have H:(some (a0.toList !=a0.toList))=some r:=h;clear h;obtain rfl:=Option.some.inj H;go_enter Tryd.func103,Tryd.ntmps103;go_wp2;go_ret;exact⟨fr_,(by repeat(first|exact Drawn0.refl _|apply Drawn0.step))⟩
/-! ### cmp_Compare_string: function 97 -/
def cmp_Compare_string.f(a0:ByteArray)(a1:ByteArray):Option (Int):=(cmp_isNaN_string.f a0).bind fun t98001=>((cmp_isNaN_string.f a1).bind fun t98002=>(if t98001=true then(if t98002=true then(some 0) else(some (-1))) else(if t98002=true then(some 1) else(if (Op.bytesLess a0.toList a1.toList)=true then(some (-1)) else(if (Op.bytesLess a1.toList a0.toList)=true then(some 1) else(some 0))))))
theorem b97_1{p:Prop}(h:p:=by repeat(first|exact Drawn0.refl _|apply Drawn0.step)):p:=h
set_option maxHeartbeats 8000000 in
set_option maxRecDepth 100000 in
theorem cmp_Compare_string.calls(a0:ByteArray)(a1:ByteArray)(r:Int)(w:World)(h:cmp_Compare_string.f a0 a1=some r) :
  Calls Tryd.prog 97 #[.string a0,.string a1] w fun e w'=>e=.returned (.int .i64 r)∧Drawn0 w w':=by
 have H:((cmp_isNaN_string.f a0).bind fun t98001=>((cmp_isNaN_string.f a1).bind fun t98002=>(if t98001=true then(if t98002=true then(some 0) else(some (-1))) else(if t98002=true then(some 1) else(if (Op.bytesLess a0.toList a1.toList)=true then(some (-1)) else(if (Op.bytesLess a1.toList a0.toList)=true then(some 1) else(some 0)))))))=some r:=h;clear h;replace H:=Option.bind_eq_some_iff.mp H;obtain⟨t98001,A30,H⟩:=H;have A3:=Aside0.mk A30;clear A30;replace H:=Option.bind_eq_some_iff.mp H;obtain⟨t98002,A40,H⟩:=H;have A4:=Aside0.mk A40;clear A40
 by_cases c5:t98001=true
 ·subst c5;rw [if_pos rfl] at H
  by_cases c6:t98002=true
  ·subst c6;rw [if_pos rfl] at H;obtain rfl:=Option.some.inj H;go_enter Tryd.func97,Tryd.ntmps97
   go_wp2_with (first|((with_reducible refine gate_callee (f:=103) rfl ?_);refine goesL_ (some 8) rfl rfl Tryd.func103 (by kernel_rfl) rfl #[.string a0] rfl mp_ ?_;(with_reducible refine(cmp_isNaN_string.calls a0 true _ A3.out).mono ?_);rintro e w' ⟨rfl,⟨nd,rfl⟩⟩;refine⟨_,rfl,?_⟩)|((with_reducible refine gate_callee (f:=103) rfl ?_);refine goesL_ (some 10) rfl rfl Tryd.func103 (by kernel_rfl) rfl #[.string a1] rfl mp_ ?_;(with_reducible refine(cmp_isNaN_string.calls a1 true _ A4.out).mono ?_);rintro e w' ⟨rfl,⟨nd,rfl⟩⟩;refine⟨_,rfl,?_⟩))
   go_ret;exact⟨fr_,b97_1⟩
  ·replace c6:=Bool.eq_false_iff.mpr c6;subst c6;rw [if_neg nf_] at H;obtain rfl:=Option.some.inj H;go_enter Tryd.func97,Tryd.ntmps97
   go_wp2_with (first|((with_reducible refine gate_callee (f:=103) rfl ?_);refine goesL_ (some 8) rfl rfl Tryd.func103 (by kernel_rfl) rfl #[.string a0] rfl mp_ ?_;(with_reducible refine(cmp_isNaN_string.calls a0 true _ A3.out).mono ?_);rintro e w' ⟨rfl,⟨nd,rfl⟩⟩;refine⟨_,rfl,?_⟩)|((with_reducible refine gate_callee (f:=103) rfl ?_);refine goesL_ (some 10) rfl rfl Tryd.func103 (by kernel_rfl) rfl #[.string a1] rfl mp_ ?_;(with_reducible refine(cmp_isNaN_string.calls a1 false _ A4.out).mono ?_);rintro e w' ⟨rfl,⟨nd,rfl⟩⟩;refine⟨_,rfl,?_⟩))
   go_ret;exact⟨fr_,b97_1⟩
 ·replace c5:=Bool.eq_false_iff.mpr c5;subst c5;rw [if_neg nf_] at H
  by_cases c7:t98002=true
  ·subst c7;rw [if_pos rfl] at H;obtain rfl:=Option.some.inj H;go_enter Tryd.func97,Tryd.ntmps97
   go_wp2_with (first|((with_reducible refine gate_callee (f:=103) rfl ?_);refine goesL_ (some 8) rfl rfl Tryd.func103 (by kernel_rfl) rfl #[.string a0] rfl mp_ ?_;(with_reducible refine(cmp_isNaN_string.calls a0 false _ A3.out).mono ?_);rintro e w' ⟨rfl,⟨nd,rfl⟩⟩;refine⟨_,rfl,?_⟩)|((with_reducible refine gate_callee (f:=103) rfl ?_);refine goesL_ (some 10) rfl rfl Tryd.func103 (by kernel_rfl) rfl #[.string a1] rfl mp_ ?_;(with_reducible refine(cmp_isNaN_string.calls a1 true _ A4.out).mono ?_);rintro e w' ⟨rfl,⟨nd,rfl⟩⟩;refine⟨_,rfl,?_⟩))
   go_ret;exact⟨fr_,b97_1⟩
  ·replace c7:=Bool.eq_false_iff.mpr c7;subst c7;rw [if_neg nf_] at H
   by_cases c8:(Op.bytesLess a0.toList a1.toList)=true
   ·rw [if_pos c8] at H;have c8b0:(Op.bytesLess a0.toList a1.toList)=true:=c8;clear c8;obtain rfl:=Option.some.inj H;go_enter Tryd.func97,Tryd.ntmps97
    go_wp2_with (first|((with_reducible refine gate_callee (f:=103) rfl ?_);refine goesL_ (some 8) rfl rfl Tryd.func103 (by kernel_rfl) rfl #[.string a0] rfl mp_ ?_;(with_reducible refine(cmp_isNaN_string.calls a0 false _ A3.out).mono ?_);rintro e w' ⟨rfl,⟨nd,rfl⟩⟩;refine⟨_,rfl,?_⟩)|((with_reducible refine gate_callee (f:=103) rfl ?_);refine goesL_ (some 10) rfl rfl Tryd.func103 (by kernel_rfl) rfl #[.string a1] rfl mp_ ?_;(with_reducible refine(cmp_isNaN_string.calls a1 false _ A4.out).mono ?_);rintro e w' ⟨rfl,⟨nd,rfl⟩⟩;refine⟨_,rfl,?_⟩))
    go_ret;exact⟨fr_,b97_1⟩
   ·rw [if_neg c8] at H
    have c8b0:(Op.bytesLess a0.toList a1.toList)=false:=by simpa using c8
    clear c8
    by_cases c9:(Op.bytesLess a1.toList a0.toList)=true
    ·rw [if_pos c9] at H;have c9b0:(Op.bytesLess a1.toList a0.toList)=true:=c9;clear c9;obtain rfl:=Option.some.inj H;go_enter Tryd.func97,Tryd.ntmps97
     go_wp2_with (first|((with_reducible refine gate_callee (f:=103) rfl ?_);refine goesL_ (some 8) rfl rfl Tryd.func103 (by kernel_rfl) rfl #[.string a0] rfl mp_ ?_;(with_reducible refine(cmp_isNaN_string.calls a0 false _ A3.out).mono ?_);rintro e w' ⟨rfl,⟨nd,rfl⟩⟩;refine⟨_,rfl,?_⟩)|((with_reducible refine gate_callee (f:=103) rfl ?_);refine goesL_ (some 10) rfl rfl Tryd.func103 (by kernel_rfl) rfl #[.string a1] rfl mp_ ?_;(with_reducible refine(cmp_isNaN_string.calls a1 false _ A4.out).mono ?_);rintro e w' ⟨rfl,⟨nd,rfl⟩⟩;refine⟨_,rfl,?_⟩))
     go_ret;exact⟨fr_,b97_1⟩
    ·rw [if_neg c9] at H
     have c9b0:(Op.bytesLess a1.toList a0.toList)=false:=by simpa using c9
     clear c9;obtain rfl:=Option.some.inj H;go_enter Tryd.func97,Tryd.ntmps97
     go_wp2_with (first|((with_reducible refine gate_callee (f:=103) rfl ?_);refine goesL_ (some 8) rfl rfl Tryd.func103 (by kernel_rfl) rfl #[.string a0] rfl mp_ ?_;(with_reducible refine(cmp_isNaN_string.calls a0 false _ A3.out).mono ?_);rintro e w' ⟨rfl,⟨nd,rfl⟩⟩;refine⟨_,rfl,?_⟩)|((with_reducible refine gate_callee (f:=103) rfl ?_);refine goesL_ (some 10) rfl rfl Tryd.func103 (by kernel_rfl) rfl #[.string a1] rfl mp_ ?_;(with_reducible refine(cmp_isNaN_string.calls a1 false _ A4.out).mono ?_);rintro e w' ⟨rfl,⟨nd,rfl⟩⟩;refine⟨_,rfl,?_⟩))
     go_ret;exact⟨fr_,b97_1⟩
/-! ### protocol_compare: function 79 -/
def protocol_compare.f(k:Nat)(a0_0:Int)(a0_1:ByteArray)(a0_2:Int)(a1_0:Int)(a1_1:ByteArray)(a1_2:Int):Option (Int):=(cmp_Compare_int.f a0_0 a1_0).bind fun t80003=>((cmp_Compare_string.f a0_1 a1_1).bind fun t80004=>((cmp_Or_int.f k (([t80003,t80004]:List Int))).bind fun t80008=>(some t80008)))
theorem b79_1{p:Prop}(h:p:=by(with_reducible repeat(first|refine blk_drewN ?_ _|refine blk_drew ?_|refine blk_alloc ?_ _));exact BK80001.out):p:=h
theorem b79_2{p:Prop}(h:p:=by repeat(first|(with_reducible first|exact HB.out|apply below_alloc|apply pw_below_drewN|apply below_drew1|refine below_set ?_ GE80001.out)|exact HB.out)):p:=h
theorem b79_3{p:Prop}(h:p:=by repeat(first|(with_reducible first|exact HB.out|apply below_alloc|apply pw_below_drewN|apply below_drew1|refine below_set ?_ GE80001.out|refine below_set ?_ GE80002.out)|exact HB.out)):p:=h
theorem protocol_compare.mono:∀ a0 a1 a2 a3 a4 a5 k,LeO (protocol_compare.f k a0 a1 a2 a3 a4 a5) (protocol_compare.f (k+1) a0 a1 a2 a3 a4 a5):=by
 intro a0 a1 a2 a3 a4 a5 k;unfold protocol_compare.f
 repeat' first
   |(with_reducible exact cmp_Or_int.mono _ _)
   |(with_reducible exact LeO.refl _)
   |(with_reducible exact LeO.none _)
   |(with_reducible refine LeO.ite ?_ ?_)
   |(with_reducible refine LeO.bind ?_ (fun _=>?_))
   |exact cmp_Or_int.mono _ _
   |exact LeO.none _
   |refine LeO.ite ?_ ?_
   |refine LeO.bind ?_ (fun _=>?_)
def protocol_compare.T1:Bool × List (List Nat × List Nat):=(true,[([],[]),([0],[0]),([],[]),([2],[2]),([1,3],[1,3]),([],[]),([5],[5]),([],[]),([7],[7]),([6,8,4],[6,8]),([4,9],[4,9]),([10,9],[10]),([11,11,0,1,2,3,4,5,6,7,8,9,10,11],[11])])
def protocol_compare.B1:List Nat:=[0,1,0,4,15,0,32,0,128,511,1023,2047,4095]
theorem protocol_compare.tab1:rtab .any (opsOf Tryd.f79 1)=protocol_compare.T1:=by kernel_rfl
theorem protocol_compare.bits1:waitsOk protocol_compare.T1.2 protocol_compare.B1=true:=by kernel_rfl
set_option maxHeartbeats 8000000 in
set_option maxRecDepth 100000 in
theorem protocol_compare.calls(k:Nat)(a0_0:Int)(a0_1:ByteArray)(a0_2:Int)(a1_0:Int)(a1_1:ByteArray)(a1_2:Int)(r:Int)(w:World)(h:protocol_compare.f k a0_0 a0_1 a0_2 a1_0 a1_1 a1_2=some r) :
  Calls Tryd.prog 79 #[.agg #[.int .i64 a0_0,.string a0_1,.int .i64 a0_2],.agg #[.int .i64 a1_0,.string a1_1,.int .i64 a1_2]] w fun e w'=>e=.returned (.int .i64 r)∧Below w.heap.size w w':=by
 have hu64:=Tryd.underlying64;have HB:=Aside0.mk (Below.refl w.heap.size w);have H:((cmp_Compare_int.f a0_0 a1_0).bind fun t80003=>((cmp_Compare_string.f a0_1 a1_1).bind fun t80004=>((cmp_Or_int.f k (([t80003,t80004]:List Int))).bind fun t80008=>(some t80008))))=some r:=h;clear h;replace H:=Option.bind_eq_some_iff.mp H;obtain⟨t80003,A30,H⟩:=H;have A3:=Aside0.mk A30;clear A30;replace H:=Option.bind_eq_some_iff.mp H;obtain⟨t80004,A40,H⟩:=H;have A4:=Aside0.mk A40;clear A40;obtain⟨y80005,hy80005⟩:∃ y_:List Int,y_=(([t80003,t80004]:List Int)):=⟨_,rfl⟩
 replace H:((cmp_Or_int.f k y80005).bind fun t80008=>(some t80008))=some r:=by first|(rw [hy80005];with_reducible exact H)|(have H2_:=(Option.bind_some _ _).symm.trans H;rw [hy80005];with_reducible exact H2_)|(have H2_:=(Option.bind_some _ _).symm.trans H;with_reducible exact H2_)|with_reducible exact H|(rw [hy80005];exact H)|exact H
 have Ny80005:=Aside0.mk hy80005;clear hy80005;replace H:=Option.bind_eq_some_iff.mp H;obtain⟨t80008,A50,H⟩:=H;have A5:=Aside0.mk A50;clear A50;obtain rfl:=Option.some.inj H;go_enter Tryd.func79,Tryd.ntmps79
 try go_wp2_with (first|((with_reducible refine gate_dst (N:=2) rfl ?_);refine box_event ?hg (N:=2) ?hd (cs:=#[.int .i64 a0_0,.string a0_1,.int .i64 a0_2]) (t:=64) ?hr ?_;(case hd=>rfl);(case hg=>rfl);(case hr=>first|(go_simp;done)|(go_simp;rfl));intro gb80001 hg w6 hbox hb;have n_:=as4_ (below_step bl_ hb) hbox ((by rw [hg];exact(below_size bl_):w.heap.size≤gb80001)) ((by rw [hg];exact(below_size bl_):w.heap.size≤gb80001));clear HB;obtain⟨HB,BK80001,GW80001,GE80001⟩:=n_;clear hb hbox hg)|((with_reducible refine gate_dst (N:=3) rfl ?_);refine box_event ?hg (N:=3) ?hd (cs:=#[.int .i64 a1_0,.string a1_1,.int .i64 a1_2]) (t:=64) ?hr ?_;(case hd=>rfl);(case hg=>rfl);(case hr=>first|(go_simp;done)|(go_simp;rfl));intro gb80002 hg w7 hbox hb;have n_:=as7_ (blk_below (g:=gb80001) (o:=.cells #[.int .i64 a0_0,.string a0_1,.int .i64 a0_2] 64 (0,0)) b79_1 hb) (below_step b79_2 hb) hbox ((by rw [hg];exact(below_size b79_2):w.heap.size≤gb80002)) ((by rw [hg];exact(below_size b79_2):w.heap.size≤gb80002)) ((by rw [hg];exact Nat.ne_of_lt (blk_lt (g:=gb80001) (o:=.cells #[.int .i64 a0_0,.string a0_1,.int .i64 a0_2] 64 (0,0)) b79_1):gb80001≠gb80002)) ((by rw [hg];exact Nat.ne_of_gt (blk_lt (g:=gb80001) (o:=.cells #[.int .i64 a0_0,.string a0_1,.int .i64 a0_2] 64 (0,0)) b79_1):gb80002≠gb80001));clear BK80001 HB;obtain⟨BK80001,HB,BK80002,GW80002,GE80002,NB80001_80002,NB80002_80001⟩:=n_;clear hb hbox hg))
 have n_:=as3_ (blk_drew BK80001.out) (blk_drew BK80002.out) (below_drew1 HB.out);clear BK80001 BK80002 HB;obtain⟨BK80001,BK80002,HB⟩:=n_;refine start_ (n:=13) (S:=fun w'=>w'.cell? ⟨gb80001,0,none⟩=some (.int .i64 a0_0)∧w'.cell? ⟨gb80001,1,none⟩=some (.string a0_1)∧w'.cell? ⟨gb80001,2,none⟩=some (.int .i64 a0_2)∧w'.cell? ⟨gb80002,0,none⟩=some (.int .i64 a1_0)∧w'.cell? ⟨gb80002,1,none⟩=some (.string a1_1)∧w'.cell? ⟨gb80002,2,none⟩=some (.int .i64 a1_2)) (ds:=[]) #[false,false,false,false,false,false,false,false,false,false,false,false,false] (by kernel_rfl) rfl rfl ⟨(blk_cell BK80001.out 0).trans rfl,(blk_cell BK80001.out 1).trans rfl,(blk_cell BK80001.out 2).trans rfl,(blk_cell BK80002.out 0).trans rfl,(blk_cell BK80002.out 1).trans rfl,(blk_cell BK80002.out 2).trans rfl⟩ (fun hHeld=>?_);refine with_tabW protocol_compare.tab1 protocol_compare.bits1 (fun HT_ HW_=>?_);generalize w7.drew=w8 at BK80001 BK80002 HB hHeld ⊢;refine pu_ 0 5 ?_;refine pu_ 2 7 ?_;refine pu_ 5 10 ?_;refine pu_ 7 12 ?_;refine tk_ 1 6 ?_;refine tk_ 3 8 ?_;refine tk_ 6 11 ?_;refine tk_ 8 13 ?_;refine one_ (i:=4) (N:=some 9) #[true,true,true,true,true,true,true,true,true,false,false,false,false] rfl rfl (one_of HT_.out (by kernel_rfl)) (by decide) (fun K hK=>?_);refine goes_ Tryd.func96 (by kernel_rfl) rfl #[.int .i64 a0_0,.int .i64 a1_0] (by rfl) rfl rfl mp_ ?_;(with_reducible refine(cmp_Compare_int.calls a0_0 a1_0 t80003 _ A3.out).mono ?_);rintro e w' ⟨rfl,⟨nd,rfl⟩⟩;refine⟨_,rfl,?_⟩;refine hK.out _ _ ⟨(blk_cell BK80001.out 0).trans rfl,(blk_cell BK80001.out 1).trans rfl,(blk_cell BK80001.out 2).trans rfl,(blk_cell BK80002.out 0).trans rfl,(blk_cell BK80002.out 1).trans rfl,(blk_cell BK80002.out 2).trans rfl⟩ (fun hHeld=>?_);clear hK K;refine norm_ (a':=?_) ?_ ?_;rotate_left
 ·show Act.put _ (some 9) _=_
  simp only [Act.put,List.setIfInBounds_toArray,List.set_cons_zero,List.set_cons_succ,i64_w,i32_w];rfl
 refine one_ (i:=9) (N:=some 14) #[true,true,true,true,true,true,true,true,true,true,false,false,false] rfl rfl (one_of HT_.out (by kernel_rfl)) (by decide) (fun K hK=>?_);refine goes_ Tryd.func97 (by kernel_rfl) rfl #[.string a0_1,.string a1_1] (by rfl) rfl rfl mp_ ?_;(with_reducible refine(cmp_Compare_string.calls a0_1 a1_1 t80004 _ A4.out).mono ?_);rintro e w' ⟨rfl,⟨nd,rfl⟩⟩;refine⟨_,rfl,?_⟩;refine hK.out _ _ ⟨(blk_cell BK80001.out 0).trans rfl,(blk_cell BK80001.out 1).trans rfl,(blk_cell BK80001.out 2).trans rfl,(blk_cell BK80002.out 0).trans rfl,(blk_cell BK80002.out 1).trans rfl,(blk_cell BK80002.out 2).trans rfl⟩ (fun hHeld=>?_);clear hK K;refine norm_ (a':=?_) ?_ ?_;rotate_left
 ·show Act.put _ (some 14) _=_
  simp only [Act.put,List.setIfInBounds_toArray,List.set_cons_zero,List.set_cons_succ,i64_w,i32_w];rfl
 refine one_ (i:=10) (N:=some 15) #[true,true,true,true,true,true,true,true,true,true,true,false,false] rfl rfl (one_of HT_.out (by kernel_rfl)) (by decide) (fun K hK=>?_);refine Kd.R_lit_step (Kd.int .i64) _ 3 ?hg (N:=15) ?hd (xs:=([t80003,t80004]:List Int)) (inner:=[.int .i64 t80003,.int .i64 t80004]) (ok:=fun _=>True) (okp:=fun _=>True) ?hr ?hp (fun _ hk=>hk) trivial (Below.refl _ _) (Nat.le_refl _) (by simp) ?_;(case hd=>rfl);(case hg=>rfl);(case hr=>first|(go_simp;done)|(go_simp;rfl));(case hp=>exact(Reps.one (show Kd.M (Kd.int .i64) _ _ _ t80003 [.int .i64 t80003] from rfl) (Reps.one (show Kd.M (Kd.int .i64) _ _ _ t80004 [.int .i64 t80004] from rfl) (Reps.none _ _))));intro v80006 w9 ho10 hb hg_ hnew_;clear hg_ hnew_
 (first|rw [← Ny80005.out] at ho10|(simp only [Int.reduceToNat] at ho10;rw [← Ny80005.out] at ho10))
 have n_:=as4_ (Kd.R_lower ho10 (below_size b79_3)) (blk_below (g:=gb80001) (o:=.cells #[.int .i64 a0_0,.string a0_1,.int .i64 a0_2] 64 (0,0)) b79_1 hb) (blk_below (g:=gb80002) (o:=.cells #[.int .i64 a1_0,.string a1_1,.int .i64 a1_2] 64 (0,0)) (by(with_reducible repeat(first|refine blk_drewN ?_ _|refine blk_drew ?_|refine blk_alloc ?_ _));exact BK80002.out) hb) (below_step b79_3 hb);clear BK80001 BK80002 HB;obtain⟨HO80007,BK80001,BK80002,HB⟩:=n_;clear hb ho10;obtain⟨Ao11,co11,eo11⟩:=Kd.R_slice HO80007.out
 (first|subst eo11|(injection eo11 with f1_ f2_ f3_;have f4_:=f1_.symm;have f5_:=f3_.symm;clear f1_ f2_ f3_;subst f4_;subst f5_))
 refine hK.out _ _ ⟨(blk_cell BK80001.out 0).trans rfl,(blk_cell BK80001.out 1).trans rfl,(blk_cell BK80001.out 2).trans rfl,(blk_cell BK80002.out 0).trans rfl,(blk_cell BK80002.out 1).trans rfl,(blk_cell BK80002.out 2).trans rfl⟩ (fun hHeld=>?_);clear hK K;refine norm_ (a':=?_) ?_ ?_;rotate_left
 ·show Act.put _ (some 15) _=_
  simp only [Act.put,List.setIfInBounds_toArray,List.set_cons_zero,List.set_cons_succ,i64_w,i32_w];rfl
 refine one_ (i:=11) (N:=some 16) #[true,true,true,true,true,true,true,true,true,true,true,true,false] rfl rfl (one_of HT_.out (by kernel_rfl)) (by decide) (fun K hK=>?_);refine goes_ Tryd.func95 (by kernel_rfl) rfl #[.slice Ao11 y80005.length co11] (by rfl) rfl rfl mp_ ?_;(with_reducible refine(cmp_Or_int.calls k _ _ y80005 t80008 _ ?side1 ?side2 A5.out).mono ?_);(case side1=>exact(by repeat(first|exact(Kd.R_reads' HO80007.out).2.2|(with_reducible refine Kd.C_alloc ?_ _)|(with_reducible refine Kd.C_drewN ?_ _)|(with_reducible refine Kd.C_drew ?_))));(case side2=>exact(Kd.R_reads' HO80007.out).2.1);rintro e w' ⟨rfl,⟨nd,rfl⟩⟩;refine⟨_,rfl,?_⟩;refine hK.out _ _ ⟨(blk_cell BK80001.out 0).trans rfl,(blk_cell BK80001.out 1).trans rfl,(blk_cell BK80001.out 2).trans rfl,(blk_cell BK80002.out 0).trans rfl,(blk_cell BK80002.out 1).trans rfl,(blk_cell BK80002.out 2).trans rfl⟩ (fun hHeld=>?_);clear hK K;refine norm_ (a':=?_) ?_ ?_;rotate_left
 ·show Act.put _ (some 16) _=_
  simp only [Act.put,List.setIfInBounds_toArray,List.set_cons_zero,List.set_cons_succ,i64_w,i32_w];rfl
 refine pu_ 12 4 ?_;refine done_ (done_of HT_.out (by kernel_rfl)) ?_;(try go_wp2);go_ret;exact⟨er_,b79_3⟩
/-! ### api_Errno: function 91 -/
def api_Errno.l0:Nat→Int→List Int→Int→Int→Option (Int)
 |0,_,_,_,_=>none
 |k+1,x3,x6,x7,x8=>if x8<x7 then(if 0≤x8 then(if x8<(x6.length:Int) then(if (rd x6 x8)=x3 then(api_Errno.l0 k x3 x6 x7 (wrap64 (x8+1))) else(some (rd x6 x8))) else(none)) else(none)) else(some x3)
def api_Errno.f(k:Nat)(l0:List Int):Option (Int):=api_Errno.l0 k 0 l0 (l0.length:Int) 0
theorem b91_1{p:Prop}(h:p:=by repeat(first|exact Drawn0.refl _|apply Drawn0.step)):p:=h
theorem m91_0{p:Prop}(h:p:=by repeat' first|(with_reducible exact ih0 _ _ _ _)|(with_reducible exact LeO.refl _)|(with_reducible exact LeO.none _)|(with_reducible refine LeO.ite ?_ ?_)|(with_reducible refine LeO.bind ?_ (fun _=>?_))|exact ih0 _ _ _ _|exact LeO.none _|refine LeO.ite ?_ ?_|refine LeO.bind ?_ (fun _=>?_)):p:=h
theorem api_Errno.mono_l:∀ k,(∀ y0 y1 y2 y3,LeO (api_Errno.l0 k y0 y1 y2 y3) (api_Errno.l0 (k+1) y0 y1 y2 y3))
 |0=>fun _ _ _ _ r h=>by simp [api_Errno.l0] at h
 |k+1=>by
  have ih0:=api_Errno.mono_l k
  ·intro y0 y1 y2 y3;unfold api_Errno.l0;exact m91_0
theorem api_Errno.mono:∀ a0 k,LeO (api_Errno.f k a0) (api_Errno.f (k+1) a0):=by
 intro a0 k;have ih0:=api_Errno.mono_l k;unfold api_Errno.f;exact m91_0
set_option maxHeartbeats 8000000 in
set_option maxRecDepth 100000 in
theorem api_Errno.calls(k:Nat)(A0:Option Addr)(c0:Nat)(l0:List Int)(r:Int)(w:World)(hr0:Kd.C (Kd.int .i64) w A0 l0.length l0)(hc0:l0.length≤c0)(h:api_Errno.f k l0=some r) :
  Calls Tryd.prog 91 #[.slice A0 l0.length c0] w fun e w'=>e=.returned (.int .i64 r)∧Drawn0 w w':=by
 have HR0:=Aside0.mk hr0;have HC0:=Aside0.mk hc0;clear hr0 hc0;have H:(api_Errno.l0 k 0 l0 (l0.length:Int) 0)=some r:=h;clear h;have H':=Aside0.mk H;clear H;go_enter Tryd.func91,Tryd.ntmps91;go_wp2
 go_loopg [8] k (fun kq v8 w'=>∃ (x8_1:Int),v8=.int .i64 x8_1∧Aside0 (api_Errno.l0 kq 0 l0 (l0.length:Int) x8_1=some r)∧Aside0 (kq≤k)∧Drawn0 w w')
 case atStart=>exact⟨(0),fr_,H',⟨Nat.le_refl _⟩,b91_1⟩
 case round =>
  clear H';obtain⟨x8_1,rfl,HA,HK1,⟨m1,rfl⟩⟩:=hrel
  cases gk with
  |zero=>exact absurd HA.out (by simp [api_Errno.l0])
  |succ k1 =>
   have H:=HA.out;clear HA;simp only [api_Errno.l0] at H
   by_cases c2:x8_1<(l0.length:Int)
   ·rw [if_pos c2] at H;have c2b0:decide (x8_1<(l0.length:Int))=true:=decide_eq_true c2;clear c2
    by_cases c3:0≤x8_1
    ·rw [if_pos c3] at H;have c3b0:decide (0≤x8_1)=true:=decide_eq_true c3;clear c3
     by_cases c4:x8_1<(l0.length:Int)
     ·rw [if_pos c4] at H;have c4b0:decide (x8_1<(l0.length:Int))=true:=decide_eq_true c4;clear c4
      by_cases c5:(rd l0 x8_1)=0
      ·rw [if_pos c5] at H;obtain⟨c5b0,c5b1⟩:=eqT_ c5;clear c5;have H':=Aside0.mk H;clear H;have p92001:0≤(x8_1:Int):=of_decide_eq_true as_;have q92001:x8_1<(l0.length:Int):=of_decide_eq_true as_;obtain⟨ad92001,e92001,hx92001_0⟩:=Kd.at_int HR0.out x8_1 p92001 q92001;cases e92001;replace p92001:=eq_true p92001;replace q92001:=eq_true q92001;go_wp2
       go_roundg k1
       case measure=>have:=HK1.out;omega
       case rel=>exact⟨(wrap64 (x8_1+1)),fr_,H',⟨(by have:=HK1.out;omega)⟩,b91_1⟩
      ·rw [if_neg c5] at H;obtain⟨c5b0,c5b1⟩:=eqF_ c5;obtain rfl:=Option.some.inj H;have p92001:0≤(x8_1:Int):=of_decide_eq_true as_;have q92001:x8_1<(l0.length:Int):=of_decide_eq_true as_;obtain⟨ad92001,e92001,hx92001_0⟩:=Kd.at_int HR0.out x8_1 p92001 q92001;cases e92001;replace p92001:=eq_true p92001;replace q92001:=eq_true q92001;go_wp2;go_ret;exact⟨fr_,b91_1⟩
     ·rw [if_neg c4] at H;exact absurd H (by simp)
    ·rw [if_neg c3] at H;exact absurd H (by simp)
   ·rw [if_neg c2] at H;have c2b0:decide (x8_1<(l0.length:Int))=false:=decide_eq_false c2;clear c2;obtain rfl:=Option.some.inj H;go_wp2;go_ret;exact⟨fr_,b91_1⟩
end Go.Proofs.YthfhbdncphkdaaaDoor.H

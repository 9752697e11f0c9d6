/- Printed (xprint.py): Go functions as Lean functions, each with the proof that its call does what the Lean function says. -/
import Derived.Test.YthfhbdncphkdaaaDoorH0
import Derived.Test.YthfhbdncphkdaaaDoorHf19
namespace Go.Proofs.YthfhbdncphkdaaaDoor.H
open Go.RowKit Go.Proofs.YthfhbdncphkdaaaDoorW.PrintWords Go.Proofs.YthfhbdncphkdaaaDoorW.PrintLast Go.Proofs.YthfhbdncphkdaaaDoorW.PrintMore
attribute [local go_sem] max2_int min2_int max_two min_two max_three min_three max_four min_four   -- for this text's walks alone
set_option linter.unusedVariables false
set_option linter.unusedSimpArgs false
-- BUNDLE a
/-! ### lex_isLetter: function 45 -/
def lex_isLetter.f(a0:Int):Option (Bool):=if a0≥97 then(if a0≤122 then(some true) else(if a0≥65 then(some (decide (a0≤90))) else(some false))) else(if a0≥65 then(some (decide (a0≤90))) else(some false))
theorem b45_1{p:Prop}(h:p:=by repeat(first|exact Drawn0.refl _|apply Drawn0.step)):p:=h
set_option maxHeartbeats 8000000 in
set_option maxRecDepth 100000 in
theorem lex_isLetter.calls(a0:Int)(r:Bool)(w:World)(h:lex_isLetter.f a0=some r) :
  Calls Tryd.prog 45 #[.int .u8 a0] w fun e w'=>e=.returned (.bool r)∧Drawn0 w w':=by
 have H:(if a0≥97 then(if a0≤122 then(some true) else(if a0≥65 then(some (decide (a0≤90))) else(some false))) else(if a0≥65 then(some (decide (a0≤90))) else(some false)))=some r:=h;clear h
 by_cases c2:a0≥97
 ·rw [if_pos c2] at H;have c2b0:decide (97≤a0)=true:=decide_eq_true c2;clear c2
  by_cases c3:a0≤122
  ·rw [if_pos c3] at H;have c3b0:decide (a0≤122)=true:=decide_eq_true c3;clear c3;obtain rfl:=Option.some.inj H;go_enter Tryd.func45,Tryd.ntmps45;go_wp2;go_ret;exact⟨fr_,b45_1⟩
  ·rw [if_neg c3] at H;have c3b0:decide (a0≤122)=false:=decide_eq_false c3;clear c3
   by_cases c4:a0≥65
   ·rw [if_pos c4] at H;have c4b0:decide (65≤a0)=true:=decide_eq_true c4;clear c4;obtain rfl:=Option.some.inj H;go_enter Tryd.func45,Tryd.ntmps45;go_wp2;go_ret;exact⟨fr_,b45_1⟩
   ·rw [if_neg c4] at H;have c4b0:decide (65≤a0)=false:=decide_eq_false c4;clear c4;obtain rfl:=Option.some.inj H;go_enter Tryd.func45,Tryd.ntmps45;go_wp2;go_ret;exact⟨fr_,b45_1⟩
 ·rw [if_neg c2] at H;have c2b0:decide (97≤a0)=false:=decide_eq_false c2;clear c2
  by_cases c5:a0≥65
  ·rw [if_pos c5] at H;have c5b0:decide (65≤a0)=true:=decide_eq_true c5;clear c5;obtain rfl:=Option.some.inj H;go_enter Tryd.func45,Tryd.ntmps45;go_wp2;go_ret;exact⟨fr_,b45_1⟩
  ·rw [if_neg c5] at H;have c5b0:decide (65≤a0)=false:=decide_eq_false c5;clear c5;obtain rfl:=Option.some.inj H;go_enter Tryd.func45,Tryd.ntmps45;go_wp2;go_ret;exact⟨fr_,b45_1⟩
/-! ### lex_isDigit: function 72 -/
def lex_isDigit.f(a0:Int):Option (Bool):=if a0≥48 then(some (decide (a0≤57))) else(some false)
set_option maxHeartbeats 8000000 in
set_option maxRecDepth 100000 in
theorem lex_isDigit.calls(a0:Int)(r:Bool)(w:World)(h:lex_isDigit.f a0=some r) :
  Calls Tryd.prog 72 #[.int .u8 a0] w fun e w'=>e=.returned (.bool r)∧Drawn0 w w':=by
 have H:(if a0≥48 then(some (decide (a0≤57))) else(some false))=some r:=h;clear h
 by_cases c2:a0≥48
 ·rw [if_pos c2] at H;have c2b0:decide (48≤a0)=true:=decide_eq_true c2;clear c2;obtain rfl:=Option.some.inj H;go_enter Tryd.func72,Tryd.ntmps72;go_wp2;go_ret;exact⟨fr_,(by repeat(first|exact Drawn0.refl _|apply Drawn0.step))⟩
 ·rw [if_neg c2] at H;have c2b0:decide (48≤a0)=false:=decide_eq_false c2;clear c2;obtain rfl:=Option.some.inj H;go_enter Tryd.func72,Tryd.ntmps72;go_wp2;go_ret;exact⟨fr_,(by repeat(first|exact Drawn0.refl _|apply Drawn0.step))⟩
/-! ### lex_wordEnd: function 46 -/
def lex_wordEnd.l0:Nat→ByteArray→Int→Option (Int)
 |0,_,_=>none
 |k+1,x0,x1=>if x1<(x0.size:Int) then(if 0≤x1 then((lex_isLetter.f (bt x0 x1)).bind fun t47001=>(if t47001=true then(lex_wordEnd.l0 k x0 (wrap64 (x1+1))) else((lex_isDigit.f (bt x0 x1)).bind fun t47002=>(if t47002=true then(lex_wordEnd.l0 k x0 (wrap64 (x1+1))) else(if (bt x0 x1)=95 then(lex_wordEnd.l0 k x0 (wrap64 (x1+1))) else(some x1)))))) else(none)) else(some x1)
def lex_wordEnd.f(k:Nat)(a0:ByteArray)(a1:Int):Option (Int):=lex_wordEnd.l0 k a0 a1
theorem b46_1{p:Prop}(h:p:=by repeat(first|exact Drawn0.refl _|apply Drawn0.step)):p:=h
theorem m46_0{p:Prop}(h:p:=by repeat' first|(with_reducible exact ih0 _ _)|(with_reducible exact LeO.refl _)|(with_reducible exact LeO.none _)|(with_reducible refine LeO.ite ?_ ?_)|(with_reducible refine LeO.bind ?_ (fun _=>?_))|exact ih0 _ _|exact LeO.none _|refine LeO.ite ?_ ?_|refine LeO.bind ?_ (fun _=>?_)):p:=h
theorem lex_wordEnd.mono_l:∀ k,(∀ y0 y1,LeO (lex_wordEnd.l0 k y0 y1) (lex_wordEnd.l0 (k+1) y0 y1))
 |0=>fun _ _ r h=>by simp [lex_wordEnd.l0] at h
 |k+1=>by
  have ih0:=lex_wordEnd.mono_l k
  ·intro y0 y1;unfold lex_wordEnd.l0;exact m46_0
theorem lex_wordEnd.mono:∀ a0 a1 k,LeO (lex_wordEnd.f k a0 a1) (lex_wordEnd.f (k+1) a0 a1):=by
 intro a0 a1 k;have ih0:=lex_wordEnd.mono_l k;unfold lex_wordEnd.f;exact m46_0
set_option maxHeartbeats 8000000 in
set_option maxRecDepth 100000 in
theorem lex_wordEnd.calls(k:Nat)(a0:ByteArray)(a1:Int)(r:Int)(w:World)(h:lex_wordEnd.f k a0 a1=some r) :
  Calls Tryd.prog 46 #[.string a0,.int .i64 a1] w fun e w'=>e=.returned (.int .i64 r)∧Drawn0 w w':=by
 have H:(lex_wordEnd.l0 k a0 a1)=some r:=h;clear h;have H':=Aside0.mk H;clear H;go_enter Tryd.func46,Tryd.ntmps46;go_wp2
 go_loopg [1] k (fun kq v1 w'=>∃ (x1_1:Int),v1=.int .i64 x1_1∧Aside0 (lex_wordEnd.l0 kq a0 x1_1=some r)∧Aside0 (kq≤k)∧Drawn0 w w')
 case atStart=>exact⟨(a1),fr_,H',⟨Nat.le_refl _⟩,b46_1⟩
 case round =>
  clear H';(try clear p2);obtain⟨x1_1,rfl,HA,HK1,⟨m1,rfl⟩⟩:=hrel
  cases gk with
  |zero=>exact absurd HA.out (by simp [lex_wordEnd.l0])
  |succ k1 =>
   have H:=HA.out;clear HA;simp only [lex_wordEnd.l0] at H
   by_cases c3:x1_1<(a0.size:Int)
   ·rw [if_pos c3] at H;have c3b0:decide (x1_1<(a0.size:Int))=true:=decide_eq_true c3;clear c3
    by_cases c4:0≤x1_1
    ·rw [if_pos c4] at H;have c4b0:decide (0≤x1_1)=true:=decide_eq_true c4;clear c4;replace H:=Option.bind_eq_some_iff.mp H;obtain⟨t47001,A60,H⟩:=H;have A6:=Aside0.mk A60;clear A60
     by_cases c7:t47001=true
     ·subst c7;rw [if_pos rfl] at H;have H':=Aside0.mk H;clear H;have p5:0≤(x1_1:Int):=of_decide_eq_true as_;have q5:x1_1<(a0.size:Int):=of_decide_eq_true as_;have hx5:=bt_at a0 x1_1;replace p5:=eq_true p5;replace q5:=eq_true q5
      go_wp2_with (first|(go_at_call 45;(with_reducible refine(lex_isLetter.calls (bt a0 x1_1) true _ A6.out).mono ?_);rintro e w' ⟨rfl,⟨nd,rfl⟩⟩))
      go_roundg k1
      case measure=>have:=HK1.out;omega
      case rel=>exact⟨(wrap64 (x1_1+1)),fr_,H',⟨(by have:=HK1.out;omega)⟩,b46_1⟩
     ·replace c7:=Bool.eq_false_iff.mpr c7;subst c7;rw [if_neg nf_] at H;replace H:=Option.bind_eq_some_iff.mp H;obtain⟨t47002,A90,H⟩:=H;have A9:=Aside0.mk A90;clear A90
      by_cases c10:t47002=true
      ·subst c10;rw [if_pos rfl] at H;have H':=Aside0.mk H;clear H;have p5:0≤(x1_1:Int):=of_decide_eq_true as_;have q5:x1_1<(a0.size:Int):=of_decide_eq_true as_;have hx5:=bt_at a0 x1_1;replace p5:=eq_true p5;replace q5:=eq_true q5
       go_wp2_with (first|(go_at_call 45;(with_reducible refine(lex_isLetter.calls (bt a0 x1_1) false _ A6.out).mono ?_);rintro e w' ⟨rfl,⟨nd,rfl⟩⟩;have p8:0≤(x1_1:Int):=of_decide_eq_true as_;have q8:x1_1<(a0.size:Int):=of_decide_eq_true as_;have hx8:=bt_at a0 x1_1;replace p8:=eq_true p8;replace q8:=eq_true q8)|(go_at_call 72;(with_reducible refine(lex_isDigit.calls (bt a0 x1_1) true _ A9.out).mono ?_);rintro e w' ⟨rfl,⟨nd,rfl⟩⟩))
       go_roundg k1
       case measure=>have:=HK1.out;omega
       case rel=>exact⟨(wrap64 (x1_1+1)),fr_,H',⟨(by have:=HK1.out;omega)⟩,b46_1⟩
      ·replace c10:=Bool.eq_false_iff.mpr c10;subst c10;rw [if_neg nf_] at H
       by_cases c12:(bt a0 x1_1)=95
       ·rw [if_pos c12] at H;obtain⟨c12b0,c12b1⟩:=eqT_ c12;clear c12;have H':=Aside0.mk H;clear H;have p5:0≤(x1_1:Int):=of_decide_eq_true as_;have q5:x1_1<(a0.size:Int):=of_decide_eq_true as_;have hx5:=bt_at a0 x1_1;replace p5:=eq_true p5;replace q5:=eq_true q5
        go_wp2_with (first|(go_at_call 45;(with_reducible refine(lex_isLetter.calls (bt a0 x1_1) false _ A6.out).mono ?_);rintro e w' ⟨rfl,⟨nd,rfl⟩⟩;have p8:0≤(x1_1:Int):=of_decide_eq_true as_;have q8:x1_1<(a0.size:Int):=of_decide_eq_true as_;have hx8:=bt_at a0 x1_1;replace p8:=eq_true p8;replace q8:=eq_true q8)|(go_at_call 72;(with_reducible refine(lex_isDigit.calls (bt a0 x1_1) false _ A9.out).mono ?_);rintro e w' ⟨rfl,⟨nd,rfl⟩⟩;have p11:0≤(x1_1:Int):=of_decide_eq_true as_;have q11:x1_1<(a0.size:Int):=of_decide_eq_true as_;have hx11:=bt_at a0 x1_1;replace p11:=eq_true p11;replace q11:=eq_true q11))
        go_roundg k1
        case measure=>have:=HK1.out;omega
        case rel=>exact⟨(wrap64 (x1_1+1)),fr_,H',⟨(by have:=HK1.out;omega)⟩,b46_1⟩
       ·rw [if_neg c12] at H;obtain⟨c12b0,c12b1⟩:=eqF_ c12;obtain rfl:=Option.some.inj H;have p5:0≤(x1_1:Int):=of_decide_eq_true as_;have q5:x1_1<(a0.size:Int):=of_decide_eq_true as_;have hx5:=bt_at a0 x1_1;replace p5:=eq_true p5;replace q5:=eq_true q5
        go_wp2_with (first|(go_at_call 45;(with_reducible refine(lex_isLetter.calls (bt a0 x1_1) false _ A6.out).mono ?_);rintro e w' ⟨rfl,⟨nd,rfl⟩⟩;have p8:0≤(x1_1:Int):=of_decide_eq_true as_;have q8:x1_1<(a0.size:Int):=of_decide_eq_true as_;have hx8:=bt_at a0 x1_1;replace p8:=eq_true p8;replace q8:=eq_true q8)|(go_at_call 72;(with_reducible refine(lex_isDigit.calls (bt a0 x1_1) false _ A9.out).mono ?_);rintro e w' ⟨rfl,⟨nd,rfl⟩⟩;have p11:0≤(x1_1:Int):=of_decide_eq_true as_;have q11:x1_1<(a0.size:Int):=of_decide_eq_true as_;have hx11:=bt_at a0 x1_1;replace p11:=eq_true p11;replace q11:=eq_true q11))
        go_ret;exact⟨fr_,b46_1⟩
    ·rw [if_neg c4] at H;exact absurd H (by simp)
   ·rw [if_neg c3] at H;have c3b0:decide (x1_1<(a0.size:Int))=false:=decide_eq_false c3;clear c3;obtain rfl:=Option.some.inj H;go_wp2;go_ret;exact⟨fr_,b46_1⟩
/-! ### lex_Ident: function 17 -/
def lex_Ident.f(k:Nat)(a0:ByteArray):Option (Bool):=if a0.toList=([]:List UInt8) then(some false) else(if (a0.size:Int)≤32 then(if 0<(a0.size:Int) then((lex_isLetter.f (bt a0 0)).bind fun t18001=>(if t18001=true then((lex_wordEnd.f k a0 0).bind fun t18002=>(if t18002=(a0.size:Int) then((lex_Keyword.f a0).bind fun t18003=>(some (!t18003))) else(some false))) else(some false))) else(none)) else(some false))
theorem b17_1{p:Prop}(h:p:=by repeat(first|exact Drawn0.refl _|apply Drawn0.step)):p:=h
theorem lex_Ident.mono:∀ a0 k,LeO (lex_Ident.f k a0) (lex_Ident.f (k+1) a0):=by
 intro a0 k;unfold lex_Ident.f
 repeat' first
   |(with_reducible exact lex_wordEnd.mono _ _ _)
   |(with_reducible exact LeO.refl _)
   |(with_reducible exact LeO.none _)
   |(with_reducible refine LeO.ite ?_ ?_)
   |(with_reducible refine LeO.bind ?_ (fun _=>?_))
   |exact lex_wordEnd.mono _ _ _
   |exact LeO.none _
   |refine LeO.ite ?_ ?_
   |refine LeO.bind ?_ (fun _=>?_)
set_option maxHeartbeats 8000000 in
set_option maxRecDepth 100000 in
theorem lex_Ident.calls(k:Nat)(a0:ByteArray)(r:Bool)(w:World)(hgh:Gh w)(h:lex_Ident.f k a0=some r) :
  Calls Tryd.prog 17 #[.string a0] w fun e w'=>e=.returned (.bool r)∧Drawn0 w w':=by
 have HGH:=Aside0.mk hgh;clear hgh;have H:(if a0.toList=([]:List UInt8) then(some false) else(if (a0.size:Int)≤32 then(if 0<(a0.size:Int) then((lex_isLetter.f (bt a0 0)).bind fun t18001=>(if t18001=true then((lex_wordEnd.f k a0 0).bind fun t18002=>(if t18002=(a0.size:Int) then((lex_Keyword.f a0).bind fun t18003=>(some (!t18003))) else(some false))) else(some false))) else(none)) else(some false)))=some r:=h;clear h
 by_cases c2:a0.toList=([]:List UInt8)
 ·rw [if_pos c2] at H;obtain⟨c2b0,c2b1⟩:=eqT_ c2;clear c2;obtain rfl:=Option.some.inj H;go_enter Tryd.func17,Tryd.ntmps17;go_wp2;go_ret;exact⟨fr_,b17_1⟩
 ·rw [if_neg c2] at H;obtain⟨c2b0,c2b1⟩:=eqF_ c2
  by_cases c3:(a0.size:Int)≤32
  ·rw [if_pos c3] at H;have c3b0:decide ((a0.size:Int)≤32)=true:=decide_eq_true c3;have c3b1:decide (a0.size≤32)=true:=decide_eq_true (by omega);clear c3
   by_cases c4:0<(a0.size:Int)
   ·rw [if_pos c4] at H;have c4b0:decide (0<(a0.size:Int))=true:=decide_eq_true c4;have c4b1:decide (0<a0.size)=true:=decide_eq_true (by omega);clear c4;replace H:=Option.bind_eq_some_iff.mp H;obtain⟨t18001,A60,H⟩:=H;have A6:=Aside0.mk A60;clear A60
    by_cases c7:t18001=true
    ·subst c7;rw [if_pos rfl] at H;replace H:=Option.bind_eq_some_iff.mp H;obtain⟨t18002,A80,H⟩:=H;have A8:=Aside0.mk A80;clear A80
     by_cases c9:t18002=(a0.size:Int)
     ·rw [if_pos c9] at H;obtain⟨c9b0,c9b1⟩:=eqT_ c9;clear c9;replace H:=Option.bind_eq_some_iff.mp H;obtain⟨t18003,A100,H⟩:=H;have A10:=Aside0.mk A100;clear A100;obtain rfl:=Option.some.inj H;have p5:0≤(0:Int):=(by omega);have q5:0<a0.size:=(by have:(0:Int)<(a0.size:Int):=of_decide_eq_true as_;omega);have hx5:∀ h:0<a0.size,((a0[0]'h).toNat:Int)=bt a0 0:=bt_at a0 0;clear p5;have qi5:(0<(a0.size:Int))=True:=eq_true (of_decide_eq_true as_);replace q5:=eq_true q5;go_enter Tryd.func17,Tryd.ntmps17
      go_wp2_with (first|(go_at_call 45;(with_reducible refine(lex_isLetter.calls (bt a0 0) true _ A6.out).mono ?_);rintro e w' ⟨rfl,⟨nd,rfl⟩⟩)|(go_at_call 46;(with_reducible refine(lex_wordEnd.calls k a0 0 t18002 _ A8.out).mono ?_);rintro e w' ⟨rfl,⟨nd,rfl⟩⟩)|(go_at_call 19;(with_reducible refine(lex_Keyword.calls a0 t18003 _ ?side1 A10.out).mono ?_);(case side1=>exact(by repeat(first|exact HGH.out|(with_reducible refine Gh.drewN ?_ _)|(with_reducible refine Gh.drew ?_)|(with_reducible refine Gh.alloc ?_ _))));rintro e w' ⟨rfl,⟨nd,rfl⟩⟩))
      go_ret;exact⟨fr_,b17_1⟩
     ·rw [if_neg c9] at H;obtain⟨c9b0,c9b1⟩:=eqF_ c9;obtain rfl:=Option.some.inj H;have p5:0≤(0:Int):=(by omega);have q5:0<a0.size:=(by have:(0:Int)<(a0.size:Int):=of_decide_eq_true as_;omega);have hx5:∀ h:0<a0.size,((a0[0]'h).toNat:Int)=bt a0 0:=bt_at a0 0;clear p5;have qi5:(0<(a0.size:Int))=True:=eq_true (of_decide_eq_true as_);replace q5:=eq_true q5;go_enter Tryd.func17,Tryd.ntmps17
      go_wp2_with (first|(go_at_call 45;(with_reducible refine(lex_isLetter.calls (bt a0 0) true _ A6.out).mono ?_);rintro e w' ⟨rfl,⟨nd,rfl⟩⟩)|(go_at_call 46;(with_reducible refine(lex_wordEnd.calls k a0 0 t18002 _ A8.out).mono ?_);rintro e w' ⟨rfl,⟨nd,rfl⟩⟩))
      go_ret;exact⟨fr_,b17_1⟩
    ·replace c7:=Bool.eq_false_iff.mpr c7;subst c7;rw [if_neg nf_] at H;obtain rfl:=Option.some.inj H;have p5:0≤(0:Int):=(by omega);have q5:0<a0.size:=(by have:(0:Int)<(a0.size:Int):=of_decide_eq_true as_;omega);have hx5:∀ h:0<a0.size,((a0[0]'h).toNat:Int)=bt a0 0:=bt_at a0 0;clear p5;have qi5:(0<(a0.size:Int))=True:=eq_true (of_decide_eq_true as_);replace q5:=eq_true q5;go_enter Tryd.func17,Tryd.ntmps17
     go_wp2_with (first|(go_at_call 45;(with_reducible refine(lex_isLetter.calls (bt a0 0) false _ A6.out).mono ?_);rintro e w' ⟨rfl,⟨nd,rfl⟩⟩))
     go_ret;exact⟨fr_,b17_1⟩
   ·rw [if_neg c4] at H;exact absurd H (by simp)
  ·rw [if_neg c3] at H;have c3b0:decide ((a0.size:Int)≤32)=false:=decide_eq_false c3;have c3b1:decide (a0.size≤32)=false:=decide_eq_false (by omega);clear c3;obtain rfl:=Option.some.inj H;go_enter Tryd.func17,Tryd.ntmps17;go_wp2;go_ret;exact⟨fr_,b17_1⟩
/-! ### dataflowref07_Keyword: function 20 -/
def dataflowref07_Keyword.l0:Nat→ByteArray→List ByteArray→Int→Option (Bool)
 |0,_,_,_=>none
 |k+1,x0,x3,x4=>if x4<(x3.length:Int) then(if 0≤x4 then(if (rdOf ByteArray.empty x3 x4).toList=x0.toList then(some true) else(dataflowref07_Keyword.l0 k x0 x3 (wrap64 (x4+1)))) else(none)) else(some false)
def dataflowref07_Keyword.f(k:Nat)(a0:ByteArray):Option (Bool):=dataflowref07_Keyword.l0 k a0 (([(⟨#[99,108,97,115,115]⟩:ByteArray),(⟨#[101,120,116,101,110,100,115]⟩:ByteArray),(⟨#[118,97,114]⟩:ByteArray),(⟨#[100,101,102]⟩:ByteArray),(⟨#[115,116,97,116,105,99]⟩:ByteArray),(⟨#[105,102]⟩:ByteArray),(⟨#[101,108,115,101]⟩:ByteArray),(⟨#[119,104,105,108,101]⟩:ByteArray),(⟨#[116,114,121]⟩:ByteArray),(⟨#[99,97,116,99,104]⟩:ByteArray),(⟨#[116,104,114,111,119]⟩:ByteArray),(⟨#[114,101,116,117,114,110]⟩:ByteArray),(⟨#[110,101,119]⟩:ByteArray),(⟨#[110,117,108,108]⟩:ByteArray),(⟨#[116,104,105,115]⟩:ByteArray),(⟨#[105,110,112,117,116]⟩:ByteArray),(⟨#[105,110,116]⟩:ByteArray)]:List ByteArray)) 0
theorem m20_0{p:Prop}(h:p:=by repeat' first|(with_reducible exact ih0 _ _ _)|(with_reducible exact LeO.refl _)|(with_reducible exact LeO.none _)|(with_reducible refine LeO.ite ?_ ?_)|(with_reducible refine LeO.bind ?_ (fun _=>?_))|exact ih0 _ _ _|exact LeO.none _|refine LeO.ite ?_ ?_|refine LeO.bind ?_ (fun _=>?_)):p:=h
theorem dataflowref07_Keyword.mono_l:∀ k,(∀ y0 y1 y2,LeO (dataflowref07_Keyword.l0 k y0 y1 y2) (dataflowref07_Keyword.l0 (k+1) y0 y1 y2))
 |0=>fun _ _ _ r h=>by simp [dataflowref07_Keyword.l0] at h
 |k+1=>by
  have ih0:=dataflowref07_Keyword.mono_l k
  ·intro y0 y1 y2;unfold dataflowref07_Keyword.l0;exact m20_0
theorem dataflowref07_Keyword.mono:∀ a0 k,LeO (dataflowref07_Keyword.f k a0) (dataflowref07_Keyword.f (k+1) a0):=by
 intro a0 k;have ih0:=dataflowref07_Keyword.mono_l k;unfold dataflowref07_Keyword.f;exact m20_0
set_option maxHeartbeats 8000000 in
set_option maxRecDepth 100000 in
theorem dataflowref07_Keyword.calls(k:Nat)(a0:ByteArray)(r:Bool)(w:World)(h:dataflowref07_Keyword.f k a0=some r) :
  Calls Tryd.prog 20 #[.string a0] w fun e w'=>e=.returned (.bool r)∧Below w.heap.size w w':=by
 have HB:=Aside0.mk (Below.refl w.heap.size w);have H:(dataflowref07_Keyword.l0 k a0 (([(⟨#[99,108,97,115,115]⟩:ByteArray),(⟨#[101,120,116,101,110,100,115]⟩:ByteArray),(⟨#[118,97,114]⟩:ByteArray),(⟨#[100,101,102]⟩:ByteArray),(⟨#[115,116,97,116,105,99]⟩:ByteArray),(⟨#[105,102]⟩:ByteArray),(⟨#[101,108,115,101]⟩:ByteArray),(⟨#[119,104,105,108,101]⟩:ByteArray),(⟨#[116,114,121]⟩:ByteArray),(⟨#[99,97,116,99,104]⟩:ByteArray),(⟨#[116,104,114,111,119]⟩:ByteArray),(⟨#[114,101,116,117,114,110]⟩:ByteArray),(⟨#[110,101,119]⟩:ByteArray),(⟨#[110,117,108,108]⟩:ByteArray),(⟨#[116,104,105,115]⟩:ByteArray),(⟨#[105,110,112,117,116]⟩:ByteArray),(⟨#[105,110,116]⟩:ByteArray)]:List ByteArray)) 0)=some r:=h;clear h;obtain⟨y21001,hy21001⟩:∃ y_:List ByteArray,y_=(([(⟨#[99,108,97,115,115]⟩:ByteArray),(⟨#[101,120,116,101,110,100,115]⟩:ByteArray),(⟨#[118,97,114]⟩:ByteArray),(⟨#[100,101,102]⟩:ByteArray),(⟨#[115,116,97,116,105,99]⟩:ByteArray),(⟨#[105,102]⟩:ByteArray),(⟨#[101,108,115,101]⟩:ByteArray),(⟨#[119,104,105,108,101]⟩:ByteArray),(⟨#[116,114,121]⟩:ByteArray),(⟨#[99,97,116,99,104]⟩:ByteArray),(⟨#[116,104,114,111,119]⟩:ByteArray),(⟨#[114,101,116,117,114,110]⟩:ByteArray),(⟨#[110,101,119]⟩:ByteArray),(⟨#[110,117,108,108]⟩:ByteArray),(⟨#[116,104,105,115]⟩:ByteArray),(⟨#[105,110,112,117,116]⟩:ByteArray),(⟨#[105,110,116]⟩:ByteArray)]:List ByteArray)):=⟨_,rfl⟩
 replace H:(dataflowref07_Keyword.l0 k a0 y21001 0)=some r:=by first|(rw [hy21001];with_reducible exact H)|(have H2_:=(Option.bind_some _ _).symm.trans H;rw [hy21001];with_reducible exact H2_)|(have H2_:=(Option.bind_some _ _).symm.trans H;with_reducible exact H2_)|with_reducible exact H|(rw [hy21001];exact H)|exact H
 have Ny21001:=Aside0.mk hy21001;clear hy21001;have H':=Aside0.mk H;clear H;go_enter Tryd.func20,Tryd.ntmps20
 go_wp2_with (first|((with_reducible refine gate_dst (N:=5) rfl ?_);refine Kd.R_lit Kd.string _ 9 ?hg (N:=5) ?hd (xs:=([(⟨#[99,108,97,115,115]⟩:ByteArray),(⟨#[101,120,116,101,110,100,115]⟩:ByteArray),(⟨#[118,97,114]⟩:ByteArray),(⟨#[100,101,102]⟩:ByteArray),(⟨#[115,116,97,116,105,99]⟩:ByteArray),(⟨#[105,102]⟩:ByteArray),(⟨#[101,108,115,101]⟩:ByteArray),(⟨#[119,104,105,108,101]⟩:ByteArray),(⟨#[116,114,121]⟩:ByteArray),(⟨#[99,97,116,99,104]⟩:ByteArray),(⟨#[116,104,114,111,119]⟩:ByteArray),(⟨#[114,101,116,117,114,110]⟩:ByteArray),(⟨#[110,101,119]⟩:ByteArray),(⟨#[110,117,108,108]⟩:ByteArray),(⟨#[116,104,105,115]⟩:ByteArray),(⟨#[105,110,112,117,116]⟩:ByteArray),(⟨#[105,110,116]⟩:ByteArray)]:List ByteArray)) (inner:=[.string (⟨#[99,108,97,115,115]⟩:ByteArray),.string (⟨#[101,120,116,101,110,100,115]⟩:ByteArray),.string (⟨#[118,97,114]⟩:ByteArray),.string (⟨#[100,101,102]⟩:ByteArray),.string (⟨#[115,116,97,116,105,99]⟩:ByteArray),.string (⟨#[105,102]⟩:ByteArray),.string (⟨#[101,108,115,101]⟩:ByteArray),.string (⟨#[119,104,105,108,101]⟩:ByteArray),.string (⟨#[116,114,121]⟩:ByteArray),.string (⟨#[99,97,116,99,104]⟩:ByteArray),.string (⟨#[116,104,114,111,119]⟩:ByteArray),.string (⟨#[114,101,116,117,114,110]⟩:ByteArray),.string (⟨#[110,101,119]⟩:ByteArray),.string (⟨#[110,117,108,108]⟩:ByteArray),.string (⟨#[116,104,105,115]⟩:ByteArray),.string (⟨#[105,110,112,117,116]⟩:ByteArray),.string (⟨#[105,110,116]⟩:ByteArray)]) (ok:=fun _=>True) (okp:=fun _=>True) ?hr ?hp (fun _ hk=>hk) trivial (Below.refl _ _) (Nat.le_refl _) (by simp) ?_;(case hd=>rfl);(case hg=>rfl);(case hr=>first|(go_simp;done)|(go_simp;rfl));(case hp=>exact(Reps.one (show Kd.M Kd.string _ _ _ (⟨#[99,108,97,115,115]⟩:ByteArray) [.string (⟨#[99,108,97,115,115]⟩:ByteArray)] from rfl) (Reps.one (show Kd.M Kd.string _ _ _ (⟨#[101,120,116,101,110,100,115]⟩:ByteArray) [.string (⟨#[101,120,116,101,110,100,115]⟩:ByteArray)] from rfl) (Reps.one (show Kd.M Kd.string _ _ _ (⟨#[118,97,114]⟩:ByteArray) [.string (⟨#[118,97,114]⟩:ByteArray)] from rfl) (Reps.one (show Kd.M Kd.string _ _ _ (⟨#[100,101,102]⟩:ByteArray) [.string (⟨#[100,101,102]⟩:ByteArray)] from rfl) (Reps.one (show Kd.M Kd.string _ _ _ (⟨#[115,116,97,116,105,99]⟩:ByteArray) [.string (⟨#[115,116,97,116,105,99]⟩:ByteArray)] from rfl) (Reps.one (show Kd.M Kd.string _ _ _ (⟨#[105,102]⟩:ByteArray) [.string (⟨#[105,102]⟩:ByteArray)] from rfl) (Reps.one (show Kd.M Kd.string _ _ _ (⟨#[101,108,115,101]⟩:ByteArray) [.string (⟨#[101,108,115,101]⟩:ByteArray)] from rfl) (Reps.one (show Kd.M Kd.string _ _ _ (⟨#[119,104,105,108,101]⟩:ByteArray) [.string (⟨#[119,104,105,108,101]⟩:ByteArray)] from rfl) (Reps.one (show Kd.M Kd.string _ _ _ (⟨#[116,114,121]⟩:ByteArray) [.string (⟨#[116,114,121]⟩:ByteArray)] from rfl) (Reps.one (show Kd.M Kd.string _ _ _ (⟨#[99,97,116,99,104]⟩:ByteArray) [.string (⟨#[99,97,116,99,104]⟩:ByteArray)] from rfl) (Reps.one (show Kd.M Kd.string _ _ _ (⟨#[116,104,114,111,119]⟩:ByteArray) [.string (⟨#[116,104,114,111,119]⟩:ByteArray)] from rfl) (Reps.one (show Kd.M Kd.string _ _ _ (⟨#[114,101,116,117,114,110]⟩:ByteArray) [.string (⟨#[114,101,116,117,114,110]⟩:ByteArray)] from rfl) (Reps.one (show Kd.M Kd.string _ _ _ (⟨#[110,101,119]⟩:ByteArray) [.string (⟨#[110,101,119]⟩:ByteArray)] from rfl) (Reps.one (show Kd.M Kd.string _ _ _ (⟨#[110,117,108,108]⟩:ByteArray) [.string (⟨#[110,117,108,108]⟩:ByteArray)] from rfl) (Reps.one (show Kd.M Kd.string _ _ _ (⟨#[116,104,105,115]⟩:ByteArray) [.string (⟨#[116,104,105,115]⟩:ByteArray)] from rfl) (Reps.one (show Kd.M Kd.string _ _ _ (⟨#[105,110,112,117,116]⟩:ByteArray) [.string (⟨#[105,110,112,117,116]⟩:ByteArray)] from rfl) (Reps.one (show Kd.M Kd.string _ _ _ (⟨#[105,110,116]⟩:ByteArray) [.string (⟨#[105,110,116]⟩:ByteArray)] from rfl) (Reps.none _ _)))))))))))))))))));intro v21002 w2 ho3 hb hg_ hnew_;clear hg_ hnew_;(first|rw [← Ny21001.out] at ho3|(simp only [Int.reduceToNat] at ho3;rw [← Ny21001.out] at ho3));have n_:=as2_ (Kd.R_lower ho3 (below_size bl_)) (below_step bl_ hb);clear HB;obtain⟨HO21003,HB⟩:=n_;clear hb ho3))
 go_loopg [4] k (fun kq v4 w'=>∃ (x4_1:Int),v4=.int .i64 x4_1∧Aside0 (dataflowref07_Keyword.l0 kq a0 y21001 x4_1=some r)∧Aside0 (kq≤k)∧Aside0 (Kd.R Kd.string 9 w' w.heap.size (fun _=>True) v21002 y21001)∧Aside0 (Below w.heap.size w w'))
 case atStart=>exact⟨(0),fr_,H',⟨Nat.le_refl _⟩,⟨(by(with_reducible repeat(first|apply Kd.R_alloc|apply Kd.R_drewN|apply Kd.R_drew));exact HO21003.out)⟩,⟨bl_⟩⟩
 case round =>
  clear H';(try clear c2);(try clear p2);obtain⟨x4_1,rfl,HA,HK1,HO_3,HB⟩:=hrel
  cases gk with
  |zero=>exact absurd HA.out (by simp [dataflowref07_Keyword.l0])
  |succ k1 =>
   have H:=HA.out;clear HA;simp only [dataflowref07_Keyword.l0] at H
   by_cases c4:x4_1<(y21001.length:Int)
   ·rw [if_pos c4] at H;have c4b0:decide (x4_1<(y21001.length:Int))=true:=decide_eq_true c4;clear c4
    by_cases c5:0≤x4_1
    ·rw [if_pos c5] at H;have c5b0:decide (0≤x4_1)=true:=decide_eq_true c5;clear c5
     by_cases c6:(rdOf ByteArray.empty y21001 x4_1).toList=a0.toList
     ·rw [if_pos c6] at H;obtain⟨c6b0,c6b1⟩:=eqT_ c6;clear c6;obtain rfl:=Option.some.inj H;obtain⟨Ao7,co7,eo7⟩:=Kd.R_slice HO_3.out;subst eo7;have p21004:0≤(x4_1:Int):=of_decide_eq_true as_;have q21004:x4_1<(y21001.length:Int):=of_decide_eq_true as_;obtain⟨ad21004,e21004,hx21004_0⟩:=Kd.at_string (Kd.R_reads' HO_3.out).2.2 x4_1 p21004 q21004;cases e21004;replace p21004:=eq_true p21004;replace q21004:=eq_true q21004;go_wp2;go_ret;exact⟨er_,bl_⟩
     ·rw [if_neg c6] at H;obtain⟨c6b0,c6b1⟩:=eqF_ c6;have H':=Aside0.mk H;clear H;obtain⟨Ao8,co8,eo8⟩:=Kd.R_slice HO_3.out;subst eo8;have p21004:0≤(x4_1:Int):=of_decide_eq_true as_;have q21004:x4_1<(y21001.length:Int):=of_decide_eq_true as_;obtain⟨ad21004,e21004,hx21004_0⟩:=Kd.at_string (Kd.R_reads' HO_3.out).2.2 x4_1 p21004 q21004;cases e21004;replace p21004:=eq_true p21004;replace q21004:=eq_true q21004;go_wp2
      go_roundg k1
      case measure=>have:=HK1.out;omega
      case rel=>exact⟨(wrap64 (x4_1+1)),fr_,H',⟨(by have:=HK1.out;omega)⟩,⟨(by(with_reducible repeat(first|apply Kd.R_alloc|apply Kd.R_drewN|apply Kd.R_drew));exact HO_3.out)⟩,⟨bl_⟩⟩
    ·rw [if_neg c5] at H;exact absurd H (by simp)
   ·rw [if_neg c4] at H;have c4b0:decide (x4_1<(y21001.length:Int))=false:=decide_eq_false c4;clear c4;obtain rfl:=Option.some.inj H;obtain⟨Ao9,co9,eo9⟩:=Kd.R_slice HO_3.out;subst eo9;go_wp2;go_ret;exact⟨er_,bl_⟩
/-! ### dataflowref07_letter: function 47 -/
def dataflowref07_letter.f(a0:Int):Option (Bool):=if a0≥97 then(if a0≤122 then(some true) else(if a0≥65 then(some (decide (a0≤90))) else(some false))) else(if a0≥65 then(some (decide (a0≤90))) else(some false))
theorem b47_1{p:Prop}(h:p:=by repeat(first|exact Drawn0.refl _|apply Drawn0.step)):p:=h
set_option maxHeartbeats 8000000 in
set_option maxRecDepth 100000 in
theorem dataflowref07_letter.calls(a0:Int)(r:Bool)(w:World)(h:dataflowref07_letter.f a0=some r) :
  Calls Tryd.prog 47 #[.int .u8 a0] w fun e w'=>e=.returned (.bool r)∧Drawn0 w w':=by
 have H:(if a0≥97 then(if a0≤122 then(some true) else(if a0≥65 then(some (decide (a0≤90))) else(some false))) else(if a0≥65 then(some (decide (a0≤90))) else(some false)))=some r:=h;clear h
 by_cases c2:a0≥97
 ·rw [if_pos c2] at H;have c2b0:decide (97≤a0)=true:=decide_eq_true c2;clear c2
  by_cases c3:a0≤122
  ·rw [if_pos c3] at H;have c3b0:decide (a0≤122)=true:=decide_eq_true c3;clear c3;obtain rfl:=Option.some.inj H;go_enter Tryd.func47,Tryd.ntmps47;go_wp2;go_ret;exact⟨fr_,b47_1⟩
  ·rw [if_neg c3] at H;have c3b0:decide (a0≤122)=false:=decide_eq_false c3;clear c3
   by_cases c4:a0≥65
   ·rw [if_pos c4] at H;have c4b0:decide (65≤a0)=true:=decide_eq_true c4;clear c4;obtain rfl:=Option.some.inj H;go_enter Tryd.func47,Tryd.ntmps47;go_wp2;go_ret;exact⟨fr_,b47_1⟩
   ·rw [if_neg c4] at H;have c4b0:decide (65≤a0)=false:=decide_eq_false c4;clear c4;obtain rfl:=Option.some.inj H;go_enter Tryd.func47,Tryd.ntmps47;go_wp2;go_ret;exact⟨fr_,b47_1⟩
 ·rw [if_neg c2] at H;have c2b0:decide (97≤a0)=false:=decide_eq_false c2;clear c2
  by_cases c5:a0≥65
  ·rw [if_pos c5] at H;have c5b0:decide (65≤a0)=true:=decide_eq_true c5;clear c5;obtain rfl:=Option.some.inj H;go_enter Tryd.func47,Tryd.ntmps47;go_wp2;go_ret;exact⟨fr_,b47_1⟩
  ·rw [if_neg c5] at H;have c5b0:decide (65≤a0)=false:=decide_eq_false c5;clear c5;obtain rfl:=Option.some.inj H;go_enter Tryd.func47,Tryd.ntmps47;go_wp2;go_ret;exact⟨fr_,b47_1⟩
/-! ### dataflowref07_digit: function 75 -/
def dataflowref07_digit.f(a0:Int):Option (Bool):=if a0≥48 then(some (decide (a0≤57))) else(some false)
set_option maxHeartbeats 8000000 in
set_option maxRecDepth 100000 in
theorem dataflowref07_digit.calls(a0:Int)(r:Bool)(w:World)(h:dataflowref07_digit.f a0=some r) :
  Calls Tryd.prog 75 #[.int .u8 a0] w fun e w'=>e=.returned (.bool r)∧Drawn0 w w':=by
 have H:(if a0≥48 then(some (decide (a0≤57))) else(some false))=some r:=h;clear h
 by_cases c2:a0≥48
 ·rw [if_pos c2] at H;have c2b0:decide (48≤a0)=true:=decide_eq_true c2;clear c2;obtain rfl:=Option.some.inj H;go_enter Tryd.func75,Tryd.ntmps75;go_wp2;go_ret;exact⟨fr_,(by repeat(first|exact Drawn0.refl _|apply Drawn0.step))⟩
 ·rw [if_neg c2] at H;have c2b0:decide (48≤a0)=false:=decide_eq_false c2;clear c2;obtain rfl:=Option.some.inj H;go_enter Tryd.func75,Tryd.ntmps75;go_wp2;go_ret;exact⟨fr_,(by repeat(first|exact Drawn0.refl _|apply Drawn0.step))⟩
/-! ### dataflowref07_part: function 48 -/
def dataflowref07_part.f(a0:Int):Option (Bool):=(dataflowref07_letter.f a0).bind fun t49001=>(if t49001=true then(some true) else((dataflowref07_digit.f a0).bind fun t49002=>(if t49002=true then(some true) else(some (a0==95)))))
theorem b48_1{p:Prop}(h:p:=by repeat(first|exact Drawn0.refl _|apply Drawn0.step)):p:=h
set_option maxHeartbeats 8000000 in
set_option maxRecDepth 100000 in
theorem dataflowref07_part.calls(a0:Int)(r:Bool)(w:World)(h:dataflowref07_part.f a0=some r) :
  Calls Tryd.prog 48 #[.int .u8 a0] w fun e w'=>e=.returned (.bool r)∧Drawn0 w w':=by
 have H:((dataflowref07_letter.f a0).bind fun t49001=>(if t49001=true then(some true) else((dataflowref07_digit.f a0).bind fun t49002=>(if t49002=true then(some true) else(some (a0==95))))))=some r:=h;clear h;replace H:=Option.bind_eq_some_iff.mp H;obtain⟨t49001,A20,H⟩:=H;have A2:=Aside0.mk A20;clear A20
 by_cases c3:t49001=true
 ·subst c3;rw [if_pos rfl] at H;obtain rfl:=Option.some.inj H;go_enter Tryd.func48,Tryd.ntmps48
  go_wp2_with (first|((with_reducible refine gate_callee (f:=47) rfl ?_);refine goesL_ (some 4) rfl rfl Tryd.func47 (by kernel_rfl) rfl #[.int .u8 a0] rfl mp_ ?_;(with_reducible refine(dataflowref07_letter.calls a0 true _ A2.out).mono ?_);rintro e w' ⟨rfl,⟨nd,rfl⟩⟩;refine⟨_,rfl,?_⟩))
  go_ret;exact⟨fr_,b48_1⟩
 ·replace c3:=Bool.eq_false_iff.mpr c3;subst c3;rw [if_neg nf_] at H;replace H:=Option.bind_eq_some_iff.mp H;obtain⟨t49002,A40,H⟩:=H;have A4:=Aside0.mk A40;clear A40
  by_cases c5:t49002=true
  ·subst c5;rw [if_pos rfl] at H;obtain rfl:=Option.some.inj H;go_enter Tryd.func48,Tryd.ntmps48
   go_wp2_with (first|((with_reducible refine gate_callee (f:=47) rfl ?_);refine goesL_ (some 4) rfl rfl Tryd.func47 (by kernel_rfl) rfl #[.int .u8 a0] rfl mp_ ?_;(with_reducible refine(dataflowref07_letter.calls a0 false _ A2.out).mono ?_);rintro e w' ⟨rfl,⟨nd,rfl⟩⟩;refine⟨_,rfl,?_⟩)|(go_at_call 75;(with_reducible refine(dataflowref07_digit.calls a0 true _ A4.out).mono ?_);rintro e w' ⟨rfl,⟨nd,rfl⟩⟩))
   go_ret;exact⟨fr_,b48_1⟩
  ·replace c5:=Bool.eq_false_iff.mpr c5;subst c5;rw [if_neg nf_] at H;obtain rfl:=Option.some.inj H;go_enter Tryd.func48,Tryd.ntmps48
   go_wp2_with (first|((with_reducible refine gate_callee (f:=47) rfl ?_);refine goesL_ (some 4) rfl rfl Tryd.func47 (by kernel_rfl) rfl #[.int .u8 a0] rfl mp_ ?_;(with_reducible refine(dataflowref07_letter.calls a0 false _ A2.out).mono ?_);rintro e w' ⟨rfl,⟨nd,rfl⟩⟩;refine⟨_,rfl,?_⟩)|(go_at_call 75;(with_reducible refine(dataflowref07_digit.calls a0 false _ A4.out).mono ?_);rintro e w' ⟨rfl,⟨nd,rfl⟩⟩))
   go_ret;exact⟨fr_,b48_1⟩
/-! ### dataflowref07_Ident: function 18 -/
mutual
def dataflowref07_Ident.j0:Nat→ByteArray→Bool→Option (Bool)
 |0,_,_=>none
 |k+1,x0,x20=>if x20=true then(some false) else(dataflowref07_Ident.l0 k x0 0)
def dataflowref07_Ident.l0:Nat→ByteArray→Int→Option (Bool)
 |0,_,_=>none
 |k+1,x0,x3=>if x3<(x0.size:Int) then(if 0≤x3 then((dataflowref07_part.f (bt x0 x3)).bind fun t19003=>(if t19003=true then(dataflowref07_Ident.l0 k x0 (wrap64 (x3+1))) else(some false))) else(none)) else(some true)
end
def dataflowref07_Ident.f(k:Nat)(a0:ByteArray):Option (Bool):=if a0.toList=([]:List UInt8) then(dataflowref07_Ident.j0 k a0 true) else(if (a0.size:Int)>32 then(dataflowref07_Ident.j0 k a0 true) else(if 0<(a0.size:Int) then((dataflowref07_letter.f (bt a0 0)).bind fun t19001=>(if t19001=true then((dataflowref07_Keyword.f k a0).bind fun t19002=>(dataflowref07_Ident.j0 k a0 t19002)) else(dataflowref07_Ident.j0 k a0 true))) else(none)))
theorem b18_1{p:Prop}(h:p:=by first|omega|exact Nat.le_refl _):p:=h
theorem m18_0{p:Prop}(h:p:=by repeat' first|(with_reducible exact ih0 _ _)|(with_reducible exact ih1 _ _)|(with_reducible exact dataflowref07_Keyword.mono _ _)|(with_reducible exact LeO.refl _)|(with_reducible exact LeO.none _)|(with_reducible refine LeO.ite ?_ ?_)|(with_reducible refine LeO.bind ?_ (fun _=>?_))|exact ih0 _ _|exact ih1 _ _|exact dataflowref07_Keyword.mono _ _|exact LeO.none _|refine LeO.ite ?_ ?_|refine LeO.bind ?_ (fun _=>?_)):p:=h
theorem dataflowref07_Ident.mono_l:∀ k,(∀ y0 y1,LeO (dataflowref07_Ident.j0 k y0 y1) (dataflowref07_Ident.j0 (k+1) y0 y1))∧(∀ y0 y1,LeO (dataflowref07_Ident.l0 k y0 y1) (dataflowref07_Ident.l0 (k+1) y0 y1))
 |0=>⟨fun _ _ r h=>by simp [dataflowref07_Ident.j0] at h,fun _ _ r h=>by simp [dataflowref07_Ident.l0] at h⟩
 |k+1=>by
  obtain⟨ih0,ih1⟩:=dataflowref07_Ident.mono_l k;refine⟨?_,?_⟩
  ·intro y0 y1;unfold dataflowref07_Ident.j0;exact m18_0
  ·intro y0 y1;unfold dataflowref07_Ident.l0;exact m18_0
theorem dataflowref07_Ident.mono:∀ a0 k,LeO (dataflowref07_Ident.f k a0) (dataflowref07_Ident.f (k+1) a0):=by
 intro a0 k;obtain⟨ih0,ih1⟩:=dataflowref07_Ident.mono_l k;unfold dataflowref07_Ident.f;exact m18_0
set_option maxHeartbeats 8000000 in
set_option maxRecDepth 100000 in
theorem dataflowref07_Ident.calls(k:Nat)(a0:ByteArray)(r:Bool)(w:World)(h:dataflowref07_Ident.f k a0=some r) :
  Calls Tryd.prog 18 #[.string a0] w fun e w'=>e=.returned (.bool r)∧Below w.heap.size w w':=by
 have HB:=Aside0.mk (Below.refl w.heap.size w);have H:(if a0.toList=([]:List UInt8) then(dataflowref07_Ident.j0 k a0 true) else(if (a0.size:Int)>32 then(dataflowref07_Ident.j0 k a0 true) else(if 0<(a0.size:Int) then((dataflowref07_letter.f (bt a0 0)).bind fun t19001=>(if t19001=true then((dataflowref07_Keyword.f k a0).bind fun t19002=>(dataflowref07_Ident.j0 k a0 t19002)) else(dataflowref07_Ident.j0 k a0 true))) else(none))))=some r:=h;clear h;have HC2:=Aside0.mk H;clear H;go_enter Tryd.func18,Tryd.ntmps18
 go_upto_region 1 with (fail)
 go_cut [20] (fun v20 wc=>∃ (kq:Nat) (x20_1:Bool),v20=.bool x20_1∧Aside0 (dataflowref07_Ident.j0 kq a0 x20_1=some r)∧Aside0 (kq≤k)∧Aside0 (Below w.heap.size w wc))
 case first =>
  have H:=HC2.out;clear HC2
  by_cases c3:a0.toList=([]:List UInt8)
  ·rw [if_pos c3] at H;obtain⟨c3b0,c3b1⟩:=eqT_ c3;clear c3
   (first|rw [c3b0]|(simp only [i64_w,i32_w];rw [c3b0])|skip)
   have H':=Aside0.mk H;clear H;go_wp2
   go_meet
   case rel=>exact⟨_,(true),fr_,H',⟨b18_1⟩,⟨bl_⟩⟩
  ·rw [if_neg c3] at H;obtain⟨c3b0,c3b1⟩:=eqF_ c3
   (first|rw [c3b0]|(simp only [i64_w,i32_w];rw [c3b0])|skip)
   by_cases c4:(a0.size:Int)>32
   ·rw [if_pos c4] at H;have c4b0:decide (32<(a0.size:Int))=true:=decide_eq_true c4;have c4b1:decide (32<a0.size)=true:=decide_eq_true (by omega);clear c4;have H':=Aside0.mk H;clear H;go_wp2
    go_meet
    case rel=>exact⟨_,(true),fr_,H',⟨b18_1⟩,⟨bl_⟩⟩
   ·rw [if_neg c4] at H;have c4b0:decide (32<(a0.size:Int))=false:=decide_eq_false c4;have c4b1:decide (32<a0.size)=false:=decide_eq_false (by omega);clear c4
    by_cases c5:0<(a0.size:Int)
    ·rw [if_pos c5] at H;have c5b0:decide (0<(a0.size:Int))=true:=decide_eq_true c5;have c5b1:decide (0<a0.size)=true:=decide_eq_true (by omega);clear c5;replace H:=Option.bind_eq_some_iff.mp H;obtain⟨t19001,A70,H⟩:=H;have A7:=Aside0.mk A70;clear A70
     by_cases c8:t19001=true
     ·subst c8;rw [if_pos rfl] at H;replace H:=Option.bind_eq_some_iff.mp H;obtain⟨t19002,A90,H⟩:=H;have A9:=Aside0.mk A90;clear A90;have H':=Aside0.mk H;clear H;have p6:0≤(0:Int):=(by omega);have q6:0<a0.size:=(by have:(0:Int)<(a0.size:Int):=of_decide_eq_true as_;omega);have hx6:∀ h:0<a0.size,((a0[0]'h).toNat:Int)=bt a0 0:=bt_at a0 0;clear p6;have qi6:(0<(a0.size:Int))=True:=eq_true (of_decide_eq_true as_);replace q6:=eq_true q6
      go_wp2_with (first|(go_at_call 47;(with_reducible refine(dataflowref07_letter.calls (bt a0 0) true _ A7.out).mono ?_);rintro e w' ⟨rfl,⟨nd,rfl⟩⟩)|(go_at_call 20;(with_reducible refine(dataflowref07_Keyword.calls k a0 t19002 _ A9.out).mono ?_);rintro e w10 ⟨rfl,hb⟩;have n0_:=Aside0.mk (below_step bl_ hb);clear HB;have HB:=n0_;clear n0_;(try clear hb)))
      go_meet
      case rel=>exact⟨_,(t19002),fr_,H',⟨b18_1⟩,⟨bl_⟩⟩
     ·replace c8:=Bool.eq_false_iff.mpr c8;subst c8;rw [if_neg nf_] at H;have H':=Aside0.mk H;clear H;have p6:0≤(0:Int):=(by omega);have q6:0<a0.size:=(by have:(0:Int)<(a0.size:Int):=of_decide_eq_true as_;omega);have hx6:∀ h:0<a0.size,((a0[0]'h).toNat:Int)=bt a0 0:=bt_at a0 0;clear p6;have qi6:(0<(a0.size:Int))=True:=eq_true (of_decide_eq_true as_);replace q6:=eq_true q6
      go_wp2_with (first|(go_at_call 47;(with_reducible refine(dataflowref07_letter.calls (bt a0 0) false _ A7.out).mono ?_);rintro e w' ⟨rfl,⟨nd,rfl⟩⟩))
      go_meet
      case rel=>exact⟨_,(true),fr_,H',⟨b18_1⟩,⟨bl_⟩⟩
    ·rw [if_neg c5] at H;exact absurd H (by simp)
 case rest =>
  clear HC2;(try clear c1);(try clear p2);(try clear c3);(try clear c3b0);(try clear c3b1);(try clear c4);(try clear c4b0);(try clear c4b1);(try clear c5);(try clear c5b0);(try clear c5b1);(try clear p6);(try clear q6);(try clear hx6);(try clear qi6);(try clear c8);(try clear p6);(try clear q6);obtain⟨kq,x20_1,rfl,HA,HJ1,HB⟩:=hcut
  cases kq with
  |zero=>exact absurd HA.out (by simp [dataflowref07_Ident.j0])
  |succ kj1 =>
   have H:=HA.out;clear HA;simp only [dataflowref07_Ident.j0] at H
   by_cases c11:x20_1=true
   ·subst c11;rw [if_pos rfl] at H;obtain rfl:=Option.some.inj H;go_wp2;go_ret;exact⟨er_,bl_⟩
   ·replace c11:=Bool.eq_false_iff.mpr c11;subst c11;rw [if_neg nf_] at H;have H':=Aside0.mk H;clear H;go_wp2
    go_loopg [3] kj1 (fun kq v3 w'=>∃ (x3_2:Int),v3=.int .i64 x3_2∧Aside0 (dataflowref07_Ident.l0 kq a0 x3_2=some r)∧Aside0 (kq≤kj1)∧Aside0 (Below w.heap.size w w'))
    case atStart=>exact⟨(0),fr_,H',⟨Nat.le_refl _⟩,⟨bl_⟩⟩
    case round =>
     clear H';(try clear c1);(try clear p2);(try clear c3);(try clear c3b0);(try clear c3b1);(try clear c4);(try clear c4b0);(try clear c4b1);(try clear c5);(try clear c5b0);(try clear c5b1);(try clear p6);(try clear q6);(try clear hx6);(try clear qi6);(try clear c8);(try clear c11);(try clear p2);(try clear p6);(try clear q6);obtain⟨x3_2,rfl,HA,HK2,HB⟩:=hrel
     cases gk with
     |zero=>exact absurd HA.out (by simp [dataflowref07_Ident.l0])
     |succ k2 =>
      have H:=HA.out;clear HA;simp only [dataflowref07_Ident.l0] at H
      by_cases c12:x3_2<(a0.size:Int)
      ·rw [if_pos c12] at H;have c12b0:decide (x3_2<(a0.size:Int))=true:=decide_eq_true c12;clear c12
       by_cases c13:0≤x3_2
       ·rw [if_pos c13] at H;have c13b0:decide (0≤x3_2)=true:=decide_eq_true c13;clear c13;replace H:=Option.bind_eq_some_iff.mp H;obtain⟨t19003,A150,H⟩:=H;have A15:=Aside0.mk A150;clear A150
        by_cases c16:t19003=true
        ·subst c16;rw [if_pos rfl] at H;have H':=Aside0.mk H;clear H;have p14:0≤(x3_2:Int):=of_decide_eq_true as_;have q14:x3_2<(a0.size:Int):=of_decide_eq_true as_;have hx14:=bt_at a0 x3_2;replace p14:=eq_true p14;replace q14:=eq_true q14
         go_wp2_with (first|((with_reducible refine gate_callee (f:=48) rfl ?_);refine goesL_ (some 30) rfl rfl Tryd.func48 (by kernel_rfl) rfl #[.int .u8 (bt a0 x3_2)] rfl mp_ ?_;(with_reducible refine(dataflowref07_part.calls (bt a0 x3_2) true _ A15.out).mono ?_);rintro e w' ⟨rfl,⟨nd,rfl⟩⟩;refine⟨_,rfl,?_⟩))
         go_roundg k2
         case measure=>have:=HJ1.out;have:=HK2.out;omega
         case rel=>exact⟨(wrap64 (x3_2+1)),fr_,H',⟨(by have:=HJ1.out;have:=HK2.out;omega)⟩,⟨bl_⟩⟩
        ·replace c16:=Bool.eq_false_iff.mpr c16;subst c16;rw [if_neg nf_] at H;obtain rfl:=Option.some.inj H;have p14:0≤(x3_2:Int):=of_decide_eq_true as_;have q14:x3_2<(a0.size:Int):=of_decide_eq_true as_;have hx14:=bt_at a0 x3_2;replace p14:=eq_true p14;replace q14:=eq_true q14
         go_wp2_with (first|((with_reducible refine gate_callee (f:=48) rfl ?_);refine goesL_ (some 30) rfl rfl Tryd.func48 (by kernel_rfl) rfl #[.int .u8 (bt a0 x3_2)] rfl mp_ ?_;(with_reducible refine(dataflowref07_part.calls (bt a0 x3_2) false _ A15.out).mono ?_);rintro e w' ⟨rfl,⟨nd,rfl⟩⟩;refine⟨_,rfl,?_⟩))
         go_ret;exact⟨er_,bl_⟩
       ·rw [if_neg c13] at H;exact absurd H (by simp)
      ·rw [if_neg c12] at H;have c12b0:decide (x3_2<(a0.size:Int))=false:=decide_eq_false c12;clear c12;obtain rfl:=Option.some.inj H;go_wp2;go_ret;exact⟨er_,bl_⟩
end Go.Proofs.YthfhbdncphkdaaaDoor.H

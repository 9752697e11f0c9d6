/- Printed (xprint.py): Go functions as Lean functions, each with the proof that its call does what the Lean function says. -/
import Derived.Test.YtnoangbidnigdaaDoorH0
import Derived.Test.YtnoangbidnigdaaDoorHa
namespace Go.Proofs.YtnoangbidnigdaaDoor.H
open Go.RowKit Go.Proofs.YtnoangbidnigdaaDoorW.PrintWords Go.Proofs.YtnoangbidnigdaaDoorW.PrintLast Go.Proofs.YtnoangbidnigdaaDoorW.PrintMore
attribute [local go_sem] max2_int min2_int max_two min_two max_three min_three max_four min_four   -- for this text's walks alone
set_option linter.unusedVariables false
set_option linter.unusedSimpArgs false
-- BUNDLE c
/-! ### suppress_free: function 24 -/
def suppress_free.f(k:Nat)(a0:ByteArray):Option (Bool):=if a0.toList=([]:List UInt8) then(some true) else((lex_Ident.f k a0).bind fun t25001=>(some t25001))
theorem suppress_free.mono:∀ a0 k,LeO (suppress_free.f k a0) (suppress_free.f (k+1) a0):=by
 intro a0 k;unfold suppress_free.f
 repeat' first
   |(with_reducible exact lex_Ident.mono _ _)
   |(with_reducible exact LeO.refl _)
   |(with_reducible exact LeO.none _)
   |(with_reducible refine LeO.ite ?_ ?_)
   |(with_reducible refine LeO.bind ?_ (fun _=>?_))
   |exact lex_Ident.mono _ _
   |exact LeO.none _
   |refine LeO.ite ?_ ?_
   |refine LeO.bind ?_ (fun _=>?_)
set_option maxHeartbeats 8000000 in
set_option maxRecDepth 100000 in
theorem suppress_free.calls(k:Nat)(a0:ByteArray)(r:Bool)(w:World)(hgh:Gh w)(h:suppress_free.f k a0=some r) :
  Calls Tryd.prog 24 #[.string a0] w fun e w'=>e=.returned (.bool r)∧Drawn0 w w':=by
 have HGH:=Aside0.mk hgh;clear hgh;have H:(if a0.toList=([]:List UInt8) then(some true) else((lex_Ident.f k a0).bind fun t25001=>(some t25001)))=some r:=h;clear h
 by_cases c2:a0.toList=([]:List UInt8)
 ·rw [if_pos c2] at H;obtain⟨c2b0,c2b1⟩:=eqT_ c2;clear c2;obtain rfl:=Option.some.inj H;go_enter Tryd.func24,Tryd.ntmps24;go_wp2;go_ret;exact⟨fr_,(by repeat(first|exact Drawn0.refl _|apply Drawn0.step))⟩
 ·rw [if_neg c2] at H;obtain⟨c2b0,c2b1⟩:=eqF_ c2;replace H:=Option.bind_eq_some_iff.mp H;obtain⟨t25001,A30,H⟩:=H;have A3:=Aside0.mk A30;clear A30;obtain rfl:=Option.some.inj H;go_enter Tryd.func24,Tryd.ntmps24
  go_wp2_with (first|(go_at_call 49;(with_reducible refine(lex_Ident.calls k a0 t25001 _ ?side1 A3.out).mono ?_);(case side1=>exact(by repeat(first|exact HGH.out|(with_reducible refine Gh.drewN ?_ _)|(with_reducible refine Gh.drew ?_)|(with_reducible refine Gh.alloc ?_ _))));rintro e w' ⟨rfl,⟨nd,rfl⟩⟩))
  go_ret;exact⟨fr_,(by repeat(first|exact Drawn0.refl _|apply Drawn0.step))⟩
/-! ### suppress_within: function 25 -/
def suppress_within.l0:Nat→ByteArray→Int→Int→Int→Option (Bool)
 |0,_,_,_,_=>none
 |k+1,x0,x1,x7,x8=>if x8<x7 then(if 0≤x8 then(if x8<(x0.size:Int) then(if (bt x0 x8)<x1 then(some false) else(if (bt x0 x8)>126 then(some false) else(suppress_within.l0 k x0 x1 x7 (wrap64 (x8+1))))) else(none)) else(none)) else(some true)
def suppress_within.f(k:Nat)(a0:ByteArray)(a1:Int):Option (Bool):=suppress_within.l0 k a0 a1 (a0.size:Int) 0
theorem b25_1{p:Prop}(h:p:=by repeat(first|exact Drawn0.refl _|apply Drawn0.step)):p:=h
theorem m25_0{p:Prop}(h:p:=by repeat' first|(with_reducible exact ih0 _ _ _ _)|(with_reducible exact LeO.refl _)|(with_reducible exact LeO.none _)|(with_reducible refine LeO.ite ?_ ?_)|(with_reducible refine LeO.bind ?_ (fun _=>?_))|exact ih0 _ _ _ _|exact LeO.none _|refine LeO.ite ?_ ?_|refine LeO.bind ?_ (fun _=>?_)):p:=h
theorem suppress_within.mono_l:∀ k,(∀ y0 y1 y2 y3,LeO (suppress_within.l0 k y0 y1 y2 y3) (suppress_within.l0 (k+1) y0 y1 y2 y3))
 |0=>fun _ _ _ _ r h=>by simp [suppress_within.l0] at h
 |k+1=>by
  have ih0:=suppress_within.mono_l k
  ·intro y0 y1 y2 y3;unfold suppress_within.l0;exact m25_0
theorem suppress_within.mono:∀ a0 a1 k,LeO (suppress_within.f k a0 a1) (suppress_within.f (k+1) a0 a1):=by
 intro a0 a1 k;have ih0:=suppress_within.mono_l k;unfold suppress_within.f;exact m25_0
set_option maxHeartbeats 8000000 in
set_option maxRecDepth 100000 in
theorem suppress_within.calls(k:Nat)(a0:ByteArray)(a1:Int)(r:Bool)(w:World)(h:suppress_within.f k a0 a1=some r) :
  Calls Tryd.prog 25 #[.string a0,.int .u8 a1] w fun e w'=>e=.returned (.bool r)∧Drawn0 w w':=by
 have H:(suppress_within.l0 k a0 a1 (a0.size:Int) 0)=some r:=h;clear h;have H':=Aside0.mk H;clear H;go_enter Tryd.func25,Tryd.ntmps25;go_wp2
 go_loopg [8] k (fun kq v8 w'=>∃ (x8_1:Int),v8=.int .i64 x8_1∧Aside0 (suppress_within.l0 kq a0 a1 (a0.size:Int) x8_1=some r)∧Aside0 (kq≤k)∧Drawn0 w w')
 case atStart=>exact⟨(0),fr_,H',⟨Nat.le_refl _⟩,b25_1⟩
 case round =>
  clear H';(try clear c2);(try clear p2);obtain⟨x8_1,rfl,HA,HK1,⟨m1,rfl⟩⟩:=hrel
  cases gk with
  |zero=>exact absurd HA.out (by simp [suppress_within.l0])
  |succ k1 =>
   have H:=HA.out;clear HA;simp only [suppress_within.l0] at H
   by_cases c3:x8_1<(a0.size:Int)
   ·rw [if_pos c3] at H;have c3b0:decide (x8_1<(a0.size:Int))=true:=decide_eq_true c3;clear c3
    by_cases c4:0≤x8_1
    ·rw [if_pos c4] at H;have c4b0:decide (0≤x8_1)=true:=decide_eq_true c4;clear c4
     by_cases c5:x8_1<(a0.size:Int)
     ·rw [if_pos c5] at H;have c5b0:decide (x8_1<(a0.size:Int))=true:=decide_eq_true c5;clear c5
      by_cases c7:(bt a0 x8_1)<a1
      ·rw [if_pos c7] at H;have c7b0:decide ((bt a0 x8_1)<a1)=true:=decide_eq_true c7;clear c7;obtain rfl:=Option.some.inj H;have p6:0≤(x8_1:Int):=of_decide_eq_true as_;have q6:x8_1<(a0.size:Int):=of_decide_eq_true as_;have hx6:=bt_at a0 x8_1;replace p6:=eq_true p6;replace q6:=eq_true q6;go_wp2;go_ret;exact⟨fr_,b25_1⟩
      ·rw [if_neg c7] at H;have c7b0:decide ((bt a0 x8_1)<a1)=false:=decide_eq_false c7;clear c7
       by_cases c9:(bt a0 x8_1)>126
       ·rw [if_pos c9] at H;have c9b0:decide (126<(bt a0 x8_1))=true:=decide_eq_true c9;clear c9;obtain rfl:=Option.some.inj H;have p6:0≤(x8_1:Int):=of_decide_eq_true as_;have q6:x8_1<(a0.size:Int):=of_decide_eq_true as_;have hx6:=bt_at a0 x8_1;replace p6:=eq_true p6;replace q6:=eq_true q6;have p8:0≤(x8_1:Int):=of_decide_eq_true as_;have q8:x8_1<(a0.size:Int):=of_decide_eq_true as_;have hx8:=bt_at a0 x8_1;replace p8:=eq_true p8;replace q8:=eq_true q8;go_wp2;go_ret;exact⟨fr_,b25_1⟩
       ·rw [if_neg c9] at H;have c9b0:decide (126<(bt a0 x8_1))=false:=decide_eq_false c9;clear c9;have H':=Aside0.mk H;clear H;have p6:0≤(x8_1:Int):=of_decide_eq_true as_;have q6:x8_1<(a0.size:Int):=of_decide_eq_true as_;have hx6:=bt_at a0 x8_1;replace p6:=eq_true p6;replace q6:=eq_true q6;have p8:0≤(x8_1:Int):=of_decide_eq_true as_;have q8:x8_1<(a0.size:Int):=of_decide_eq_true as_;have hx8:=bt_at a0 x8_1;replace p8:=eq_true p8;replace q8:=eq_true q8;go_wp2
        go_roundg k1
        case measure=>have:=HK1.out;omega
        case rel=>exact⟨(wrap64 (x8_1+1)),fr_,H',⟨(by have:=HK1.out;omega)⟩,b25_1⟩
     ·rw [if_neg c5] at H;exact absurd H (by simp)
    ·rw [if_neg c4] at H;exact absurd H (by simp)
   ·rw [if_neg c3] at H;have c3b0:decide (x8_1<(a0.size:Int))=false:=decide_eq_false c3;clear c3;obtain rfl:=Option.some.inj H;go_wp2;go_ret;exact⟨fr_,b25_1⟩
/-! ### dataflowref45_Word: function 27 -/
def dataflowref45_Word.l0:Nat→ByteArray→Int→Option (Bool)
 |0,_,_=>none
 |k+1,x0,x3=>if x3<(x0.size:Int) then(if 0≤x3 then(if (bt x0 x3)<33 then(some false) else(if (bt x0 x3)>126 then(some false) else(dataflowref45_Word.l0 k x0 (wrap64 (x3+1))))) else(none)) else(if (x0.size:Int)≥1 then(some (decide ((x0.size:Int)≤32))) else(some false))
def dataflowref45_Word.f(k:Nat)(a0:ByteArray):Option (Bool):=dataflowref45_Word.l0 k a0 0
theorem b27_1{p:Prop}(h:p:=by repeat(first|exact Drawn0.refl _|apply Drawn0.step)):p:=h
theorem m27_0{p:Prop}(h:p:=by repeat' first|(with_reducible exact ih0 _ _)|(with_reducible exact LeO.refl _)|(with_reducible exact LeO.none _)|(with_reducible refine LeO.ite ?_ ?_)|(with_reducible refine LeO.bind ?_ (fun _=>?_))|exact ih0 _ _|exact LeO.none _|refine LeO.ite ?_ ?_|refine LeO.bind ?_ (fun _=>?_)):p:=h
theorem dataflowref45_Word.mono_l:∀ k,(∀ y0 y1,LeO (dataflowref45_Word.l0 k y0 y1) (dataflowref45_Word.l0 (k+1) y0 y1))
 |0=>fun _ _ r h=>by simp [dataflowref45_Word.l0] at h
 |k+1=>by
  have ih0:=dataflowref45_Word.mono_l k
  ·intro y0 y1;unfold dataflowref45_Word.l0;exact m27_0
theorem dataflowref45_Word.mono:∀ a0 k,LeO (dataflowref45_Word.f k a0) (dataflowref45_Word.f (k+1) a0):=by
 intro a0 k;have ih0:=dataflowref45_Word.mono_l k;unfold dataflowref45_Word.f;exact m27_0
set_option maxHeartbeats 8000000 in
set_option maxRecDepth 100000 in
theorem dataflowref45_Word.calls(k:Nat)(a0:ByteArray)(r:Bool)(w:World)(h:dataflowref45_Word.f k a0=some r) :
  Calls Tryd.prog 27 #[.string a0] w fun e w'=>e=.returned (.bool r)∧Drawn0 w w':=by
 have H:(dataflowref45_Word.l0 k a0 0)=some r:=h;clear h;have H':=Aside0.mk H;clear H;go_enter Tryd.func27,Tryd.ntmps27;go_wp2
 go_loopg [3] k (fun kq v3 w'=>∃ (x3_1:Int),v3=.int .i64 x3_1∧Aside0 (dataflowref45_Word.l0 kq a0 x3_1=some r)∧Aside0 (kq≤k)∧Drawn0 w w')
 case atStart=>exact⟨(0),fr_,H',⟨Nat.le_refl _⟩,b27_1⟩
 case round =>
  clear H';obtain⟨x3_1,rfl,HA,HK1,⟨m1,rfl⟩⟩:=hrel
  cases gk with
  |zero=>exact absurd HA.out (by simp [dataflowref45_Word.l0])
  |succ k1 =>
   have H:=HA.out;clear HA;simp only [dataflowref45_Word.l0] at H
   by_cases c2:x3_1<(a0.size:Int)
   ·rw [if_pos c2] at H;have c2b0:decide (x3_1<(a0.size:Int))=true:=decide_eq_true c2;clear c2
    by_cases c3:0≤x3_1
    ·rw [if_pos c3] at H;have c3b0:decide (0≤x3_1)=true:=decide_eq_true c3;clear c3
     by_cases c5:(bt a0 x3_1)<33
     ·rw [if_pos c5] at H;have c5b0:decide ((bt a0 x3_1)<33)=true:=decide_eq_true c5;clear c5;obtain rfl:=Option.some.inj H;have p4:0≤(x3_1:Int):=of_decide_eq_true as_;have q4:x3_1<(a0.size:Int):=of_decide_eq_true as_;have hx4:=bt_at a0 x3_1;replace p4:=eq_true p4;replace q4:=eq_true q4;go_wp2;go_ret;exact⟨fr_,b27_1⟩
     ·rw [if_neg c5] at H;have c5b0:decide ((bt a0 x3_1)<33)=false:=decide_eq_false c5;clear c5
      by_cases c7:(bt a0 x3_1)>126
      ·rw [if_pos c7] at H;have c7b0:decide (126<(bt a0 x3_1))=true:=decide_eq_true c7;clear c7;obtain rfl:=Option.some.inj H;have p4:0≤(x3_1:Int):=of_decide_eq_true as_;have q4:x3_1<(a0.size:Int):=of_decide_eq_true as_;have hx4:=bt_at a0 x3_1;replace p4:=eq_true p4;replace q4:=eq_true q4;have p6:0≤(x3_1:Int):=of_decide_eq_true as_;have q6:x3_1<(a0.size:Int):=of_decide_eq_true as_;have hx6:=bt_at a0 x3_1;replace p6:=eq_true p6;replace q6:=eq_true q6;go_wp2;go_ret;exact⟨fr_,b27_1⟩
      ·rw [if_neg c7] at H;have c7b0:decide (126<(bt a0 x3_1))=false:=decide_eq_false c7;clear c7;have H':=Aside0.mk H;clear H;have p4:0≤(x3_1:Int):=of_decide_eq_true as_;have q4:x3_1<(a0.size:Int):=of_decide_eq_true as_;have hx4:=bt_at a0 x3_1;replace p4:=eq_true p4;replace q4:=eq_true q4;have p6:0≤(x3_1:Int):=of_decide_eq_true as_;have q6:x3_1<(a0.size:Int):=of_decide_eq_true as_;have hx6:=bt_at a0 x3_1;replace p6:=eq_true p6;replace q6:=eq_true q6;go_wp2
       go_roundg k1
       case measure=>have:=HK1.out;omega
       case rel=>exact⟨(wrap64 (x3_1+1)),fr_,H',⟨(by have:=HK1.out;omega)⟩,b27_1⟩
    ·rw [if_neg c3] at H;exact absurd H (by simp)
   ·rw [if_neg c2] at H;have c2b0:decide (x3_1<(a0.size:Int))=false:=decide_eq_false c2;clear c2
    by_cases c8:(a0.size:Int)≥1
    ·rw [if_pos c8] at H;have c8b0:decide (1≤(a0.size:Int))=true:=decide_eq_true c8;have c8b1:decide (1≤a0.size)=true:=decide_eq_true (by omega);clear c8;obtain rfl:=Option.some.inj H;go_wp2;go_ret;exact⟨fr_,b27_1⟩
    ·rw [if_neg c8] at H;have c8b0:decide (1≤(a0.size:Int))=false:=decide_eq_false c8;have c8b1:decide (1≤a0.size)=false:=decide_eq_false (by omega);clear c8;obtain rfl:=Option.some.inj H;go_wp2;go_ret;exact⟨fr_,b27_1⟩
/-! ### dataflowref46_reason: function 28 -/
mutual
def dataflowref46_reason.j0:Nat→ByteArray→Bool→Option (Bool)
 |0,_,_=>none
 |k+1,x0,x24=>if x24=true then(some false) else(dataflowref46_reason.l0 k x0 0)
def dataflowref46_reason.l0:Nat→ByteArray→Int→Option (Bool)
 |0,_,_=>none
 |k+1,x0,x3=>if x3<(x0.size:Int) then(if 0≤x3 then(if (bt x0 x3)<32 then(some false) else(if (bt x0 x3)>126 then(some false) else(dataflowref46_reason.l0 k x0 (wrap64 (x3+1))))) else(none)) else(some true)
end
def dataflowref46_reason.f(k:Nat)(a0:ByteArray):Option (Bool):=if (a0.size:Int)<1 then(dataflowref46_reason.j0 k a0 true) else(if (a0.size:Int)>200 then(dataflowref46_reason.j0 k a0 true) else(if 0<(a0.size:Int) then(if (bt a0 0)=32 then(dataflowref46_reason.j0 k a0 true) else(if 0≤(wrap64 ((a0.size:Int)-1)) then(if (wrap64 ((a0.size:Int)-1))<(a0.size:Int) then(dataflowref46_reason.j0 k a0 ((bt a0 (wrap64 ((a0.size:Int)-1)))==32)) else(none)) else(none))) else(none)))
theorem b28_1{p:Prop}(h:p:=by first|omega|exact Nat.le_refl _):p:=h
theorem b28_2{p:Prop}(h:p:=by repeat(first|exact Drawn0.refl _|apply Drawn0.step)):p:=h
theorem m28_0{p:Prop}(h:p:=by repeat' first|(with_reducible exact ih0 _ _)|(with_reducible exact ih1 _ _)|(with_reducible exact LeO.refl _)|(with_reducible exact LeO.none _)|(with_reducible refine LeO.ite ?_ ?_)|(with_reducible refine LeO.bind ?_ (fun _=>?_))|exact ih0 _ _|exact ih1 _ _|exact LeO.none _|refine LeO.ite ?_ ?_|refine LeO.bind ?_ (fun _=>?_)):p:=h
theorem dataflowref46_reason.mono_l:∀ k,(∀ y0 y1,LeO (dataflowref46_reason.j0 k y0 y1) (dataflowref46_reason.j0 (k+1) y0 y1))∧(∀ y0 y1,LeO (dataflowref46_reason.l0 k y0 y1) (dataflowref46_reason.l0 (k+1) y0 y1))
 |0=>⟨fun _ _ r h=>by simp [dataflowref46_reason.j0] at h,fun _ _ r h=>by simp [dataflowref46_reason.l0] at h⟩
 |k+1=>by
  obtain⟨ih0,ih1⟩:=dataflowref46_reason.mono_l k;refine⟨?_,?_⟩
  ·intro y0 y1;unfold dataflowref46_reason.j0;exact m28_0
  ·intro y0 y1;unfold dataflowref46_reason.l0;exact m28_0
theorem dataflowref46_reason.mono:∀ a0 k,LeO (dataflowref46_reason.f k a0) (dataflowref46_reason.f (k+1) a0):=by
 intro a0 k;obtain⟨ih0,ih1⟩:=dataflowref46_reason.mono_l k;unfold dataflowref46_reason.f;exact m28_0
set_option maxHeartbeats 8000000 in
set_option maxRecDepth 100000 in
theorem dataflowref46_reason.calls(k:Nat)(a0:ByteArray)(r:Bool)(w:World)(h:dataflowref46_reason.f k a0=some r) :
  Calls Tryd.prog 28 #[.string a0] w fun e w'=>e=.returned (.bool r)∧Drawn0 w w':=by
 have H:(if (a0.size:Int)<1 then(dataflowref46_reason.j0 k a0 true) else(if (a0.size:Int)>200 then(dataflowref46_reason.j0 k a0 true) else(if 0<(a0.size:Int) then(if (bt a0 0)=32 then(dataflowref46_reason.j0 k a0 true) else(if 0≤(wrap64 ((a0.size:Int)-1)) then(if (wrap64 ((a0.size:Int)-1))<(a0.size:Int) then(dataflowref46_reason.j0 k a0 ((bt a0 (wrap64 ((a0.size:Int)-1)))==32)) else(none)) else(none))) else(none))))=some r:=h;clear h;have HC2:=Aside0.mk H;clear H;go_enter Tryd.func28,Tryd.ntmps28
 go_upto_region 1 with (fail)
 go_cut [24] (fun v24 wc=>∃ (kq:Nat) (x24_1:Bool),v24=.bool x24_1∧Aside0 (dataflowref46_reason.j0 kq a0 x24_1=some r)∧Aside0 (kq≤k)∧Drawn0 w wc)
 case first =>
  have H:=HC2.out;clear HC2
  by_cases c3:(a0.size:Int)<1
  ·rw [if_pos c3] at H;have c3b0:decide ((a0.size:Int)<1)=true:=decide_eq_true c3;have c3b1:decide (a0.size<1)=true:=decide_eq_true (by omega);clear c3
   (first|rw [c3b0]|(simp only [i64_w,i32_w];rw [c3b0])|skip)
   have H':=Aside0.mk H;clear H;go_wp2
   go_meet
   case rel=>exact⟨_,(true),fr_,H',⟨b28_1⟩,b28_2⟩
  ·rw [if_neg c3] at H;have c3b0:decide ((a0.size:Int)<1)=false:=decide_eq_false c3;have c3b1:decide (a0.size<1)=false:=decide_eq_false (by omega);clear c3
   (first|rw [c3b0]|(simp only [i64_w,i32_w];rw [c3b0])|skip)
   by_cases c4:(a0.size:Int)>200
   ·rw [if_pos c4] at H;have c4b0:decide (200<(a0.size:Int))=true:=decide_eq_true c4;have c4b1:decide (200<a0.size)=true:=decide_eq_true (by omega);clear c4;have H':=Aside0.mk H;clear H;go_wp2
    go_meet
    case rel=>exact⟨_,(true),fr_,H',⟨b28_1⟩,b28_2⟩
   ·rw [if_neg c4] at H;have c4b0:decide (200<(a0.size:Int))=false:=decide_eq_false c4;have c4b1:decide (200<a0.size)=false:=decide_eq_false (by omega);clear c4
    by_cases c5:0<(a0.size:Int)
    ·rw [if_pos c5] at H;have c5b0:decide (0<(a0.size:Int))=true:=decide_eq_true c5;have c5b1:decide (0<a0.size)=true:=decide_eq_true (by omega);clear c5
     by_cases c7:(bt a0 0)=32
     ·rw [if_pos c7] at H;obtain⟨c7b0,c7b1⟩:=eqT_ c7;clear c7;have H':=Aside0.mk H;clear H;have p6:0≤(0:Int):=(by omega);have q6:0<a0.size:=(by have:(0:Int)<(a0.size:Int):=of_decide_eq_true as_;omega);have hx6:∀ h:0<a0.size,((a0[0]'h).toNat:Int)=bt a0 0:=bt_at a0 0;clear p6;have qi6:(0<(a0.size:Int))=True:=eq_true (of_decide_eq_true as_);replace q6:=eq_true q6;go_wp2
      go_meet
      case rel=>exact⟨_,(true),fr_,H',⟨b28_1⟩,b28_2⟩
     ·rw [if_neg c7] at H;obtain⟨c7b0,c7b1⟩:=eqF_ c7;obtain⟨ji8,hji8⟩:∃ j_:Int,(wrap64 ((a0.size:Int)-1))=j_:=⟨_,rfl⟩
      replace H:(if 0≤(ji8) then(if (ji8)<(a0.size:Int) then(dataflowref46_reason.j0 k a0 ((bt a0 (ji8))==32)) else(none)) else(none))=some r:=by first|(rw [hji8] at H;exact H)|(simp only [hji8] at H ⊢;exact H)
      have hji8w:(IntKind.i64.wrap ((a0.size:Int)-1))=ji8:=(i64_w _).trans hji8
      by_cases c9:0≤(ji8)
      ·rw [if_pos c9] at H;have c9b0:decide (0≤(ji8))=true:=decide_eq_true c9;clear c9
       by_cases c10:(ji8)<(a0.size:Int)
       ·rw [if_pos c10] at H;have c10b0:decide ((ji8)<(a0.size:Int))=true:=decide_eq_true c10;clear c10;have H':=Aside0.mk H;clear H;have p6:0≤(0:Int):=(by omega);have q6:0<a0.size:=(by have:(0:Int)<(a0.size:Int):=of_decide_eq_true as_;omega);have hx6:∀ h:0<a0.size,((a0[0]'h).toNat:Int)=bt a0 0:=bt_at a0 0;clear p6;have qi6:(0<(a0.size:Int))=True:=eq_true (of_decide_eq_true as_);replace q6:=eq_true q6;have p11:0≤((ji8):Int):=of_decide_eq_true as_;have q11:(ji8)<(a0.size:Int):=of_decide_eq_true as_;have hx11:=bt_at a0 (ji8);replace p11:=eq_true p11;replace q11:=eq_true q11;go_wp2
        go_meet
        case rel=>exact⟨_,(((bt a0 (ji8))==32)),(by first|rfl|(simp;done)|(simp only [← hji8] <;> (first|rfl|simp))|(simp [*];done)),H',⟨b28_1⟩,b28_2⟩
       ·rw [if_neg c10] at H;exact absurd H (by simp)
      ·rw [if_neg c9] at H;exact absurd H (by simp)
    ·rw [if_neg c5] at H;exact absurd H (by simp)
 case rest =>
  clear HC2;(try clear c1);(try clear p1);(try clear q1);(try clear hx1);(try clear c2);(try clear p2);(try clear c3);(try clear c3b0);(try clear c3b1);(try clear c4);(try clear c4b0);(try clear c4b1);(try clear c5);(try clear c5b0);(try clear c5b1);(try clear p6);(try clear q6);(try clear hx6);(try clear qi6);(try clear c7);(try clear c7b0);(try clear c7b1);(try clear c9);(try clear c9b0);(try clear c10);(try clear c10b0);(try clear p11);(try clear q11);(try clear hx11);(try clear p11);(try clear p6);(try clear q11);(try clear q6);obtain⟨kq,x24_1,rfl,HA,HJ1,⟨mc1,rfl⟩⟩:=hcut
  cases kq with
  |zero=>exact absurd HA.out (by simp [dataflowref46_reason.j0])
  |succ kj1 =>
   have H:=HA.out;clear HA;simp only [dataflowref46_reason.j0] at H
   by_cases c12:x24_1=true
   ·subst c12;rw [if_pos rfl] at H;obtain rfl:=Option.some.inj H;go_wp2;go_ret;exact⟨fr_,b28_2⟩
   ·replace c12:=Bool.eq_false_iff.mpr c12;subst c12;rw [if_neg nf_] at H;have H':=Aside0.mk H;clear H;go_wp2
    go_loopg [3] kj1 (fun kq v3 w'=>∃ (x3_2:Int),v3=.int .i64 x3_2∧Aside0 (dataflowref46_reason.l0 kq a0 x3_2=some r)∧Aside0 (kq≤kj1)∧Drawn0 w w')
    case atStart=>exact⟨(0),fr_,H',⟨Nat.le_refl _⟩,b28_2⟩
    case round =>
     clear H';(try clear c1);(try clear p1);(try clear q1);(try clear hx1);(try clear c2);(try clear p2);(try clear c3);(try clear c3b0);(try clear c3b1);(try clear c4);(try clear c4b0);(try clear c4b1);(try clear c5);(try clear c5b0);(try clear c5b1);(try clear p6);(try clear q6);(try clear hx6);(try clear qi6);(try clear c7);(try clear c7b0);(try clear c7b1);(try clear c9);(try clear c9b0);(try clear c10);(try clear c10b0);(try clear p11);(try clear q11);(try clear hx11);(try clear c12);(try clear p1);(try clear p11);(try clear p2);(try clear p6);(try clear q1);(try clear q11);(try clear q6);obtain⟨x3_2,rfl,HA,HK2,⟨m2,rfl⟩⟩:=hrel
     cases gk with
     |zero=>exact absurd HA.out (by simp [dataflowref46_reason.l0])
     |succ k2 =>
      have H:=HA.out;clear HA;simp only [dataflowref46_reason.l0] at H
      by_cases c13:x3_2<(a0.size:Int)
      ·rw [if_pos c13] at H;have c13b0:decide (x3_2<(a0.size:Int))=true:=decide_eq_true c13;clear c13
       by_cases c14:0≤x3_2
       ·rw [if_pos c14] at H;have c14b0:decide (0≤x3_2)=true:=decide_eq_true c14;clear c14
        by_cases c16:(bt a0 x3_2)<32
        ·rw [if_pos c16] at H;have c16b0:decide ((bt a0 x3_2)<32)=true:=decide_eq_true c16;clear c16;obtain rfl:=Option.some.inj H;have p15:0≤(x3_2:Int):=of_decide_eq_true as_;have q15:x3_2<(a0.size:Int):=of_decide_eq_true as_;have hx15:=bt_at a0 x3_2;replace p15:=eq_true p15;replace q15:=eq_true q15;go_wp2;go_ret;exact⟨fr_,b28_2⟩
        ·rw [if_neg c16] at H;have c16b0:decide ((bt a0 x3_2)<32)=false:=decide_eq_false c16;clear c16
         by_cases c18:(bt a0 x3_2)>126
         ·rw [if_pos c18] at H;have c18b0:decide (126<(bt a0 x3_2))=true:=decide_eq_true c18;clear c18;obtain rfl:=Option.some.inj H;have p15:0≤(x3_2:Int):=of_decide_eq_true as_;have q15:x3_2<(a0.size:Int):=of_decide_eq_true as_;have hx15:=bt_at a0 x3_2;replace p15:=eq_true p15;replace q15:=eq_true q15;have p17:0≤(x3_2:Int):=of_decide_eq_true as_;have q17:x3_2<(a0.size:Int):=of_decide_eq_true as_;have hx17:=bt_at a0 x3_2;replace p17:=eq_true p17;replace q17:=eq_true q17;go_wp2;go_ret;exact⟨fr_,b28_2⟩
         ·rw [if_neg c18] at H;have c18b0:decide (126<(bt a0 x3_2))=false:=decide_eq_false c18;clear c18;have H':=Aside0.mk H;clear H;have p15:0≤(x3_2:Int):=of_decide_eq_true as_;have q15:x3_2<(a0.size:Int):=of_decide_eq_true as_;have hx15:=bt_at a0 x3_2;replace p15:=eq_true p15;replace q15:=eq_true q15;have p17:0≤(x3_2:Int):=of_decide_eq_true as_;have q17:x3_2<(a0.size:Int):=of_decide_eq_true as_;have hx17:=bt_at a0 x3_2;replace p17:=eq_true p17;replace q17:=eq_true q17;go_wp2
          go_roundg k2
          case measure=>have:=HJ1.out;have:=HK2.out;omega
          case rel=>exact⟨(wrap64 (x3_2+1)),fr_,H',⟨(by have:=HJ1.out;have:=HK2.out;omega)⟩,b28_2⟩
       ·rw [if_neg c14] at H;exact absurd H (by simp)
      ·rw [if_neg c13] at H;have c13b0:decide (x3_2<(a0.size:Int))=false:=decide_eq_false c13;clear c13;obtain rfl:=Option.some.inj H;go_wp2;go_ret;exact⟨fr_,b28_2⟩
end Go.Proofs.YtnoangbidnigdaaDoor.H

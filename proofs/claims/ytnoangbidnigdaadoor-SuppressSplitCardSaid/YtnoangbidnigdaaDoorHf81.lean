/- Printed (xprint.py): Go functions as Lean functions, each with the proof that its call does what the Lean function says. -/
import Derived.Test.YtnoangbidnigdaaDoorH0
import Derived.Test.YtnoangbidnigdaaDoorHa
namespace Go.Proofs.YtnoangbidnigdaaDoor.H
open Go.RowKit Go.Proofs.YtnoangbidnigdaaDoorW.PrintWords Go.Proofs.YtnoangbidnigdaaDoorW.PrintLast Go.Proofs.YtnoangbidnigdaaDoorW.PrintMore
attribute [local go_sem] max2_int min2_int max_two min_two max_three min_three max_four min_four   -- for this text's walks alone
set_option linter.unusedVariables false
set_option linter.unusedSimpArgs false
/-! ### finding_named: function 81 -/
mutual
def finding_named.j0:Nat→Bool→Int→ByteArray→ByteArray→Int→ByteArray→List (S25)→Option (Bool)
 |0,_,_,_,_,_,_,_=>none
 |k+1,x12,x82002000,x82002001,x82002002,x82002003,x82002004,x82002005=>if x12=true then(some false) else(finding_named.l0 k (x82002004.size:Int) 0 x82002000 x82002001 x82002002 x82002003 x82002004 x82002005)
def finding_named.l0:Nat→Int→Int→Int→ByteArray→ByteArray→Int→ByteArray→List (S25)→Option (Bool)
 |0,_,_,_,_,_,_,_,_=>none
 |k+1,x15,x16,x82002000,x82002001,x82002002,x82002003,x82002004,x82002005=>if x16<x15 then(if 0≤x16 then(if x16<(x82002004.size:Int) then(if (bt x82002004 x16)<33 then(some false) else(if (bt x82002004 x16)>126 then(some false) else(finding_named.l0 k x15 (wrap64 (x16+1)) x82002000 x82002001 x82002002 x82002003 x82002004 x82002005))) else(none)) else(none)) else(if x82002000=2 then(finding_named.j2 k x82002000 (x82002000==2) x82002000 x82002001 x82002002 x82002003 x82002004 x82002005) else(finding_named.j2 k x82002000 (x82002000==3) x82002000 x82002001 x82002002 x82002003 x82002004 x82002005))
def finding_named.j2:Nat→Int→Bool→Int→ByteArray→ByteArray→Int→ByteArray→List (S25)→Option (Bool)
 |0,_,_,_,_,_,_,_,_=>none
 |k+1,x33,x34,x82002000,x82002001,x82002002,x82002003,x82002004,x82002005=>if x34=true then((lex_Ident.f k x82002004).bind fun t82002=>(some t82002)) else(if x33=4 then(if x82002004.toList=([116,114,117,101]:List UInt8) then(some true) else(some (x82002004.toList==([102,97,108,115,101]:List UInt8)))) else(some true))
end
def finding_named.f(k:Nat)(a0_0:Int)(a0_1:ByteArray)(a0_2:ByteArray)(a0_3:Int)(a0_4:ByteArray)(l0_5:List (S25)):Option (Bool):=if a0_4.toList=([]:List UInt8) then(finding_named.j0 k true a0_0 a0_1 a0_2 a0_3 a0_4 l0_5) else(finding_named.j0 k (decide ((a0_4.size:Int)>32)) a0_0 a0_1 a0_2 a0_3 a0_4 l0_5)
theorem b81_1{p:Prop}(h:p:=by(with_reducible repeat(first|refine blk_drewN ?_ _|refine blk_drew ?_|refine blk_alloc ?_ _));exact BK82001.out):p:=h
theorem b81_2{p:Prop}(h:p:=by repeat(first|(with_reducible first|exact HB.out|apply below_alloc|apply pw_below_drewN|apply below_drew1|refine below_set ?_ GE82001.out)|exact HB.out)):p:=h
theorem m81_0{p:Prop}(h:p:=by repeat' first|(with_reducible exact ih0 _ _ _ _ _ _ _)|(with_reducible exact ih1 _ _ _ _ _ _ _ _)|(with_reducible exact ih2 _ _ _ _ _ _ _ _)|(with_reducible exact lex_Ident.mono _ _)|(with_reducible exact LeO.refl _)|(with_reducible exact LeO.none _)|(with_reducible refine LeO.ite ?_ ?_)|(with_reducible refine LeO.bind ?_ (fun _=>?_))|exact ih0 _ _ _ _ _ _ _|exact ih1 _ _ _ _ _ _ _ _|exact ih2 _ _ _ _ _ _ _ _|exact lex_Ident.mono _ _|exact LeO.none _|refine LeO.ite ?_ ?_|refine LeO.bind ?_ (fun _=>?_)):p:=h
theorem finding_named.mono_l:∀ k,(∀ y0 y1 y2 y3 y4 y5 y6,LeO (finding_named.j0 k y0 y1 y2 y3 y4 y5 y6) (finding_named.j0 (k+1) y0 y1 y2 y3 y4 y5 y6))∧(∀ y0 y1 y2 y3 y4 y5 y6 y7,LeO (finding_named.l0 k y0 y1 y2 y3 y4 y5 y6 y7) (finding_named.l0 (k+1) y0 y1 y2 y3 y4 y5 y6 y7))∧(∀ y0 y1 y2 y3 y4 y5 y6 y7,LeO (finding_named.j2 k y0 y1 y2 y3 y4 y5 y6 y7) (finding_named.j2 (k+1) y0 y1 y2 y3 y4 y5 y6 y7))
 |0=>⟨fun _ _ _ _ _ _ _ r h=>by simp [finding_named.j0] at h,fun _ _ _ _ _ _ _ _ r h=>by simp [finding_named.l0] at h,fun _ _ _ _ _ _ _ _ r h=>by simp [finding_named.j2] at h⟩
 |k+1=>by
  obtain⟨ih0,ih1,ih2⟩:=finding_named.mono_l k;refine⟨?_,?_,?_⟩
  ·intro y0 y1 y2 y3 y4 y5 y6;unfold finding_named.j0;exact m81_0
  ·intro y0 y1 y2 y3 y4 y5 y6 y7;unfold finding_named.l0;exact m81_0
  ·intro y0 y1 y2 y3 y4 y5 y6 y7;unfold finding_named.j2;exact m81_0
theorem finding_named.mono:∀ a0 a1 a2 a3 a4 a5 k,LeO (finding_named.f k a0 a1 a2 a3 a4 a5) (finding_named.f (k+1) a0 a1 a2 a3 a4 a5):=by
 intro a0 a1 a2 a3 a4 a5 k;obtain⟨ih0,ih1,ih2⟩:=finding_named.mono_l k;unfold finding_named.f;exact m81_0
set_option maxHeartbeats 8000000 in
set_option maxRecDepth 100000 in
theorem finding_named.calls(k:Nat)(a0_0:Int)(a0_1:ByteArray)(a0_2:ByteArray)(a0_3:Int)(a0_4:ByteArray)(A0_5:Option Addr)(c0_5:Nat)(l0_5:List (S25))(r:Bool)(w:World)(hr0_5:Kd.C k25 w A0_5 l0_5.length l0_5)(hc0_5:l0_5.length≤c0_5)(hgh:Gh w)(h:finding_named.f k a0_0 a0_1 a0_2 a0_3 a0_4 l0_5=some r) :
  Calls Tryd.prog 81 #[.agg #[.int .i64 a0_0,.string a0_1,.string a0_2,.int .i64 a0_3,.string a0_4,.slice A0_5 l0_5.length c0_5]] w fun e w'=>e=.returned (.bool r)∧Below w.heap.size w w':=by
 have hu28:=Tryd.underlying28;have HR0_5:=Aside0.mk hr0_5;have HC0_5:=Aside0.mk hc0_5;clear hr0_5 hc0_5;have HB:=Aside0.mk (Below.refl w.heap.size w);have HGH:=Aside0.mk hgh;clear hgh;have H:(if a0_4.toList=([]:List UInt8) then(finding_named.j0 k true a0_0 a0_1 a0_2 a0_3 a0_4 l0_5) else(finding_named.j0 k (decide ((a0_4.size:Int)>32)) a0_0 a0_1 a0_2 a0_3 a0_4 l0_5))=some r:=h;clear h;have HC2:=Aside0.mk H;clear H;go_enter Tryd.func81,Tryd.ntmps81
 go_upto_region 1 with (first|((with_reducible refine gate_dst (N:=1) rfl ?_);(try(refine gate_guard (by rfl) ?_;dsimp only));refine box_event ?hg (N:=1) ?hd (cs:=#[.int .i64 a0_0,.string a0_1,.string a0_2,.int .i64 a0_3,.string a0_4,.slice A0_5 l0_5.length c0_5]) (t:=28) ?hr ?_;(case hd=>rfl);(case hg=>rfl);(case hr=>first|(go_simp;done)|(go_simp;rfl));intro gb82001 hg w3 hbox hb;have n_:=as4_ (below_step bl_ hb) hbox ((by rw [hg];exact(below_size bl_):w.heap.size≤gb82001)) ((by rw [hg];exact(below_size bl_):w.heap.size≤gb82001));clear HB;obtain⟨HB,BK82001,GW82001,GE82001⟩:=n_;clear hb hbox hg))
 (try simp only [Act.put,List.setIfInBounds_toArray,List.set_cons_zero,List.set_cons_succ])
 go_cut [12] (fun v12 wc=>∃ (kq:Nat) (x12_1:Bool),v12=.bool x12_1∧Aside0 (finding_named.j0 kq x12_1 a0_0 a0_1 a0_2 a0_3 a0_4 l0_5=some r)∧Aside0 (kq≤k)∧Aside0 (wc.heap[gb82001]?=some (.cells #[.int .i64 a0_0,.string a0_1,.string a0_2,.int .i64 a0_3,.string a0_4,(.slice A0_5 l0_5.length c0_5)] 28 (0,0)))∧Aside0 (Below w.heap.size w wc))
 case first =>
  have H:=HC2.out;clear HC2
  by_cases c4:a0_4.toList=([]:List UInt8)
  ·rw [if_pos c4] at H;obtain⟨c4b0,c4b1⟩:=eqT_ c4;clear c4
   (first|rw [c4b0]|(simp only [i64_w,i32_w];rw [c4b0])|skip)
   have H':=Aside0.mk H;clear H;obtain⟨hcz5_0,hcz5_1,hcz5_2,hcz5_3,hcz5_4,hcz5_5,hfz5_0,hfz5_1,hfz5_2,hfz5_3,hfz5_4,hfz5_5⟩:=cz6_ BK82001.out;go_wp2
   go_meet
   case rel=>exact⟨_,(true),fr_,H',⟨(by first|omega|exact Nat.le_refl _)⟩,⟨b81_1⟩,⟨b81_2⟩⟩
  ·rw [if_neg c4] at H;obtain⟨c4b0,c4b1⟩:=eqF_ c4
   (first|rw [c4b0]|(simp only [i64_w,i32_w];rw [c4b0])|skip)
   have H':=Aside0.mk H;clear H;obtain⟨hcz6_0,hcz6_1,hcz6_2,hcz6_3,hcz6_4,hcz6_5,hfz6_0,hfz6_1,hfz6_2,hfz6_3,hfz6_4,hfz6_5⟩:=cz6_ BK82001.out;go_wp2
   go_meet
   case rel=>exact⟨_,(decide ((a0_4.size:Int)>32)),fr_,H',⟨(by first|omega|exact Nat.le_refl _)⟩,⟨b81_1⟩,⟨b81_2⟩⟩
 case rest =>
  clear HC2;(try clear p2);(try clear c4);(try clear c4b0);(try clear c4b1);(try clear hcz5_0 hcz5_1 hcz5_2 hcz5_3 hcz5_4 hcz5_5);(try clear hcz6_0 hcz6_1 hcz6_2 hcz6_3 hcz6_4 hcz6_5);(try clear hfz5_0 hfz5_1 hfz5_2 hfz5_3 hfz5_4 hfz5_5);(try clear hfz6_0 hfz6_1 hfz6_2 hfz6_3 hfz6_4 hfz6_5);obtain⟨kq,x12_1,rfl,HA,HJ1,BK82001,HB⟩:=hcut
  cases kq with
  |zero=>exact absurd HA.out (by simp [finding_named.j0])
  |succ kj1 =>
   have H:=HA.out;clear HA;simp only [finding_named.j0] at H
   by_cases c7:x12_1=true
   ·subst c7;rw [if_pos rfl] at H;obtain rfl:=Option.some.inj H;go_wp2;go_ret;exact⟨er_,b81_2⟩
   ·replace c7:=Bool.eq_false_iff.mpr c7;subst c7;rw [if_neg nf_] at H;have H':=Aside0.mk H;clear H;obtain⟨hcz8_0,hcz8_1,hcz8_2,hcz8_3,hcz8_4,hcz8_5,hfz8_0,hfz8_1,hfz8_2,hfz8_3,hfz8_4,hfz8_5⟩:=cz6_ BK82001.out;go_wp2
    go_loopg [16] kj1 (fun kq v16 w'=>∃ (x16_2:Int),v16=.int .i64 x16_2∧Aside0 (finding_named.l0 kq (a0_4.size:Int) x16_2 a0_0 a0_1 a0_2 a0_3 a0_4 l0_5=some r)∧Aside0 (kq≤kj1)∧Aside0 (w'.heap[gb82001]?=some (.cells #[.int .i64 a0_0,.string a0_1,.string a0_2,.int .i64 a0_3,.string a0_4,(.slice A0_5 l0_5.length c0_5)] 28 (0,0)))∧Aside0 (Below w.heap.size w w'))
    case atStart=>exact⟨(0),fr_,H',⟨Nat.le_refl _⟩,⟨b81_1⟩,⟨b81_2⟩⟩
    case round =>
     clear H';(try clear p2);(try clear c4);(try clear c4b0);(try clear c4b1);(try clear c7);(try clear c8);(try clear hcz5_0 hcz5_1 hcz5_2 hcz5_3 hcz5_4 hcz5_5);(try clear hcz6_0 hcz6_1 hcz6_2 hcz6_3 hcz6_4 hcz6_5);(try clear hcz8_0 hcz8_1 hcz8_2 hcz8_3 hcz8_4 hcz8_5);(try clear hfz5_0 hfz5_1 hfz5_2 hfz5_3 hfz5_4 hfz5_5);(try clear hfz6_0 hfz6_1 hfz6_2 hfz6_3 hfz6_4 hfz6_5);(try clear hfz8_0 hfz8_1 hfz8_2 hfz8_3 hfz8_4 hfz8_5);(try clear p2);obtain⟨x16_2,rfl,HA,HK2,BK82001,HB⟩:=hrel
     cases gk with
     |zero=>exact absurd HA.out (by simp [finding_named.l0])
     |succ k2 =>
      have H:=HA.out;clear HA;simp only [finding_named.l0] at H
      by_cases c9:x16_2<(a0_4.size:Int)
      ·rw [if_pos c9] at H;have c9b0:decide (x16_2<(a0_4.size:Int))=true:=decide_eq_true c9;clear c9
       by_cases c10:0≤x16_2
       ·rw [if_pos c10] at H;have c10b0:decide (0≤x16_2)=true:=decide_eq_true c10;clear c10
        by_cases c11:x16_2<(a0_4.size:Int)
        ·rw [if_pos c11] at H;have c11b0:decide (x16_2<(a0_4.size:Int))=true:=decide_eq_true c11;clear c11
         by_cases c13:(bt a0_4 x16_2)<33
         ·rw [if_pos c13] at H;have c13b0:decide ((bt a0_4 x16_2)<33)=true:=decide_eq_true c13;clear c13;obtain rfl:=Option.some.inj H;obtain⟨hcz14_0,hcz14_1,hcz14_2,hcz14_3,hcz14_4,hcz14_5,hfz14_0,hfz14_1,hfz14_2,hfz14_3,hfz14_4,hfz14_5⟩:=cz6_ BK82001.out;have p12:0≤(x16_2:Int):=of_decide_eq_true as_;have q12:x16_2<(a0_4.size:Int):=of_decide_eq_true as_;have hx12:=bt_at a0_4 x16_2;replace p12:=eq_true p12;replace q12:=eq_true q12;go_wp2;go_ret;exact⟨er_,b81_2⟩
         ·rw [if_neg c13] at H;have c13b0:decide ((bt a0_4 x16_2)<33)=false:=decide_eq_false c13;clear c13
          by_cases c16:(bt a0_4 x16_2)>126
          ·rw [if_pos c16] at H;have c16b0:decide (126<(bt a0_4 x16_2))=true:=decide_eq_true c16;clear c16;obtain rfl:=Option.some.inj H;obtain⟨hcz17_0,hcz17_1,hcz17_2,hcz17_3,hcz17_4,hcz17_5,hfz17_0,hfz17_1,hfz17_2,hfz17_3,hfz17_4,hfz17_5⟩:=cz6_ BK82001.out;have p12:0≤(x16_2:Int):=of_decide_eq_true as_;have q12:x16_2<(a0_4.size:Int):=of_decide_eq_true as_;have hx12:=bt_at a0_4 x16_2;replace p12:=eq_true p12;replace q12:=eq_true q12;have p15:0≤(x16_2:Int):=of_decide_eq_true as_;have q15:x16_2<(a0_4.size:Int):=of_decide_eq_true as_;have hx15:=bt_at a0_4 x16_2;replace p15:=eq_true p15;replace q15:=eq_true q15;go_wp2;go_ret;exact⟨er_,b81_2⟩
          ·rw [if_neg c16] at H;have c16b0:decide (126<(bt a0_4 x16_2))=false:=decide_eq_false c16;clear c16;have H':=Aside0.mk H;clear H;obtain⟨hcz18_0,hcz18_1,hcz18_2,hcz18_3,hcz18_4,hcz18_5,hfz18_0,hfz18_1,hfz18_2,hfz18_3,hfz18_4,hfz18_5⟩:=cz6_ BK82001.out;have p12:0≤(x16_2:Int):=of_decide_eq_true as_;have q12:x16_2<(a0_4.size:Int):=of_decide_eq_true as_;have hx12:=bt_at a0_4 x16_2;replace p12:=eq_true p12;replace q12:=eq_true q12;have p15:0≤(x16_2:Int):=of_decide_eq_true as_;have q15:x16_2<(a0_4.size:Int):=of_decide_eq_true as_;have hx15:=bt_at a0_4 x16_2;replace p15:=eq_true p15;replace q15:=eq_true q15;go_wp2
           go_roundg k2
           case measure=>have:=HJ1.out;have:=HK2.out;omega
           case rel=>exact⟨(wrap64 (x16_2+1)),fr_,H',⟨(by have:=HJ1.out;have:=HK2.out;omega)⟩,⟨b81_1⟩,⟨b81_2⟩⟩
        ·rw [if_neg c11] at H;exact absurd H (by simp)
       ·rw [if_neg c10] at H;exact absurd H (by simp)
      ·rw [if_neg c9] at H;have c9b0:decide (x16_2<(a0_4.size:Int))=false:=decide_eq_false c9;clear c9;have HC19:=Aside0.mk H;clear H;obtain⟨hcz20_0,hcz20_1,hcz20_2,hcz20_3,hcz20_4,hcz20_5,hfz20_0,hfz20_1,hfz20_2,hfz20_3,hfz20_4,hfz20_5⟩:=cz6_ BK82001.out
       go_upto_if 34 with (fail)
       go_cut [34] (fun v34 wc=>∃ (kq:Nat) (x34_18:Bool),v34=.bool x34_18∧Aside0 (finding_named.j2 kq a0_0 x34_18 a0_0 a0_1 a0_2 a0_3 a0_4 l0_5=some r)∧Aside0 (kq≤k2)∧Aside0 (wc.heap[gb82001]?=some (.cells #[.int .i64 a0_0,.string a0_1,.string a0_2,.int .i64 a0_3,.string a0_4,(.slice A0_5 l0_5.length c0_5)] 28 (0,0)))∧Aside0 (Below w.heap.size w wc))
       case first =>
        have H:=HC19.out;clear HC19
        by_cases c21:a0_0=2
        ·rw [if_pos c21] at H;obtain⟨c21b0,c21b1⟩:=eqT_ c21;clear c21
         (first|rw [c21b0]|(simp only [i64_w,i32_w];rw [c21b0])|skip)
         have H':=Aside0.mk H;clear H;go_wp2
         go_meet
         case rel=>exact⟨_,((a0_0==2)),fr_,H',⟨(by have:=HJ1.out;have:=HK2.out;first|omega|exact Nat.le_refl _)⟩,⟨b81_1⟩,⟨b81_2⟩⟩
        ·rw [if_neg c21] at H;obtain⟨c21b0,c21b1⟩:=eqF_ c21
         (first|rw [c21b0]|(simp only [i64_w,i32_w];rw [c21b0])|skip)
         have H':=Aside0.mk H;clear H;go_wp2
         go_meet
         case rel=>exact⟨_,((a0_0==3)),fr_,H',⟨(by have:=HJ1.out;have:=HK2.out;first|omega|exact Nat.le_refl _)⟩,⟨b81_1⟩,⟨b81_2⟩⟩
       case rest =>
        clear HC19;(try clear c1);(try clear p1);(try clear q1);(try clear hx1);(try clear c2);(try clear p2);(try clear c4);(try clear c4b0);(try clear c4b1);(try clear p6);(try clear c7);(try clear c8);(try clear c9);(try clear c9b0);(try clear c10);(try clear c10b0);(try clear c11);(try clear c11b0);(try clear p12);(try clear q12);(try clear hx12);(try clear c13);(try clear c13b0);(try clear p15);(try clear q15);(try clear hx15);(try clear c16);(try clear c16b0);(try clear c21);(try clear c21b0);(try clear c21b1);(try clear hcz14_0 hcz14_1 hcz14_2 hcz14_3 hcz14_4 hcz14_5);(try clear hcz17_0 hcz17_1 hcz17_2 hcz17_3 hcz17_4 hcz17_5);(try clear hcz18_0 hcz18_1 hcz18_2 hcz18_3 hcz18_4 hcz18_5);(try clear hcz20_0 hcz20_1 hcz20_2 hcz20_3 hcz20_4 hcz20_5);(try clear hcz5_0 hcz5_1 hcz5_2 hcz5_3 hcz5_4 hcz5_5);(try clear hcz6_0 hcz6_1 hcz6_2 hcz6_3 hcz6_4 hcz6_5);(try clear hcz8_0 hcz8_1 hcz8_2 hcz8_3 hcz8_4 hcz8_5);(try clear hfz14_0 hfz14_1 hfz14_2 hfz14_3 hfz14_4 hfz14_5);(try clear hfz17_0 hfz17_1 hfz17_2 hfz17_3 hfz17_4 hfz17_5);(try clear hfz18_0 hfz18_1 hfz18_2 hfz18_3 hfz18_4 hfz18_5);(try clear hfz20_0 hfz20_1 hfz20_2 hfz20_3 hfz20_4 hfz20_5);(try clear hfz5_0 hfz5_1 hfz5_2 hfz5_3 hfz5_4 hfz5_5);(try clear hfz6_0 hfz6_1 hfz6_2 hfz6_3 hfz6_4 hfz6_5);(try clear hfz8_0 hfz8_1 hfz8_2 hfz8_3 hfz8_4 hfz8_5);(try clear p12);(try clear p15);(try clear p2);(try clear q12);(try clear q15);obtain⟨kq,x34_18,rfl,HA,HJ18,BK82001,HB⟩:=hcut
        cases kq with
        |zero=>exact absurd HA.out (by simp [finding_named.j2])
        |succ kj18 =>
         have H:=HA.out;clear HA;simp only [finding_named.j2] at H
         by_cases c22:x34_18=true
         ·subst c22;rw [if_pos rfl] at H;replace H:=Option.bind_eq_some_iff.mp H;obtain⟨t82002,A230,H⟩:=H;have A23:=Aside0.mk A230;clear A230;obtain rfl:=Option.some.inj H;obtain⟨hcz24_0,hcz24_1,hcz24_2,hcz24_3,hcz24_4,hcz24_5,hfz24_0,hfz24_1,hfz24_2,hfz24_3,hfz24_4,hfz24_5⟩:=cz6_ BK82001.out
          go_wp2_with (first|((with_reducible refine gate_callee (f:=49) rfl ?_);refine goesL_ (some 39) rfl rfl Tryd.func49 (by kernel_rfl) rfl #[.string a0_4] rfl mp_ ?_;(with_reducible refine(lex_Ident.calls kj18 a0_4 t82002 _ ?side1 A23.out).mono ?_);(case side1=>exact Gh.below HGH.out b81_2);rintro e w' ⟨rfl,⟨nd,rfl⟩⟩;refine⟨_,rfl,?_⟩))
          go_ret;exact⟨er_,b81_2⟩
         ·replace c22:=Bool.eq_false_iff.mpr c22;subst c22;rw [if_neg nf_] at H
          by_cases c25:a0_0=4
          ·rw [if_pos c25] at H;obtain⟨c25b0,c25b1⟩:=eqT_ c25;clear c25
           by_cases c26:a0_4.toList=([116,114,117,101]:List UInt8)
           ·rw [if_pos c26] at H;obtain⟨c26b0,c26b1⟩:=eqT_ c26;clear c26;obtain rfl:=Option.some.inj H;obtain⟨hcz27_0,hcz27_1,hcz27_2,hcz27_3,hcz27_4,hcz27_5,hfz27_0,hfz27_1,hfz27_2,hfz27_3,hfz27_4,hfz27_5⟩:=cz6_ BK82001.out;go_wp2;go_ret;exact⟨er_,b81_2⟩
           ·rw [if_neg c26] at H;obtain⟨c26b0,c26b1⟩:=eqF_ c26;obtain rfl:=Option.some.inj H;obtain⟨hcz28_0,hcz28_1,hcz28_2,hcz28_3,hcz28_4,hcz28_5,hfz28_0,hfz28_1,hfz28_2,hfz28_3,hfz28_4,hfz28_5⟩:=cz6_ BK82001.out;go_wp2;go_ret;exact⟨er_,b81_2⟩
          ·rw [if_neg c25] at H;obtain⟨c25b0,c25b1⟩:=eqF_ c25;obtain rfl:=Option.some.inj H;go_wp2;go_ret;exact⟨er_,b81_2⟩
end Go.Proofs.YtnoangbidnigdaaDoor.H

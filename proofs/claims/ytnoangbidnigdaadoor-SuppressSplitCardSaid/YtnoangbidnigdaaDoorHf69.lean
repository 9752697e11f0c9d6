/- Printed (xprint.py): Go functions as Lean functions, each with the proof that its call does what the Lean function says. -/
import Derived.Test.YtnoangbidnigdaaDoorH0
import Derived.Test.YtnoangbidnigdaaDoorHa
namespace Go.Proofs.YtnoangbidnigdaaDoor.H
open Go.RowKit Go.Proofs.YtnoangbidnigdaaDoorW.PrintWords Go.Proofs.YtnoangbidnigdaaDoorW.PrintLast Go.Proofs.YtnoangbidnigdaaDoorW.PrintMore
attribute [local go_sem] max2_int min2_int max_two min_two max_three min_three max_four min_four   -- for this text's walks alone
set_option linter.unusedVariables false
set_option linter.unusedSimpArgs false
/-! ### dataflowref45_CheckPlace: function 69 -/
def dataflowref45_CheckPlace.j0:Nat→Bool→ByteArray→ByteArray→Int→Option (Int)
 |0,_,_,_,_=>none
 |k+1,x12,x70002000,x70002001,x70002002=>if x12=true then(some 5) else(if x70002002<0 then(some 4) else(if x70002002≥1024 then(some 4) else(some 0)))
def dataflowref45_CheckPlace.f(k:Nat)(a0_0:ByteArray)(a0_1:ByteArray)(a0_2:Int):Option (Int):=(dataflowref07_Ident.f k a0_0).bind fun t70002=>(if t70002=true then((dataflowref07_Ident.f k a0_1).bind fun t70003=>(dataflowref45_CheckPlace.j0 k (!t70003) a0_0 a0_1 a0_2)) else(dataflowref45_CheckPlace.j0 k true a0_0 a0_1 a0_2))
theorem b69_1{p:Prop}(h:p:=by(with_reducible repeat(first|refine blk_drewN ?_ _|refine blk_drew ?_|refine blk_alloc ?_ _));exact BK70001.out):p:=h
theorem b69_2{p:Prop}(h:p:=by repeat(first|(with_reducible first|exact HB.out|apply below_alloc|apply pw_below_drewN|apply below_drew1|refine below_set ?_ GE70001.out)|exact HB.out)):p:=h
theorem m69_0{p:Prop}(h:p:=by repeat' first|(with_reducible exact ih0 _ _ _ _)|(with_reducible exact dataflowref07_Ident.mono _ _)|(with_reducible exact LeO.refl _)|(with_reducible exact LeO.none _)|(with_reducible refine LeO.ite ?_ ?_)|(with_reducible refine LeO.bind ?_ (fun _=>?_))|exact ih0 _ _ _ _|exact dataflowref07_Ident.mono _ _|exact LeO.none _|refine LeO.ite ?_ ?_|refine LeO.bind ?_ (fun _=>?_)):p:=h
theorem dataflowref45_CheckPlace.mono_l:∀ k,(∀ y0 y1 y2 y3,LeO (dataflowref45_CheckPlace.j0 k y0 y1 y2 y3) (dataflowref45_CheckPlace.j0 (k+1) y0 y1 y2 y3))
 |0=>fun _ _ _ _ r h=>by simp [dataflowref45_CheckPlace.j0] at h
 |k+1=>by
  have ih0:=dataflowref45_CheckPlace.mono_l k
  ·intro y0 y1 y2 y3;unfold dataflowref45_CheckPlace.j0;exact m69_0
theorem dataflowref45_CheckPlace.mono:∀ a0 a1 a2 k,LeO (dataflowref45_CheckPlace.f k a0 a1 a2) (dataflowref45_CheckPlace.f (k+1) a0 a1 a2):=by
 intro a0 a1 a2 k;have ih0:=dataflowref45_CheckPlace.mono_l k;unfold dataflowref45_CheckPlace.f;exact m69_0
set_option maxHeartbeats 8000000 in
set_option maxRecDepth 100000 in
theorem dataflowref45_CheckPlace.calls(k:Nat)(a0_0:ByteArray)(a0_1:ByteArray)(a0_2:Int)(r:Int)(w:World)(h:dataflowref45_CheckPlace.f k a0_0 a0_1 a0_2=some r) :
  Calls Tryd.prog 69 #[.agg #[.string a0_0,.string a0_1,.int .i64 a0_2]] w fun e w'=>e=.returned (.int .i64 r)∧Below w.heap.size w w':=by
 have hu25:=Tryd.underlying25;have HB:=Aside0.mk (Below.refl w.heap.size w);have H:((dataflowref07_Ident.f k a0_0).bind fun t70002=>(if t70002=true then((dataflowref07_Ident.f k a0_1).bind fun t70003=>(dataflowref45_CheckPlace.j0 k (!t70003) a0_0 a0_1 a0_2)) else(dataflowref45_CheckPlace.j0 k true a0_0 a0_1 a0_2)))=some r:=h;clear h;have HC2:=Aside0.mk H;clear H;go_enter Tryd.func69,Tryd.ntmps69
 go_upto_region 1 with (first|((with_reducible refine gate_dst (N:=1) rfl ?_);refine box_event ?hg (N:=1) ?hd (cs:=#[.string a0_0,.string a0_1,.int .i64 a0_2]) (t:=25) ?hr ?_;(case hd=>rfl);(case hg=>rfl);(case hr=>first|(go_simp;done)|(go_simp;rfl));intro gb70001 hg w3 hbox hb;have n_:=as4_ (below_step bl_ hb) hbox ((by rw [hg];exact(below_size bl_):w.heap.size≤gb70001)) ((by rw [hg];exact(below_size bl_):w.heap.size≤gb70001));clear HB;obtain⟨HB,BK70001,GW70001,GE70001⟩:=n_;clear hb hbox hg))
 (try simp only [Act.put,List.setIfInBounds_toArray,List.set_cons_zero,List.set_cons_succ])
 go_cut [12] (fun v12 wc=>∃ (kq:Nat) (x12_1:Bool),v12=.bool x12_1∧Aside0 (dataflowref45_CheckPlace.j0 kq x12_1 a0_0 a0_1 a0_2=some r)∧Aside0 (kq≤k)∧Aside0 (wc.heap[gb70001]?=some (.cells #[.string a0_0,.string a0_1,.int .i64 a0_2] 25 (0,0)))∧Aside0 (Below w.heap.size w wc))
 case first =>
  have H:=HC2.out;clear HC2;replace H:=Option.bind_eq_some_iff.mp H;obtain⟨t70002,A40,H⟩:=H;have A4:=Aside0.mk A40;clear A40
  by_cases c5:t70002=true
  ·subst c5;rw [if_pos rfl] at H;replace H:=Option.bind_eq_some_iff.mp H;obtain⟨t70003,A60,H⟩:=H;have A6:=Aside0.mk A60;clear A60;have H':=Aside0.mk H;clear H;obtain⟨hcz7_0,hcz7_1,hcz7_2,hfz7_0,hfz7_1,hfz7_2⟩:=cz3_ BK70001.out
   go_wp2_with (first|((with_reducible refine gate_callee (f:=26) rfl ?_);refine goesL_ (some 5) rfl rfl Tryd.func26 (by kernel_rfl) rfl #[.string a0_0] rfl mp_ ?_;(with_reducible refine(dataflowref07_Ident.calls k a0_0 true _ A4.out).mono ?_);rintro e w8 ⟨rfl,hb⟩;refine⟨_,rfl,?_⟩;have n_:=as2_ (blk_below (g:=gb70001) (o:=.cells #[.string a0_0,.string a0_1,.int .i64 a0_2] 25 (0,0)) b69_1 hb) (below_step b69_2 hb);clear BK70001 HB;obtain⟨BK70001,HB⟩:=n_;(try clear hb);obtain⟨hcz9_0,hcz9_1,hcz9_2,hfz9_0,hfz9_1,hfz9_2⟩:=cz3_ BK70001.out)|(go_at_call 26;(with_reducible refine(dataflowref07_Ident.calls k a0_1 t70003 _ A6.out).mono ?_);rintro e w10 ⟨rfl,hb⟩;have n_:=as2_ (blk_below (g:=gb70001) (o:=.cells #[.string a0_0,.string a0_1,.int .i64 a0_2] 25 (0,0)) b69_1 hb) (below_step b69_2 hb);clear BK70001 HB;obtain⟨BK70001,HB⟩:=n_;(try clear hb)))
   go_meet
   case rel=>exact⟨_,(!t70003),fr_,H',⟨(by first|omega|exact Nat.le_refl _)⟩,⟨b69_1⟩,⟨b69_2⟩⟩
  ·replace c5:=Bool.eq_false_iff.mpr c5;subst c5;rw [if_neg nf_] at H;have H':=Aside0.mk H;clear H;obtain⟨hcz11_0,hcz11_1,hcz11_2,hfz11_0,hfz11_1,hfz11_2⟩:=cz3_ BK70001.out
   go_wp2_with (first|((with_reducible refine gate_callee (f:=26) rfl ?_);refine goesL_ (some 5) rfl rfl Tryd.func26 (by kernel_rfl) rfl #[.string a0_0] rfl mp_ ?_;(with_reducible refine(dataflowref07_Ident.calls k a0_0 false _ A4.out).mono ?_);rintro e w12 ⟨rfl,hb⟩;refine⟨_,rfl,?_⟩;have n_:=as2_ (blk_below (g:=gb70001) (o:=.cells #[.string a0_0,.string a0_1,.int .i64 a0_2] 25 (0,0)) b69_1 hb) (below_step b69_2 hb);clear BK70001 HB;obtain⟨BK70001,HB⟩:=n_;(try clear hb)))
   go_meet
   case rel=>exact⟨_,(true),fr_,H',⟨(by first|omega|exact Nat.le_refl _)⟩,⟨b69_1⟩,⟨b69_2⟩⟩
 case rest =>
  clear HC2;(try clear c2);(try clear p2);(try clear c5);(try clear c6);(try clear hcz11_0 hcz11_1 hcz11_2);(try clear hcz7_0 hcz7_1 hcz7_2);(try clear hcz9_0 hcz9_1 hcz9_2);(try clear hfz11_0 hfz11_1 hfz11_2);(try clear hfz7_0 hfz7_1 hfz7_2);(try clear hfz9_0 hfz9_1 hfz9_2);obtain⟨kq,x12_1,rfl,HA,HJ1,BK70001,HB⟩:=hcut
  cases kq with
  |zero=>exact absurd HA.out (by simp [dataflowref45_CheckPlace.j0])
  |succ kj1 =>
   have H:=HA.out;clear HA;simp only [dataflowref45_CheckPlace.j0] at H
   by_cases c13:x12_1=true
   ·subst c13;rw [if_pos rfl] at H;obtain rfl:=Option.some.inj H;go_wp2;go_ret;exact⟨er_,b69_2⟩
   ·replace c13:=Bool.eq_false_iff.mpr c13;subst c13;rw [if_neg nf_] at H
    by_cases c14:a0_2<0
    ·rw [if_pos c14] at H;have c14b0:decide (a0_2<0)=true:=decide_eq_true c14;clear c14;obtain rfl:=Option.some.inj H;obtain⟨hcz15_0,hcz15_1,hcz15_2,hfz15_0,hfz15_1,hfz15_2⟩:=cz3_ BK70001.out;go_wp2;go_ret;exact⟨er_,b69_2⟩
    ·rw [if_neg c14] at H;have c14b0:decide (a0_2<0)=false:=decide_eq_false c14;clear c14
     by_cases c16:a0_2≥1024
     ·rw [if_pos c16] at H;have c16b0:decide (1024≤a0_2)=true:=decide_eq_true c16;clear c16;obtain rfl:=Option.some.inj H;obtain⟨hcz17_0,hcz17_1,hcz17_2,hfz17_0,hfz17_1,hfz17_2⟩:=cz3_ BK70001.out;go_wp2;go_ret;exact⟨er_,b69_2⟩
     ·rw [if_neg c16] at H;have c16b0:decide (1024≤a0_2)=false:=decide_eq_false c16;clear c16;obtain rfl:=Option.some.inj H;obtain⟨hcz18_0,hcz18_1,hcz18_2,hfz18_0,hfz18_1,hfz18_2⟩:=cz3_ BK70001.out;go_wp2;go_ret;exact⟨er_,b69_2⟩
end Go.Proofs.YtnoangbidnigdaaDoor.H

/- Printed (xprint.py): Go functions as Lean functions, each with the proof that its call does what the Lean function says. -/
import Derived.Test.YtnoangbidnigdaaDoorH0
import Derived.Test.YtnoangbidnigdaaDoorHa
namespace Go.Proofs.YtnoangbidnigdaaDoor.H
open Go.RowKit Go.Proofs.YtnoangbidnigdaaDoorW.PrintWords Go.Proofs.YtnoangbidnigdaaDoorW.PrintLast Go.Proofs.YtnoangbidnigdaaDoorW.PrintMore
attribute [local go_sem] max2_int min2_int max_two min_two max_three min_three max_four min_four   -- for this text's walks alone
set_option linter.unusedVariables false
set_option linter.unusedSimpArgs false
/-! ### finding_checkPlace: function 80 -/
def finding_checkPlace.j0:Nat→Bool→ByteArray→ByteArray→Int→Option (Int)
 |0,_,_,_,_=>none
 |k+1,x3,x81002000,x81002001,x81002002=>if x3=true then(some 5) else(if x81002002<0 then(some 4) else(if x81002002≥1024 then(some 4) else(some 0)))
def finding_checkPlace.f(k:Nat)(a0_0:ByteArray)(a0_1:ByteArray)(a0_2:Int):Option (Int):=(lex_Ident.f k a0_0).bind fun t81002=>(if t81002=true then((lex_Ident.f k a0_1).bind fun t81003=>(finding_checkPlace.j0 k (!t81003) a0_0 a0_1 a0_2)) else(finding_checkPlace.j0 k true a0_0 a0_1 a0_2))
theorem b80_1{p:Prop}(h:p:=by repeat(first|(with_reducible first|exact HB.out|apply below_alloc|apply pw_below_drewN|apply below_drew1|refine below_set ?_ GE81001.out)|exact HB.out)):p:=h
theorem b80_2{p:Prop}(h:p:=by(with_reducible repeat(first|refine blk_drewN ?_ _|refine blk_drew ?_|refine blk_alloc ?_ _));exact BK81001.out):p:=h
theorem m80_0{p:Prop}(h:p:=by repeat' first|(with_reducible exact ih0 _ _ _ _)|(with_reducible exact lex_Ident.mono _ _)|(with_reducible exact LeO.refl _)|(with_reducible exact LeO.none _)|(with_reducible refine LeO.ite ?_ ?_)|(with_reducible refine LeO.bind ?_ (fun _=>?_))|exact ih0 _ _ _ _|exact lex_Ident.mono _ _|exact LeO.none _|refine LeO.ite ?_ ?_|refine LeO.bind ?_ (fun _=>?_)):p:=h
theorem finding_checkPlace.mono_l:∀ k,(∀ y0 y1 y2 y3,LeO (finding_checkPlace.j0 k y0 y1 y2 y3) (finding_checkPlace.j0 (k+1) y0 y1 y2 y3))
 |0=>fun _ _ _ _ r h=>by simp [finding_checkPlace.j0] at h
 |k+1=>by
  have ih0:=finding_checkPlace.mono_l k
  ·intro y0 y1 y2 y3;unfold finding_checkPlace.j0;exact m80_0
theorem finding_checkPlace.mono:∀ a0 a1 a2 k,LeO (finding_checkPlace.f k a0 a1 a2) (finding_checkPlace.f (k+1) a0 a1 a2):=by
 intro a0 a1 a2 k;have ih0:=finding_checkPlace.mono_l k;unfold finding_checkPlace.f;exact m80_0
set_option maxHeartbeats 8000000 in
set_option maxRecDepth 100000 in
theorem finding_checkPlace.calls(k:Nat)(a0_0:ByteArray)(a0_1:ByteArray)(a0_2:Int)(r:Int)(w:World)(hgh:Gh w)(h:finding_checkPlace.f k a0_0 a0_1 a0_2=some r) :
  Calls Tryd.prog 80 #[.agg #[.string a0_0,.string a0_1,.int .i64 a0_2]] w fun e w'=>e=.returned (.int .i64 r)∧Below w.heap.size w w':=by
 have hu25:=Tryd.underlying25;have HB:=Aside0.mk (Below.refl w.heap.size w);have HGH:=Aside0.mk hgh;clear hgh;have H:((lex_Ident.f k a0_0).bind fun t81002=>(if t81002=true then((lex_Ident.f k a0_1).bind fun t81003=>(finding_checkPlace.j0 k (!t81003) a0_0 a0_1 a0_2)) else(finding_checkPlace.j0 k true a0_0 a0_1 a0_2)))=some r:=h;clear h;have HC2:=Aside0.mk H;clear H;go_enter Tryd.func80,Tryd.ntmps80
 go_upto_region 1 with (first|((with_reducible refine gate_dst (N:=1) rfl ?_);refine box_event ?hg (N:=1) ?hd (cs:=#[.string a0_0,.string a0_1,.int .i64 a0_2]) (t:=25) ?hr ?_;(case hd=>rfl);(case hg=>rfl);(case hr=>first|(go_simp;done)|(go_simp;rfl));intro gb81001 hg w3 hbox hb;have n_:=as4_ (below_step bl_ hb) hbox ((by rw [hg];exact(below_size bl_):w.heap.size≤gb81001)) ((by rw [hg];exact(below_size bl_):w.heap.size≤gb81001));clear HB;obtain⟨HB,BK81001,GW81001,GE81001⟩:=n_;clear hb hbox hg))
 (try simp only [Act.put,List.setIfInBounds_toArray,List.set_cons_zero,List.set_cons_succ])
 go_cut [3] (fun v3 wc=>∃ (kq:Nat) (x3_1:Bool),v3=.bool x3_1∧Aside0 (finding_checkPlace.j0 kq x3_1 a0_0 a0_1 a0_2=some r)∧Aside0 (kq≤k)∧Aside0 (wc.heap[gb81001]?=some (.cells #[.string a0_0,.string a0_1,.int .i64 a0_2] 25 (0,0)))∧Aside0 (Below w.heap.size w wc))
 case first =>
  have H:=HC2.out;clear HC2;replace H:=Option.bind_eq_some_iff.mp H;obtain⟨t81002,A40,H⟩:=H;have A4:=Aside0.mk A40;clear A40
  by_cases c5:t81002=true
  ·subst c5;rw [if_pos rfl] at H;replace H:=Option.bind_eq_some_iff.mp H;obtain⟨t81003,A60,H⟩:=H;have A6:=Aside0.mk A60;clear A60;have H':=Aside0.mk H;clear H;obtain⟨hcz7_0,hcz7_1,hcz7_2,hfz7_0,hfz7_1,hfz7_2⟩:=cz3_ BK81001.out
   go_wp2_with (first|((with_reducible refine gate_callee (f:=49) rfl ?_);refine goesL_ (some 6) rfl rfl Tryd.func49 (by kernel_rfl) rfl #[.string a0_0] rfl mp_ ?_;(with_reducible refine(lex_Ident.calls k a0_0 true _ ?side1 A4.out).mono ?_);(case side1=>exact Gh.below HGH.out b80_1);rintro e w' ⟨rfl,⟨nd,rfl⟩⟩;refine⟨_,rfl,?_⟩)|(go_at_call 49;(with_reducible refine(lex_Ident.calls k a0_1 t81003 _ ?side1 A6.out).mono ?_);(case side1=>exact Gh.below HGH.out b80_1);rintro e w' ⟨rfl,⟨nd,rfl⟩⟩))
   go_meet
   case rel=>exact⟨_,(!t81003),fr_,H',⟨(by first|omega|exact Nat.le_refl _)⟩,⟨b80_2⟩,⟨b80_1⟩⟩
  ·replace c5:=Bool.eq_false_iff.mpr c5;subst c5;rw [if_neg nf_] at H;have H':=Aside0.mk H;clear H;obtain⟨hcz8_0,hcz8_1,hcz8_2,hfz8_0,hfz8_1,hfz8_2⟩:=cz3_ BK81001.out
   go_wp2_with (first|((with_reducible refine gate_callee (f:=49) rfl ?_);refine goesL_ (some 6) rfl rfl Tryd.func49 (by kernel_rfl) rfl #[.string a0_0] rfl mp_ ?_;(with_reducible refine(lex_Ident.calls k a0_0 false _ ?side1 A4.out).mono ?_);(case side1=>exact Gh.below HGH.out b80_1);rintro e w' ⟨rfl,⟨nd,rfl⟩⟩;refine⟨_,rfl,?_⟩))
   go_meet
   case rel=>exact⟨_,(true),fr_,H',⟨(by first|omega|exact Nat.le_refl _)⟩,⟨b80_2⟩,⟨b80_1⟩⟩
 case rest =>
  clear HC2;(try clear p2);(try clear c4);(try clear c5);(try clear c8);(try clear hcz7_0 hcz7_1 hcz7_2);(try clear hcz8_0 hcz8_1 hcz8_2);(try clear hfz7_0 hfz7_1 hfz7_2);(try clear hfz8_0 hfz8_1 hfz8_2);obtain⟨kq,x3_1,rfl,HA,HJ1,BK81001,HB⟩:=hcut
  cases kq with
  |zero=>exact absurd HA.out (by simp [finding_checkPlace.j0])
  |succ kj1 =>
   have H:=HA.out;clear HA;simp only [finding_checkPlace.j0] at H
   by_cases c9:x3_1=true
   ·subst c9;rw [if_pos rfl] at H;obtain rfl:=Option.some.inj H;go_wp2;go_ret;exact⟨er_,b80_1⟩
   ·replace c9:=Bool.eq_false_iff.mpr c9;subst c9;rw [if_neg nf_] at H
    by_cases c10:a0_2<0
    ·rw [if_pos c10] at H;have c10b0:decide (a0_2<0)=true:=decide_eq_true c10;clear c10;obtain rfl:=Option.some.inj H;obtain⟨hcz11_0,hcz11_1,hcz11_2,hfz11_0,hfz11_1,hfz11_2⟩:=cz3_ BK81001.out;go_wp2;go_ret;exact⟨er_,b80_1⟩
    ·rw [if_neg c10] at H;have c10b0:decide (a0_2<0)=false:=decide_eq_false c10;clear c10
     by_cases c12:a0_2≥1024
     ·rw [if_pos c12] at H;have c12b0:decide (1024≤a0_2)=true:=decide_eq_true c12;clear c12;obtain rfl:=Option.some.inj H;obtain⟨hcz13_0,hcz13_1,hcz13_2,hfz13_0,hfz13_1,hfz13_2⟩:=cz3_ BK81001.out;go_wp2;go_ret;exact⟨er_,b80_1⟩
     ·rw [if_neg c12] at H;have c12b0:decide (1024≤a0_2)=false:=decide_eq_false c12;clear c12;obtain rfl:=Option.some.inj H;obtain⟨hcz14_0,hcz14_1,hcz14_2,hfz14_0,hfz14_1,hfz14_2⟩:=cz3_ BK81001.out;go_wp2;go_ret;exact⟨er_,b80_1⟩
end Go.Proofs.YtnoangbidnigdaaDoor.H

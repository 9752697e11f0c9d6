/- Printed (xprint.py): Go functions as Lean functions, each with the proof that its call does what the Lean function says. -/
import Derived.Test.YtnoangbidnigdaaDoorH0
import Derived.Test.YtnoangbidnigdaaDoorHc
namespace Go.Proofs.YtnoangbidnigdaaDoor.H
open Go.RowKit Go.Proofs.YtnoangbidnigdaaDoorW.PrintWords Go.Proofs.YtnoangbidnigdaaDoorW.PrintLast Go.Proofs.YtnoangbidnigdaaDoorW.PrintMore
attribute [local go_sem] max2_int min2_int max_two min_two max_three min_three max_four min_four   -- for this text's walks alone
set_option linter.unusedVariables false
set_option linter.unusedSimpArgs false
/-! ### suppress_Check: function 8 -/
mutual
def suppress_Check.j0:Nat→ByteArray→Bool→Int→ByteArray→ByteArray→ByteArray→ByteArray→Option (Int)
 |0,_,_,_,_,_,_,_=>none
 |k+1,x3,x6,x9002000,x9002001,x9002002,x9002003,x9002004=>if x6=true then(some 12) else((suppress_free.f k x9002001).bind fun t9002=>(if t9002=true then((suppress_free.f k x9002002).bind fun t9003=>(if t9003=true then(if (x9002003.size:Int)>32 then(suppress_Check.j1 k x3 true) else(if x9002003.toList=([42]:List UInt8) then(suppress_Check.j1 k x3 true) else((suppress_within.f k x9002003 33).bind fun t9004=>(suppress_Check.j1 k x3 (!t9004))))) else(suppress_Check.j1 k x3 true))) else(suppress_Check.j1 k x3 true)))
def suppress_Check.j1:Nat→ByteArray→Bool→Option (Int)
 |0,_,_=>none
 |k+1,x3,x15=>if x15=true then(some 5) else(if x3.toList=([]:List UInt8) then(some 23) else(if (x3.size:Int)>200 then(some 23) else((suppress_within.f k x3 32).bind fun t9005=>(if t9005=true then(if 0<(x3.size:Int) then(if (bt x3 0)=32 then(some 23) else(if 0≤(wrap64 ((x3.size:Int)-1)) then(if (wrap64 ((x3.size:Int)-1))<(x3.size:Int) then(if (bt x3 (wrap64 ((x3.size:Int)-1)))=32 then(some 23) else(some 0)) else(none)) else(none))) else(none)) else(some 23)))))
end
def suppress_Check.f(k:Nat)(a0_0:Int)(a0_1:ByteArray)(a0_2:ByteArray)(a0_3:ByteArray)(a0_4:ByteArray):Option (Int):=if a0_0<0 then(suppress_Check.j0 k a0_4 true a0_0 a0_1 a0_2 a0_3 a0_4) else(suppress_Check.j0 k a0_4 (decide (a0_0≥5)) a0_0 a0_1 a0_2 a0_3 a0_4)
theorem b8_1{p:Prop}(h:p:=by(with_reducible repeat(first|refine blk_drewN ?_ _|refine blk_drew ?_|refine blk_alloc ?_ _));exact BK9001.out):p:=h
theorem b8_2{p:Prop}(h:p:=by repeat(first|(with_reducible first|exact HB.out|apply below_alloc|apply pw_below_drewN|apply below_drew1|refine below_set ?_ GE9001.out)|exact HB.out)):p:=h
theorem b8_3{p:Prop}(h:p:=by have:=HJ1.out;first|omega|exact Nat.le_refl _):p:=h
theorem b8_4{p:Prop}(h:p:=by first|rfl|(simp [errW_none,errW_some] <;> rfl)|(simp only [← hji30];first|rfl|(simp [errW_none,errW_some] <;> rfl))|(simp [*,errW_none,errW_some] <;> rfl)):p:=h
theorem m8_0{p:Prop}(h:p:=by repeat' first|(with_reducible exact ih0 _ _ _ _ _ _ _)|(with_reducible exact ih1 _ _)|(with_reducible exact suppress_free.mono _ _)|(with_reducible exact suppress_within.mono _ _ _)|(with_reducible exact LeO.refl _)|(with_reducible exact LeO.none _)|(with_reducible refine LeO.ite ?_ ?_)|(with_reducible refine LeO.bind ?_ (fun _=>?_))|exact ih0 _ _ _ _ _ _ _|exact ih1 _ _|exact suppress_free.mono _ _|exact suppress_within.mono _ _ _|exact LeO.none _|refine LeO.ite ?_ ?_|refine LeO.bind ?_ (fun _=>?_)):p:=h
theorem suppress_Check.mono_l:∀ k,(∀ y0 y1 y2 y3 y4 y5 y6,LeO (suppress_Check.j0 k y0 y1 y2 y3 y4 y5 y6) (suppress_Check.j0 (k+1) y0 y1 y2 y3 y4 y5 y6))∧(∀ y0 y1,LeO (suppress_Check.j1 k y0 y1) (suppress_Check.j1 (k+1) y0 y1))
 |0=>⟨fun _ _ _ _ _ _ _ r h=>by simp [suppress_Check.j0] at h,fun _ _ r h=>by simp [suppress_Check.j1] at h⟩
 |k+1=>by
  obtain⟨ih0,ih1⟩:=suppress_Check.mono_l k;refine⟨?_,?_⟩
  ·intro y0 y1 y2 y3 y4 y5 y6;unfold suppress_Check.j0;exact m8_0
  ·intro y0 y1;unfold suppress_Check.j1;exact m8_0
theorem suppress_Check.mono:∀ a0 a1 a2 a3 a4 k,LeO (suppress_Check.f k a0 a1 a2 a3 a4) (suppress_Check.f (k+1) a0 a1 a2 a3 a4):=by
 intro a0 a1 a2 a3 a4 k;obtain⟨ih0,ih1⟩:=suppress_Check.mono_l k;unfold suppress_Check.f;exact m8_0
set_option maxHeartbeats 8000000 in
set_option maxRecDepth 100000 in
theorem suppress_Check.calls(k:Nat)(a0_0:Int)(a0_1:ByteArray)(a0_2:ByteArray)(a0_3:ByteArray)(a0_4:ByteArray)(r:Int)(w:World)(hgh:Gh w)(h:suppress_Check.f k a0_0 a0_1 a0_2 a0_3 a0_4=some r) :
  Calls Tryd.prog 8 #[.agg #[.int .i64 a0_0,.string a0_1,.string a0_2,.string a0_3,.string a0_4]] w fun e w'=>e=.returned (.int .i64 r)∧Below w.heap.size w w':=by
 have hu23:=Tryd.underlying23;have HB:=Aside0.mk (Below.refl w.heap.size w);have HGH:=Aside0.mk hgh;clear hgh;have H:(if a0_0<0 then(suppress_Check.j0 k a0_4 true a0_0 a0_1 a0_2 a0_3 a0_4) else(suppress_Check.j0 k a0_4 (decide (a0_0≥5)) a0_0 a0_1 a0_2 a0_3 a0_4))=some r:=h;clear h;have HC2:=Aside0.mk H;clear H;go_enter Tryd.func8,Tryd.ntmps8
 go_upto_region 2 with (first|((with_reducible refine gate_dst (N:=1) rfl ?_);(try(refine gate_guard (by rfl) ?_;dsimp only));refine box_event ?hg (N:=1) ?hd (cs:=#[.int .i64 a0_0,.string a0_1,.string a0_2,.string a0_3,.string a0_4]) (t:=23) ?hr ?_;(case hd=>rfl);(case hg=>rfl);(case hr=>first|(go_simp;done)|(go_simp;rfl));intro gb9001 hg w3 hbox hb;have n_:=as4_ (below_step bl_ hb) hbox ((by rw [hg];exact(below_size bl_):w.heap.size≤gb9001)) ((by rw [hg];exact(below_size bl_):w.heap.size≤gb9001));clear HB;obtain⟨HB,BK9001,GW9001,GE9001⟩:=n_;clear hb hbox hg;obtain⟨hcz4_0,hcz4_1,hcz4_2,hcz4_3,hcz4_4,hfz4_0,hfz4_1,hfz4_2,hfz4_3,hfz4_4⟩:=cz5_ BK9001.out))
 (try simp only [Act.put,List.setIfInBounds_toArray,List.set_cons_zero,List.set_cons_succ])
 go_cut [6] (fun v6 wc=>∃ (kq:Nat) (x6_1:Bool),v6=.bool x6_1∧Aside0 (suppress_Check.j0 kq a0_4 x6_1 a0_0 a0_1 a0_2 a0_3 a0_4=some r)∧Aside0 (kq≤k)∧Aside0 (wc.heap[gb9001]?=some (.cells #[.int .i64 a0_0,.string a0_1,.string a0_2,.string a0_3,.string a0_4] 23 (0,0)))∧Aside0 (Below w.heap.size w wc))
 case first =>
  have H:=HC2.out;clear HC2
  by_cases c5:a0_0<0
  ·rw [if_pos c5] at H;have c5b0:decide (a0_0<0)=true:=decide_eq_true c5;clear c5
   (first|rw [c5b0]|(simp only [i64_w,i32_w];rw [c5b0])|skip)
   have H':=Aside0.mk H;clear H;obtain⟨hcz6_0,hcz6_1,hcz6_2,hcz6_3,hcz6_4,hfz6_0,hfz6_1,hfz6_2,hfz6_3,hfz6_4⟩:=cz5_ BK9001.out;go_wp2
   go_meet
   case rel=>exact⟨_,(true),fr_,H',⟨(by first|omega|exact Nat.le_refl _)⟩,⟨b8_1⟩,⟨b8_2⟩⟩
  ·rw [if_neg c5] at H;have c5b0:decide (a0_0<0)=false:=decide_eq_false c5;clear c5
   (first|rw [c5b0]|(simp only [i64_w,i32_w];rw [c5b0])|skip)
   have H':=Aside0.mk H;clear H;obtain⟨hcz7_0,hcz7_1,hcz7_2,hcz7_3,hcz7_4,hfz7_0,hfz7_1,hfz7_2,hfz7_3,hfz7_4⟩:=cz5_ BK9001.out;go_wp2
   go_meet
   case rel=>exact⟨_,(decide (a0_0≥5)),fr_,H',⟨(by first|omega|exact Nat.le_refl _)⟩,⟨b8_1⟩,⟨b8_2⟩⟩
 case rest =>
  clear HC2;(try clear p2);(try clear c5);(try clear c5b0);(try clear hcz4_0 hcz4_1 hcz4_2 hcz4_3 hcz4_4);(try clear hcz6_0 hcz6_1 hcz6_2 hcz6_3 hcz6_4);(try clear hcz7_0 hcz7_1 hcz7_2 hcz7_3 hcz7_4);(try clear hfz4_0 hfz4_1 hfz4_2 hfz4_3 hfz4_4);(try clear hfz6_0 hfz6_1 hfz6_2 hfz6_3 hfz6_4);(try clear hfz7_0 hfz7_1 hfz7_2 hfz7_3 hfz7_4);obtain⟨kq,x6_1,rfl,HA,HJ1,BK9001,HB⟩:=hcut
  cases kq with
  |zero=>exact absurd HA.out (by simp [suppress_Check.j0])
  |succ kj1 =>
   have H:=HA.out;clear HA;simp only [suppress_Check.j0] at H
   by_cases c8:x6_1=true
   ·subst c8;rw [if_pos rfl] at H;obtain rfl:=Option.some.inj H;go_wp2;go_ret;exact⟨er_,b8_2⟩
   ·replace c8:=Bool.eq_false_iff.mpr c8;subst c8;rw [if_neg nf_] at H;have HC9:=Aside0.mk H;clear H
    go_upto_region 4 with (fail)
    go_cut [15] (fun v15 wc=>∃ (kq:Nat) (x15_8:Bool),v15=.bool x15_8∧Aside0 (suppress_Check.j1 kq a0_4 x15_8=some r)∧Aside0 (kq≤kj1)∧Aside0 (wc.heap[gb9001]?=some (.cells #[.int .i64 a0_0,.string a0_1,.string a0_2,.string a0_3,.string a0_4] 23 (0,0)))∧Aside0 (Below w.heap.size w wc))
    case first =>
     have H:=HC9.out;clear HC9;replace H:=Option.bind_eq_some_iff.mp H;obtain⟨t9002,A100,H⟩:=H;have A10:=Aside0.mk A100;clear A100
     by_cases c11:t9002=true
     ·subst c11;rw [if_pos rfl] at H;replace H:=Option.bind_eq_some_iff.mp H;obtain⟨t9003,A120,H⟩:=H;have A12:=Aside0.mk A120;clear A120
      by_cases c13:t9003=true
      ·subst c13;rw [if_pos rfl] at H
       by_cases c14:(a0_3.size:Int)>32
       ·rw [if_pos c14] at H;have c14b0:decide (32<(a0_3.size:Int))=true:=decide_eq_true c14;have c14b1:decide (32<a0_3.size)=true:=decide_eq_true (by omega);clear c14
        (first|rw [c14b0]|(simp only [i64_w,i32_w];rw [c14b0])|skip)
        have H':=Aside0.mk H;clear H;obtain⟨hcz15_0,hcz15_1,hcz15_2,hcz15_3,hcz15_4,hfz15_0,hfz15_1,hfz15_2,hfz15_3,hfz15_4⟩:=cz5_ BK9001.out
        go_wp2_with (first|((with_reducible refine gate_callee (f:=24) rfl ?_);refine goesL_ (some 18) rfl rfl Tryd.func24 (by kernel_rfl) rfl #[.string a0_1] rfl mp_ ?_;(with_reducible refine(suppress_free.calls kj1 a0_1 true _ ?side1 A10.out).mono ?_);(case side1=>exact Gh.below HGH.out b8_2);rintro e w' ⟨rfl,⟨nd,rfl⟩⟩;refine⟨_,rfl,?_⟩)|(go_at_call 24;(with_reducible refine(suppress_free.calls kj1 a0_2 true _ ?side1 A12.out).mono ?_);(case side1=>exact Gh.below HGH.out b8_2);rintro e w' ⟨rfl,⟨nd,rfl⟩⟩))
        go_meet
        case rel=>exact⟨_,(true),fr_,H',⟨b8_3⟩,⟨b8_1⟩,⟨b8_2⟩⟩
       ·rw [if_neg c14] at H;have c14b0:decide (32<(a0_3.size:Int))=false:=decide_eq_false c14;have c14b1:decide (32<a0_3.size)=false:=decide_eq_false (by omega);clear c14
        (first|rw [c14b0]|(simp only [i64_w,i32_w];rw [c14b0])|skip)
        by_cases c16:a0_3.toList=([42]:List UInt8)
        ·rw [if_pos c16] at H;obtain⟨c16b0,c16b1⟩:=eqT_ c16;clear c16;have H':=Aside0.mk H;clear H;obtain⟨hcz17_0,hcz17_1,hcz17_2,hcz17_3,hcz17_4,hfz17_0,hfz17_1,hfz17_2,hfz17_3,hfz17_4⟩:=cz5_ BK9001.out
         go_wp2_with (first|((with_reducible refine gate_callee (f:=24) rfl ?_);refine goesL_ (some 18) rfl rfl Tryd.func24 (by kernel_rfl) rfl #[.string a0_1] rfl mp_ ?_;(with_reducible refine(suppress_free.calls kj1 a0_1 true _ ?side1 A10.out).mono ?_);(case side1=>exact Gh.below HGH.out b8_2);rintro e w' ⟨rfl,⟨nd,rfl⟩⟩;refine⟨_,rfl,?_⟩)|(go_at_call 24;(with_reducible refine(suppress_free.calls kj1 a0_2 true _ ?side1 A12.out).mono ?_);(case side1=>exact Gh.below HGH.out b8_2);rintro e w' ⟨rfl,⟨nd,rfl⟩⟩))
         go_meet
         case rel=>exact⟨_,(true),fr_,H',⟨b8_3⟩,⟨b8_1⟩,⟨b8_2⟩⟩
        ·rw [if_neg c16] at H;obtain⟨c16b0,c16b1⟩:=eqF_ c16;replace H:=Option.bind_eq_some_iff.mp H;obtain⟨t9004,A180,H⟩:=H;have A18:=Aside0.mk A180;clear A180;have H':=Aside0.mk H;clear H;obtain⟨hcz19_0,hcz19_1,hcz19_2,hcz19_3,hcz19_4,hfz19_0,hfz19_1,hfz19_2,hfz19_3,hfz19_4⟩:=cz5_ BK9001.out
         go_wp2_with (first|((with_reducible refine gate_callee (f:=24) rfl ?_);refine goesL_ (some 18) rfl rfl Tryd.func24 (by kernel_rfl) rfl #[.string a0_1] rfl mp_ ?_;(with_reducible refine(suppress_free.calls kj1 a0_1 true _ ?side1 A10.out).mono ?_);(case side1=>exact Gh.below HGH.out b8_2);rintro e w' ⟨rfl,⟨nd,rfl⟩⟩;refine⟨_,rfl,?_⟩)|(go_at_call 24;(with_reducible refine(suppress_free.calls kj1 a0_2 true _ ?side1 A12.out).mono ?_);(case side1=>exact Gh.below HGH.out b8_2);rintro e w' ⟨rfl,⟨nd,rfl⟩⟩)|(go_at_call 25;(with_reducible refine(suppress_within.calls kj1 a0_3 33 t9004 _ A18.out).mono ?_);rintro e w' ⟨rfl,⟨nd,rfl⟩⟩))
         go_meet
         case rel=>exact⟨_,(!t9004),fr_,H',⟨b8_3⟩,⟨b8_1⟩,⟨b8_2⟩⟩
      ·replace c13:=Bool.eq_false_iff.mpr c13;subst c13;rw [if_neg nf_] at H;have H':=Aside0.mk H;clear H;obtain⟨hcz20_0,hcz20_1,hcz20_2,hcz20_3,hcz20_4,hfz20_0,hfz20_1,hfz20_2,hfz20_3,hfz20_4⟩:=cz5_ BK9001.out
       go_wp2_with (first|((with_reducible refine gate_callee (f:=24) rfl ?_);refine goesL_ (some 18) rfl rfl Tryd.func24 (by kernel_rfl) rfl #[.string a0_1] rfl mp_ ?_;(with_reducible refine(suppress_free.calls kj1 a0_1 true _ ?side1 A10.out).mono ?_);(case side1=>exact Gh.below HGH.out b8_2);rintro e w' ⟨rfl,⟨nd,rfl⟩⟩;refine⟨_,rfl,?_⟩)|(go_at_call 24;(with_reducible refine(suppress_free.calls kj1 a0_2 false _ ?side1 A12.out).mono ?_);(case side1=>exact Gh.below HGH.out b8_2);rintro e w' ⟨rfl,⟨nd,rfl⟩⟩))
       go_meet
       case rel=>exact⟨_,(true),fr_,H',⟨b8_3⟩,⟨b8_1⟩,⟨b8_2⟩⟩
     ·replace c11:=Bool.eq_false_iff.mpr c11;subst c11;rw [if_neg nf_] at H;have H':=Aside0.mk H;clear H;obtain⟨hcz21_0,hcz21_1,hcz21_2,hcz21_3,hcz21_4,hfz21_0,hfz21_1,hfz21_2,hfz21_3,hfz21_4⟩:=cz5_ BK9001.out
      go_wp2_with (first|((with_reducible refine gate_callee (f:=24) rfl ?_);refine goesL_ (some 18) rfl rfl Tryd.func24 (by kernel_rfl) rfl #[.string a0_1] rfl mp_ ?_;(with_reducible refine(suppress_free.calls kj1 a0_1 false _ ?side1 A10.out).mono ?_);(case side1=>exact Gh.below HGH.out b8_2);rintro e w' ⟨rfl,⟨nd,rfl⟩⟩;refine⟨_,rfl,?_⟩))
      go_meet
      case rel=>exact⟨_,(true),fr_,H',⟨b8_3⟩,⟨b8_1⟩,⟨b8_2⟩⟩
    case rest =>
     clear HC9;(try clear c1);(try clear c2);(try clear p2);(try clear c5);(try clear c5b0);(try clear c8);(try clear c11);(try clear c13);(try clear c14);(try clear c14b0);(try clear c14b1);(try clear c16);(try clear c16b0);(try clear c16b1);(try clear hcz15_0 hcz15_1 hcz15_2 hcz15_3 hcz15_4);(try clear hcz17_0 hcz17_1 hcz17_2 hcz17_3 hcz17_4);(try clear hcz19_0 hcz19_1 hcz19_2 hcz19_3 hcz19_4);(try clear hcz20_0 hcz20_1 hcz20_2 hcz20_3 hcz20_4);(try clear hcz21_0 hcz21_1 hcz21_2 hcz21_3 hcz21_4);(try clear hcz4_0 hcz4_1 hcz4_2 hcz4_3 hcz4_4);(try clear hcz6_0 hcz6_1 hcz6_2 hcz6_3 hcz6_4);(try clear hcz7_0 hcz7_1 hcz7_2 hcz7_3 hcz7_4);(try clear hfz15_0 hfz15_1 hfz15_2 hfz15_3 hfz15_4);(try clear hfz17_0 hfz17_1 hfz17_2 hfz17_3 hfz17_4);(try clear hfz19_0 hfz19_1 hfz19_2 hfz19_3 hfz19_4);(try clear hfz20_0 hfz20_1 hfz20_2 hfz20_3 hfz20_4);(try clear hfz21_0 hfz21_1 hfz21_2 hfz21_3 hfz21_4);(try clear hfz4_0 hfz4_1 hfz4_2 hfz4_3 hfz4_4);(try clear hfz6_0 hfz6_1 hfz6_2 hfz6_3 hfz6_4);(try clear hfz7_0 hfz7_1 hfz7_2 hfz7_3 hfz7_4);(try clear p2);obtain⟨kq,x15_8,rfl,HA,HJ8,BK9001,HB⟩:=hcut
     cases kq with
     |zero=>exact absurd HA.out (by simp [suppress_Check.j1])
     |succ kj8 =>
      have H:=HA.out;clear HA;simp only [suppress_Check.j1] at H
      by_cases c22:x15_8=true
      ·subst c22;rw [if_pos rfl] at H;obtain rfl:=Option.some.inj H;go_wp2;go_ret;exact⟨er_,b8_2⟩
      ·replace c22:=Bool.eq_false_iff.mpr c22;subst c22;rw [if_neg nf_] at H
       by_cases c23:a0_4.toList=([]:List UInt8)
       ·rw [if_pos c23] at H;obtain⟨c23b0,c23b1⟩:=eqT_ c23;clear c23;obtain rfl:=Option.some.inj H;go_wp2;go_ret;exact⟨er_,b8_2⟩
       ·rw [if_neg c23] at H;obtain⟨c23b0,c23b1⟩:=eqF_ c23
        by_cases c24:(a0_4.size:Int)>200
        ·rw [if_pos c24] at H;have c24b0:decide (200<(a0_4.size:Int))=true:=decide_eq_true c24;have c24b1:decide (200<a0_4.size)=true:=decide_eq_true (by omega);clear c24;obtain rfl:=Option.some.inj H;go_wp2;go_ret;exact⟨er_,b8_2⟩
        ·rw [if_neg c24] at H;have c24b0:decide (200<(a0_4.size:Int))=false:=decide_eq_false c24;have c24b1:decide (200<a0_4.size)=false:=decide_eq_false (by omega);clear c24;replace H:=Option.bind_eq_some_iff.mp H;obtain⟨t9005,A250,H⟩:=H;have A25:=Aside0.mk A250;clear A250
         by_cases c26:t9005=true
         ·subst c26;rw [if_pos rfl] at H
          by_cases c27:0<(a0_4.size:Int)
          ·rw [if_pos c27] at H;have c27b0:decide (0<(a0_4.size:Int))=true:=decide_eq_true c27;have c27b1:decide (0<a0_4.size)=true:=decide_eq_true (by omega);clear c27
           by_cases c29:(bt a0_4 0)=32
           ·rw [if_pos c29] at H;obtain⟨c29b0,c29b1⟩:=eqT_ c29;clear c29;obtain rfl:=Option.some.inj H
            go_wp2_with (first|(go_at_call 25;(with_reducible refine(suppress_within.calls kj8 a0_4 32 true _ A25.out).mono ?_);rintro e w' ⟨rfl,⟨nd,rfl⟩⟩;have p28:0≤(0:Int):=(by omega);have q28:0<a0_4.size:=(by have:(0:Int)<(a0_4.size:Int):=of_decide_eq_true as_;omega);have hx28:∀ h:0<a0_4.size,((a0_4[0]'h).toNat:Int)=bt a0_4 0:=bt_at a0_4 0;clear p28;have qi28:(0<(a0_4.size:Int))=True:=eq_true (of_decide_eq_true as_);replace q28:=eq_true q28))
            go_ret;exact⟨er_,b8_2⟩
           ·rw [if_neg c29] at H;obtain⟨c29b0,c29b1⟩:=eqF_ c29;obtain⟨ji30,hji30⟩:∃ j_:Int,(wrap64 ((a0_4.size:Int)-1))=j_:=⟨_,rfl⟩
            replace H:(if 0≤(ji30) then(if (ji30)<(a0_4.size:Int) then(if (bt a0_4 (ji30))=32 then(some 23) else(some 0)) else(none)) else(none))=some r:=by first|(rw [hji30] at H;exact H)|(simp only [hji30] at H ⊢;exact H)
            (try rw [hji30] at A25);have hji30w:(IntKind.i64.wrap ((a0_4.size:Int)-1))=ji30:=(i64_w _).trans hji30
            by_cases c31:0≤(ji30)
            ·rw [if_pos c31] at H;have c31b0:decide (0≤(ji30))=true:=decide_eq_true c31;clear c31
             by_cases c32:(ji30)<(a0_4.size:Int)
             ·rw [if_pos c32] at H;have c32b0:decide ((ji30)<(a0_4.size:Int))=true:=decide_eq_true c32;clear c32
              by_cases c34:(bt a0_4 (ji30))=32
              ·rw [if_pos c34] at H;obtain⟨c34b0,c34b1⟩:=eqT_ c34;clear c34;obtain rfl:=Option.some.inj H
               go_wp2_with (first|(go_at_call 25;(with_reducible refine(suppress_within.calls kj8 a0_4 32 true _ A25.out).mono ?_);rintro e w' ⟨rfl,⟨nd,rfl⟩⟩;have p28:0≤(0:Int):=(by omega);have q28:0<a0_4.size:=(by have:(0:Int)<(a0_4.size:Int):=of_decide_eq_true as_;omega);have hx28:∀ h:0<a0_4.size,((a0_4[0]'h).toNat:Int)=bt a0_4 0:=bt_at a0_4 0;clear p28;have qi28:(0<(a0_4.size:Int))=True:=eq_true (of_decide_eq_true as_);replace q28:=eq_true q28;have p33:0≤((ji30):Int):=of_decide_eq_true as_;have q33:(ji30)<(a0_4.size:Int):=of_decide_eq_true as_;have hx33:=bt_at a0_4 (ji30);replace p33:=eq_true p33;replace q33:=eq_true q33))
               go_ret;exact⟨b8_4,b8_2⟩
              ·rw [if_neg c34] at H;obtain⟨c34b0,c34b1⟩:=eqF_ c34;obtain rfl:=Option.some.inj H
               go_wp2_with (first|(go_at_call 25;(with_reducible refine(suppress_within.calls kj8 a0_4 32 true _ A25.out).mono ?_);rintro e w' ⟨rfl,⟨nd,rfl⟩⟩;have p28:0≤(0:Int):=(by omega);have q28:0<a0_4.size:=(by have:(0:Int)<(a0_4.size:Int):=of_decide_eq_true as_;omega);have hx28:∀ h:0<a0_4.size,((a0_4[0]'h).toNat:Int)=bt a0_4 0:=bt_at a0_4 0;clear p28;have qi28:(0<(a0_4.size:Int))=True:=eq_true (of_decide_eq_true as_);replace q28:=eq_true q28;have p33:0≤((ji30):Int):=of_decide_eq_true as_;have q33:(ji30)<(a0_4.size:Int):=of_decide_eq_true as_;have hx33:=bt_at a0_4 (ji30);replace p33:=eq_true p33;replace q33:=eq_true q33))
               go_ret;exact⟨b8_4,b8_2⟩
             ·rw [if_neg c32] at H;exact absurd H (by simp)
            ·rw [if_neg c31] at H;exact absurd H (by simp)
          ·rw [if_neg c27] at H;exact absurd H (by simp)
         ·replace c26:=Bool.eq_false_iff.mpr c26;subst c26;rw [if_neg nf_] at H;obtain rfl:=Option.some.inj H
          go_wp2_with (first|(go_at_call 25;(with_reducible refine(suppress_within.calls kj8 a0_4 32 false _ A25.out).mono ?_);rintro e w' ⟨rfl,⟨nd,rfl⟩⟩))
          go_ret;exact⟨er_,b8_2⟩
end Go.Proofs.YtnoangbidnigdaaDoor.H

/- Printed (xprint.py): Go functions as Lean functions, each with the proof that its call does what the Lean function says. -/
import Derived.Test.YtnoangbidnigdaaDoorH0
import Derived.Test.YtnoangbidnigdaaDoorHa
import Derived.Test.YtnoangbidnigdaaDoorHc
namespace Go.Proofs.YtnoangbidnigdaaDoor.H
open Go.RowKit Go.Proofs.YtnoangbidnigdaaDoorW.PrintWords Go.Proofs.YtnoangbidnigdaaDoorW.PrintLast Go.Proofs.YtnoangbidnigdaaDoorW.PrintMore
attribute [local go_sem] max2_int min2_int max_two min_two max_three min_three max_four min_four   -- for this text's walks alone
set_option linter.unusedVariables false
set_option linter.unusedSimpArgs false
/-! ### dataflowref46_Check: function 9 -/
mutual
def dataflowref46_Check.j0:Nat→Bool→Int→ByteArray→ByteArray→ByteArray→ByteArray→Option (Int)
 |0,_,_,_,_,_,_=>none
 |k+1,x10,x10002000,x10002001,x10002002,x10002003,x10002004=>if x10=true then(some 12) else(if x10002001.toList=([]:List UInt8) then(if x10002002.toList=([]:List UInt8) then(if x10002003.toList=([]:List UInt8) then(dataflowref46_Check.j1 k (x10002003.toList==([42]:List UInt8)) x10002000 x10002001 x10002002 x10002003 x10002004) else((dataflowref45_Word.f k x10002003).bind fun t10002=>(if t10002=true then(dataflowref46_Check.j1 k (x10002003.toList==([42]:List UInt8)) x10002000 x10002001 x10002002 x10002003 x10002004) else(dataflowref46_Check.j1 k true x10002000 x10002001 x10002002 x10002003 x10002004)))) else((dataflowref07_Ident.f k x10002002).bind fun t10003=>(if t10003=true then(if x10002003.toList=([]:List UInt8) then(dataflowref46_Check.j1 k (x10002003.toList==([42]:List UInt8)) x10002000 x10002001 x10002002 x10002003 x10002004) else((dataflowref45_Word.f k x10002003).bind fun t10004=>(if t10004=true then(dataflowref46_Check.j1 k (x10002003.toList==([42]:List UInt8)) x10002000 x10002001 x10002002 x10002003 x10002004) else(dataflowref46_Check.j1 k true x10002000 x10002001 x10002002 x10002003 x10002004)))) else(dataflowref46_Check.j1 k true x10002000 x10002001 x10002002 x10002003 x10002004)))) else((dataflowref07_Ident.f k x10002001).bind fun t10005=>(if t10005=true then(if x10002002.toList=([]:List UInt8) then(if x10002003.toList=([]:List UInt8) then(dataflowref46_Check.j1 k (x10002003.toList==([42]:List UInt8)) x10002000 x10002001 x10002002 x10002003 x10002004) else((dataflowref45_Word.f k x10002003).bind fun t10006=>(if t10006=true then(dataflowref46_Check.j1 k (x10002003.toList==([42]:List UInt8)) x10002000 x10002001 x10002002 x10002003 x10002004) else(dataflowref46_Check.j1 k true x10002000 x10002001 x10002002 x10002003 x10002004)))) else((dataflowref07_Ident.f k x10002002).bind fun t10007=>(if t10007=true then(if x10002003.toList=([]:List UInt8) then(dataflowref46_Check.j1 k (x10002003.toList==([42]:List UInt8)) x10002000 x10002001 x10002002 x10002003 x10002004) else((dataflowref45_Word.f k x10002003).bind fun t10008=>(if t10008=true then(dataflowref46_Check.j1 k (x10002003.toList==([42]:List UInt8)) x10002000 x10002001 x10002002 x10002003 x10002004) else(dataflowref46_Check.j1 k true x10002000 x10002001 x10002002 x10002003 x10002004)))) else(dataflowref46_Check.j1 k true x10002000 x10002001 x10002002 x10002003 x10002004)))) else(dataflowref46_Check.j1 k true x10002000 x10002001 x10002002 x10002003 x10002004))))
def dataflowref46_Check.j1:Nat→Bool→Int→ByteArray→ByteArray→ByteArray→ByteArray→Option (Int)
 |0,_,_,_,_,_,_=>none
 |k+1,x46,x10002000,x10002001,x10002002,x10002003,x10002004=>if x46=true then(some 5) else((dataflowref46_reason.f k x10002004).bind fun t10009=>(if t10009=true then(some 0) else(some 23)))
end
def dataflowref46_Check.f(k:Nat)(a0_0:Int)(a0_1:ByteArray)(a0_2:ByteArray)(a0_3:ByteArray)(a0_4:ByteArray):Option (Int):=if a0_0<0 then(dataflowref46_Check.j0 k true a0_0 a0_1 a0_2 a0_3 a0_4) else(dataflowref46_Check.j0 k (decide (a0_0>4)) a0_0 a0_1 a0_2 a0_3 a0_4)
theorem b9_1{p:Prop}(h:p:=by(with_reducible repeat(first|refine blk_drewN ?_ _|refine blk_drew ?_|refine blk_alloc ?_ _));exact BK10001.out):p:=h
theorem b9_2{p:Prop}(h:p:=by repeat(first|(with_reducible first|exact HB.out|apply below_alloc|apply pw_below_drewN|apply below_drew1|refine below_set ?_ GE10001.out)|exact HB.out)):p:=h
theorem b9_3{p:Prop}(h:p:=by have:=HJ1.out;first|omega|exact Nat.le_refl _):p:=h
theorem m9_0{p:Prop}(h:p:=by repeat' first|(with_reducible exact ih0 _ _ _ _ _ _)|(with_reducible exact ih1 _ _ _ _ _ _)|(with_reducible exact dataflowref07_Ident.mono _ _)|(with_reducible exact dataflowref45_Word.mono _ _)|(with_reducible exact dataflowref46_reason.mono _ _)|(with_reducible exact LeO.refl _)|(with_reducible exact LeO.none _)|(with_reducible refine LeO.ite ?_ ?_)|(with_reducible refine LeO.bind ?_ (fun _=>?_))|exact ih0 _ _ _ _ _ _|exact ih1 _ _ _ _ _ _|exact dataflowref07_Ident.mono _ _|exact dataflowref45_Word.mono _ _|exact dataflowref46_reason.mono _ _|exact LeO.none _|refine LeO.ite ?_ ?_|refine LeO.bind ?_ (fun _=>?_)):p:=h
theorem dataflowref46_Check.mono_l:∀ k,(∀ y0 y1 y2 y3 y4 y5,LeO (dataflowref46_Check.j0 k y0 y1 y2 y3 y4 y5) (dataflowref46_Check.j0 (k+1) y0 y1 y2 y3 y4 y5))∧(∀ y0 y1 y2 y3 y4 y5,LeO (dataflowref46_Check.j1 k y0 y1 y2 y3 y4 y5) (dataflowref46_Check.j1 (k+1) y0 y1 y2 y3 y4 y5))
 |0=>⟨fun _ _ _ _ _ _ r h=>by simp [dataflowref46_Check.j0] at h,fun _ _ _ _ _ _ r h=>by simp [dataflowref46_Check.j1] at h⟩
 |k+1=>by
  obtain⟨ih0,ih1⟩:=dataflowref46_Check.mono_l k;refine⟨?_,?_⟩
  ·intro y0 y1 y2 y3 y4 y5;unfold dataflowref46_Check.j0;exact m9_0
  ·intro y0 y1 y2 y3 y4 y5;unfold dataflowref46_Check.j1;exact m9_0
theorem dataflowref46_Check.mono:∀ a0 a1 a2 a3 a4 k,LeO (dataflowref46_Check.f k a0 a1 a2 a3 a4) (dataflowref46_Check.f (k+1) a0 a1 a2 a3 a4):=by
 intro a0 a1 a2 a3 a4 k;obtain⟨ih0,ih1⟩:=dataflowref46_Check.mono_l k;unfold dataflowref46_Check.f;exact m9_0
set_option maxHeartbeats 8000000 in
set_option maxRecDepth 100000 in
theorem dataflowref46_Check.calls(k:Nat)(a0_0:Int)(a0_1:ByteArray)(a0_2:ByteArray)(a0_3:ByteArray)(a0_4:ByteArray)(r:Int)(w:World)(h:dataflowref46_Check.f k a0_0 a0_1 a0_2 a0_3 a0_4=some r) :
  Calls Tryd.prog 9 #[.agg #[.int .i64 a0_0,.string a0_1,.string a0_2,.string a0_3,.string a0_4]] w fun e w'=>e=.returned (.int .i64 r)∧Below w.heap.size w w':=by
 have hu23:=Tryd.underlying23;have HB:=Aside0.mk (Below.refl w.heap.size w);have H:(if a0_0<0 then(dataflowref46_Check.j0 k true a0_0 a0_1 a0_2 a0_3 a0_4) else(dataflowref46_Check.j0 k (decide (a0_0>4)) a0_0 a0_1 a0_2 a0_3 a0_4))=some r:=h;clear h;have HC2:=Aside0.mk H;clear H;go_enter Tryd.func9,Tryd.ntmps9
 go_upto_region 1 with (first|((with_reducible refine gate_dst (N:=1) rfl ?_);refine box_event ?hg (N:=1) ?hd (cs:=#[.int .i64 a0_0,.string a0_1,.string a0_2,.string a0_3,.string a0_4]) (t:=23) ?hr ?_;(case hd=>rfl);(case hg=>rfl);(case hr=>first|(go_simp;done)|(go_simp;rfl));intro gb10001 hg w3 hbox hb;have n_:=as4_ (below_step bl_ hb) hbox ((by rw [hg];exact(below_size bl_):w.heap.size≤gb10001)) ((by rw [hg];exact(below_size bl_):w.heap.size≤gb10001));clear HB;obtain⟨HB,BK10001,GW10001,GE10001⟩:=n_;clear hb hbox hg))
 (try simp only [Act.put,List.setIfInBounds_toArray,List.set_cons_zero,List.set_cons_succ])
 go_cut [10] (fun v10 wc=>∃ (kq:Nat) (x10_1:Bool),v10=.bool x10_1∧Aside0 (dataflowref46_Check.j0 kq x10_1 a0_0 a0_1 a0_2 a0_3 a0_4=some r)∧Aside0 (kq≤k)∧Aside0 (wc.heap[gb10001]?=some (.cells #[.int .i64 a0_0,.string a0_1,.string a0_2,.string a0_3,.string a0_4] 23 (0,0)))∧Aside0 (Below w.heap.size w wc))
 case first =>
  have H:=HC2.out;clear HC2
  by_cases c4:a0_0<0
  ·rw [if_pos c4] at H;have c4b0:decide (a0_0<0)=true:=decide_eq_true c4;clear c4
   (first|rw [c4b0]|(simp only [i64_w,i32_w];rw [c4b0])|skip)
   have H':=Aside0.mk H;clear H;obtain⟨hcz5_0,hcz5_1,hcz5_2,hcz5_3,hcz5_4,hfz5_0,hfz5_1,hfz5_2,hfz5_3,hfz5_4⟩:=cz5_ BK10001.out;go_wp2
   go_meet
   case rel=>exact⟨_,(true),fr_,H',⟨(by first|omega|exact Nat.le_refl _)⟩,⟨b9_1⟩,⟨b9_2⟩⟩
  ·rw [if_neg c4] at H;have c4b0:decide (a0_0<0)=false:=decide_eq_false c4;clear c4
   (first|rw [c4b0]|(simp only [i64_w,i32_w];rw [c4b0])|skip)
   have H':=Aside0.mk H;clear H;obtain⟨hcz6_0,hcz6_1,hcz6_2,hcz6_3,hcz6_4,hfz6_0,hfz6_1,hfz6_2,hfz6_3,hfz6_4⟩:=cz5_ BK10001.out;go_wp2
   go_meet
   case rel=>exact⟨_,(decide (a0_0>4)),fr_,H',⟨(by first|omega|exact Nat.le_refl _)⟩,⟨b9_1⟩,⟨b9_2⟩⟩
 case rest =>
  clear HC2;(try clear p2);(try clear c4);(try clear c4b0);(try clear hcz5_0 hcz5_1 hcz5_2 hcz5_3 hcz5_4);(try clear hcz6_0 hcz6_1 hcz6_2 hcz6_3 hcz6_4);(try clear hfz5_0 hfz5_1 hfz5_2 hfz5_3 hfz5_4);(try clear hfz6_0 hfz6_1 hfz6_2 hfz6_3 hfz6_4);obtain⟨kq,x10_1,rfl,HA,HJ1,BK10001,HB⟩:=hcut
  cases kq with
  |zero=>exact absurd HA.out (by simp [dataflowref46_Check.j0])
  |succ kj1 =>
   have H:=HA.out;clear HA;simp only [dataflowref46_Check.j0] at H
   by_cases c7:x10_1=true
   ·subst c7;rw [if_pos rfl] at H;obtain rfl:=Option.some.inj H;go_wp2;go_ret;exact⟨er_,b9_2⟩
   ·replace c7:=Bool.eq_false_iff.mpr c7;subst c7;rw [if_neg nf_] at H;have HC8:=Aside0.mk H;clear H
    go_upto_region 3 with (fail)
    go_cut [46] (fun v46 wc=>∃ (kq:Nat) (x46_7:Bool),v46=.bool x46_7∧Aside0 (dataflowref46_Check.j1 kq x46_7 a0_0 a0_1 a0_2 a0_3 a0_4=some r)∧Aside0 (kq≤kj1)∧Aside0 (wc.heap[gb10001]?=some (.cells #[.int .i64 a0_0,.string a0_1,.string a0_2,.string a0_3,.string a0_4] 23 (0,0)))∧Aside0 (Below w.heap.size w wc))
    case first =>
     have H:=HC8.out;clear HC8
     by_cases c9:a0_1.toList=([]:List UInt8)
     ·rw [if_pos c9] at H;obtain⟨c9b0,c9b1⟩:=eqT_ c9;clear c9
      (first|rw [c9b0]|(simp only [i64_w,i32_w];rw [c9b0])|skip)
      by_cases c10:a0_2.toList=([]:List UInt8)
      ·rw [if_pos c10] at H;obtain⟨c10b0,c10b1⟩:=eqT_ c10;clear c10
       by_cases c11:a0_3.toList=([]:List UInt8)
       ·rw [if_pos c11] at H;obtain⟨c11b0,c11b1⟩:=eqT_ c11;clear c11;have H':=Aside0.mk H;clear H;obtain⟨hcz12_0,hcz12_1,hcz12_2,hcz12_3,hcz12_4,hfz12_0,hfz12_1,hfz12_2,hfz12_3,hfz12_4⟩:=cz5_ BK10001.out;go_wp2
        go_meet
        case rel=>exact⟨_,((a0_3.toList==([42]:List UInt8))),fr_,H',⟨b9_3⟩,⟨b9_1⟩,⟨b9_2⟩⟩
       ·rw [if_neg c11] at H;obtain⟨c11b0,c11b1⟩:=eqF_ c11;replace H:=Option.bind_eq_some_iff.mp H;obtain⟨t10002,A130,H⟩:=H;have A13:=Aside0.mk A130;clear A130
        by_cases c14:t10002=true
        ·subst c14;rw [if_pos rfl] at H;have H':=Aside0.mk H;clear H;obtain⟨hcz15_0,hcz15_1,hcz15_2,hcz15_3,hcz15_4,hfz15_0,hfz15_1,hfz15_2,hfz15_3,hfz15_4⟩:=cz5_ BK10001.out
         go_wp2_with (first|(go_at_call 27;(with_reducible refine(dataflowref45_Word.calls kj1 a0_3 true _ A13.out).mono ?_);rintro e w' ⟨rfl,⟨nd,rfl⟩⟩))
         go_meet
         case rel=>exact⟨_,((a0_3.toList==([42]:List UInt8))),fr_,H',⟨b9_3⟩,⟨b9_1⟩,⟨b9_2⟩⟩
        ·replace c14:=Bool.eq_false_iff.mpr c14;subst c14;rw [if_neg nf_] at H;have H':=Aside0.mk H;clear H;obtain⟨hcz16_0,hcz16_1,hcz16_2,hcz16_3,hcz16_4,hfz16_0,hfz16_1,hfz16_2,hfz16_3,hfz16_4⟩:=cz5_ BK10001.out
         go_wp2_with (first|(go_at_call 27;(with_reducible refine(dataflowref45_Word.calls kj1 a0_3 false _ A13.out).mono ?_);rintro e w' ⟨rfl,⟨nd,rfl⟩⟩))
         go_meet
         case rel=>exact⟨_,(true),fr_,H',⟨b9_3⟩,⟨b9_1⟩,⟨b9_2⟩⟩
      ·rw [if_neg c10] at H;obtain⟨c10b0,c10b1⟩:=eqF_ c10;replace H:=Option.bind_eq_some_iff.mp H;obtain⟨t10003,A170,H⟩:=H;have A17:=Aside0.mk A170;clear A170
       by_cases c18:t10003=true
       ·subst c18;rw [if_pos rfl] at H
        by_cases c19:a0_3.toList=([]:List UInt8)
        ·rw [if_pos c19] at H;obtain⟨c19b0,c19b1⟩:=eqT_ c19;clear c19;have H':=Aside0.mk H;clear H;obtain⟨hcz20_0,hcz20_1,hcz20_2,hcz20_3,hcz20_4,hfz20_0,hfz20_1,hfz20_2,hfz20_3,hfz20_4⟩:=cz5_ BK10001.out
         go_wp2_with (first|(go_at_call 26;(with_reducible refine(dataflowref07_Ident.calls kj1 a0_2 true _ A17.out).mono ?_);rintro e w21 ⟨rfl,hb⟩;have n_:=as2_ (blk_below (g:=gb10001) (o:=.cells #[.int .i64 a0_0,.string a0_1,.string a0_2,.string a0_3,.string a0_4] 23 (0,0)) b9_1 hb) (below_step b9_2 hb);clear BK10001 HB;obtain⟨BK10001,HB⟩:=n_;(try clear hb);obtain⟨hcz22_0,hcz22_1,hcz22_2,hcz22_3,hcz22_4,hfz22_0,hfz22_1,hfz22_2,hfz22_3,hfz22_4⟩:=cz5_ BK10001.out))
         go_meet
         case rel=>exact⟨_,((a0_3.toList==([42]:List UInt8))),fr_,H',⟨b9_3⟩,⟨b9_1⟩,⟨b9_2⟩⟩
        ·rw [if_neg c19] at H;obtain⟨c19b0,c19b1⟩:=eqF_ c19;replace H:=Option.bind_eq_some_iff.mp H;obtain⟨t10004,A230,H⟩:=H;have A23:=Aside0.mk A230;clear A230
         by_cases c24:t10004=true
         ·subst c24;rw [if_pos rfl] at H;have H':=Aside0.mk H;clear H;obtain⟨hcz25_0,hcz25_1,hcz25_2,hcz25_3,hcz25_4,hfz25_0,hfz25_1,hfz25_2,hfz25_3,hfz25_4⟩:=cz5_ BK10001.out
          go_wp2_with (first|(go_at_call 26;(with_reducible refine(dataflowref07_Ident.calls kj1 a0_2 true _ A17.out).mono ?_);rintro e w26 ⟨rfl,hb⟩;have n_:=as2_ (blk_below (g:=gb10001) (o:=.cells #[.int .i64 a0_0,.string a0_1,.string a0_2,.string a0_3,.string a0_4] 23 (0,0)) b9_1 hb) (below_step b9_2 hb);clear BK10001 HB;obtain⟨BK10001,HB⟩:=n_;(try clear hb);obtain⟨hcz27_0,hcz27_1,hcz27_2,hcz27_3,hcz27_4,hfz27_0,hfz27_1,hfz27_2,hfz27_3,hfz27_4⟩:=cz5_ BK10001.out)|(go_at_call 27;(with_reducible refine(dataflowref45_Word.calls kj1 a0_3 true _ A23.out).mono ?_);rintro e w' ⟨rfl,⟨nd,rfl⟩⟩))
          go_meet
          case rel=>exact⟨_,((a0_3.toList==([42]:List UInt8))),fr_,H',⟨b9_3⟩,⟨b9_1⟩,⟨b9_2⟩⟩
         ·replace c24:=Bool.eq_false_iff.mpr c24;subst c24;rw [if_neg nf_] at H;have H':=Aside0.mk H;clear H;obtain⟨hcz28_0,hcz28_1,hcz28_2,hcz28_3,hcz28_4,hfz28_0,hfz28_1,hfz28_2,hfz28_3,hfz28_4⟩:=cz5_ BK10001.out
          go_wp2_with (first|(go_at_call 26;(with_reducible refine(dataflowref07_Ident.calls kj1 a0_2 true _ A17.out).mono ?_);rintro e w29 ⟨rfl,hb⟩;have n_:=as2_ (blk_below (g:=gb10001) (o:=.cells #[.int .i64 a0_0,.string a0_1,.string a0_2,.string a0_3,.string a0_4] 23 (0,0)) b9_1 hb) (below_step b9_2 hb);clear BK10001 HB;obtain⟨BK10001,HB⟩:=n_;(try clear hb);obtain⟨hcz30_0,hcz30_1,hcz30_2,hcz30_3,hcz30_4,hfz30_0,hfz30_1,hfz30_2,hfz30_3,hfz30_4⟩:=cz5_ BK10001.out)|(go_at_call 27;(with_reducible refine(dataflowref45_Word.calls kj1 a0_3 false _ A23.out).mono ?_);rintro e w' ⟨rfl,⟨nd,rfl⟩⟩))
          go_meet
          case rel=>exact⟨_,(true),fr_,H',⟨b9_3⟩,⟨b9_1⟩,⟨b9_2⟩⟩
       ·replace c18:=Bool.eq_false_iff.mpr c18;subst c18;rw [if_neg nf_] at H;have H':=Aside0.mk H;clear H;obtain⟨hcz31_0,hcz31_1,hcz31_2,hcz31_3,hcz31_4,hfz31_0,hfz31_1,hfz31_2,hfz31_3,hfz31_4⟩:=cz5_ BK10001.out
        go_wp2_with (first|(go_at_call 26;(with_reducible refine(dataflowref07_Ident.calls kj1 a0_2 false _ A17.out).mono ?_);rintro e w32 ⟨rfl,hb⟩;have n_:=as2_ (blk_below (g:=gb10001) (o:=.cells #[.int .i64 a0_0,.string a0_1,.string a0_2,.string a0_3,.string a0_4] 23 (0,0)) b9_1 hb) (below_step b9_2 hb);clear BK10001 HB;obtain⟨BK10001,HB⟩:=n_;(try clear hb)))
        go_meet
        case rel=>exact⟨_,(true),fr_,H',⟨b9_3⟩,⟨b9_1⟩,⟨b9_2⟩⟩
     ·rw [if_neg c9] at H;obtain⟨c9b0,c9b1⟩:=eqF_ c9
      (first|rw [c9b0]|(simp only [i64_w,i32_w];rw [c9b0])|skip)
      replace H:=Option.bind_eq_some_iff.mp H;obtain⟨t10005,A330,H⟩:=H;have A33:=Aside0.mk A330;clear A330
      by_cases c34:t10005=true
      ·subst c34;rw [if_pos rfl] at H
       by_cases c35:a0_2.toList=([]:List UInt8)
       ·rw [if_pos c35] at H;obtain⟨c35b0,c35b1⟩:=eqT_ c35;clear c35
        by_cases c36:a0_3.toList=([]:List UInt8)
        ·rw [if_pos c36] at H;obtain⟨c36b0,c36b1⟩:=eqT_ c36;clear c36;have H':=Aside0.mk H;clear H;obtain⟨hcz37_0,hcz37_1,hcz37_2,hcz37_3,hcz37_4,hfz37_0,hfz37_1,hfz37_2,hfz37_3,hfz37_4⟩:=cz5_ BK10001.out
         go_wp2_with (first|(go_at_call 26;(with_reducible refine(dataflowref07_Ident.calls kj1 a0_1 true _ A33.out).mono ?_);rintro e w38 ⟨rfl,hb⟩;have n_:=as2_ (blk_below (g:=gb10001) (o:=.cells #[.int .i64 a0_0,.string a0_1,.string a0_2,.string a0_3,.string a0_4] 23 (0,0)) b9_1 hb) (below_step b9_2 hb);clear BK10001 HB;obtain⟨BK10001,HB⟩:=n_;(try clear hb);obtain⟨hcz39_0,hcz39_1,hcz39_2,hcz39_3,hcz39_4,hfz39_0,hfz39_1,hfz39_2,hfz39_3,hfz39_4⟩:=cz5_ BK10001.out))
         go_meet
         case rel=>exact⟨_,((a0_3.toList==([42]:List UInt8))),fr_,H',⟨b9_3⟩,⟨b9_1⟩,⟨b9_2⟩⟩
        ·rw [if_neg c36] at H;obtain⟨c36b0,c36b1⟩:=eqF_ c36;replace H:=Option.bind_eq_some_iff.mp H;obtain⟨t10006,A400,H⟩:=H;have A40:=Aside0.mk A400;clear A400
         by_cases c41:t10006=true
         ·subst c41;rw [if_pos rfl] at H;have H':=Aside0.mk H;clear H;obtain⟨hcz42_0,hcz42_1,hcz42_2,hcz42_3,hcz42_4,hfz42_0,hfz42_1,hfz42_2,hfz42_3,hfz42_4⟩:=cz5_ BK10001.out
          go_wp2_with (first|(go_at_call 26;(with_reducible refine(dataflowref07_Ident.calls kj1 a0_1 true _ A33.out).mono ?_);rintro e w43 ⟨rfl,hb⟩;have n_:=as2_ (blk_below (g:=gb10001) (o:=.cells #[.int .i64 a0_0,.string a0_1,.string a0_2,.string a0_3,.string a0_4] 23 (0,0)) b9_1 hb) (below_step b9_2 hb);clear BK10001 HB;obtain⟨BK10001,HB⟩:=n_;(try clear hb);obtain⟨hcz44_0,hcz44_1,hcz44_2,hcz44_3,hcz44_4,hfz44_0,hfz44_1,hfz44_2,hfz44_3,hfz44_4⟩:=cz5_ BK10001.out)|(go_at_call 27;(with_reducible refine(dataflowref45_Word.calls kj1 a0_3 true _ A40.out).mono ?_);rintro e w' ⟨rfl,⟨nd,rfl⟩⟩))
          go_meet
          case rel=>exact⟨_,((a0_3.toList==([42]:List UInt8))),fr_,H',⟨b9_3⟩,⟨b9_1⟩,⟨b9_2⟩⟩
         ·replace c41:=Bool.eq_false_iff.mpr c41;subst c41;rw [if_neg nf_] at H;have H':=Aside0.mk H;clear H;obtain⟨hcz45_0,hcz45_1,hcz45_2,hcz45_3,hcz45_4,hfz45_0,hfz45_1,hfz45_2,hfz45_3,hfz45_4⟩:=cz5_ BK10001.out
          go_wp2_with (first|(go_at_call 26;(with_reducible refine(dataflowref07_Ident.calls kj1 a0_1 true _ A33.out).mono ?_);rintro e w46 ⟨rfl,hb⟩;have n_:=as2_ (blk_below (g:=gb10001) (o:=.cells #[.int .i64 a0_0,.string a0_1,.string a0_2,.string a0_3,.string a0_4] 23 (0,0)) b9_1 hb) (below_step b9_2 hb);clear BK10001 HB;obtain⟨BK10001,HB⟩:=n_;(try clear hb);obtain⟨hcz47_0,hcz47_1,hcz47_2,hcz47_3,hcz47_4,hfz47_0,hfz47_1,hfz47_2,hfz47_3,hfz47_4⟩:=cz5_ BK10001.out)|(go_at_call 27;(with_reducible refine(dataflowref45_Word.calls kj1 a0_3 false _ A40.out).mono ?_);rintro e w' ⟨rfl,⟨nd,rfl⟩⟩))
          go_meet
          case rel=>exact⟨_,(true),fr_,H',⟨b9_3⟩,⟨b9_1⟩,⟨b9_2⟩⟩
       ·rw [if_neg c35] at H;obtain⟨c35b0,c35b1⟩:=eqF_ c35;replace H:=Option.bind_eq_some_iff.mp H;obtain⟨t10007,A480,H⟩:=H;have A48:=Aside0.mk A480;clear A480
        by_cases c49:t10007=true
        ·subst c49;rw [if_pos rfl] at H
         by_cases c50:a0_3.toList=([]:List UInt8)
         ·rw [if_pos c50] at H;obtain⟨c50b0,c50b1⟩:=eqT_ c50;clear c50;have H':=Aside0.mk H;clear H;obtain⟨hcz51_0,hcz51_1,hcz51_2,hcz51_3,hcz51_4,hfz51_0,hfz51_1,hfz51_2,hfz51_3,hfz51_4⟩:=cz5_ BK10001.out
          go_wp2_with (first|(go_at_call 26;(with_reducible refine(dataflowref07_Ident.calls kj1 a0_1 true _ A33.out).mono ?_);rintro e w52 ⟨rfl,hb⟩;have n_:=as2_ (blk_below (g:=gb10001) (o:=.cells #[.int .i64 a0_0,.string a0_1,.string a0_2,.string a0_3,.string a0_4] 23 (0,0)) b9_1 hb) (below_step b9_2 hb);clear BK10001 HB;obtain⟨BK10001,HB⟩:=n_;(try clear hb);obtain⟨hcz53_0,hcz53_1,hcz53_2,hcz53_3,hcz53_4,hfz53_0,hfz53_1,hfz53_2,hfz53_3,hfz53_4⟩:=cz5_ BK10001.out)|(go_at_call 26;(with_reducible refine(dataflowref07_Ident.calls kj1 a0_2 true _ A48.out).mono ?_);rintro e w54 ⟨rfl,hb⟩;have n_:=as2_ (blk_below (g:=gb10001) (o:=.cells #[.int .i64 a0_0,.string a0_1,.string a0_2,.string a0_3,.string a0_4] 23 (0,0)) b9_1 hb) (below_step b9_2 hb);clear BK10001 HB;obtain⟨BK10001,HB⟩:=n_;(try clear hb);obtain⟨hcz55_0,hcz55_1,hcz55_2,hcz55_3,hcz55_4,hfz55_0,hfz55_1,hfz55_2,hfz55_3,hfz55_4⟩:=cz5_ BK10001.out))
          go_meet
          case rel=>exact⟨_,((a0_3.toList==([42]:List UInt8))),fr_,H',⟨b9_3⟩,⟨b9_1⟩,⟨b9_2⟩⟩
         ·rw [if_neg c50] at H;obtain⟨c50b0,c50b1⟩:=eqF_ c50;replace H:=Option.bind_eq_some_iff.mp H;obtain⟨t10008,A560,H⟩:=H;have A56:=Aside0.mk A560;clear A560
          by_cases c57:t10008=true
          ·subst c57;rw [if_pos rfl] at H;have H':=Aside0.mk H;clear H;obtain⟨hcz58_0,hcz58_1,hcz58_2,hcz58_3,hcz58_4,hfz58_0,hfz58_1,hfz58_2,hfz58_3,hfz58_4⟩:=cz5_ BK10001.out
           go_wp2_with (first|(go_at_call 26;(with_reducible refine(dataflowref07_Ident.calls kj1 a0_1 true _ A33.out).mono ?_);rintro e w59 ⟨rfl,hb⟩;have n_:=as2_ (blk_below (g:=gb10001) (o:=.cells #[.int .i64 a0_0,.string a0_1,.string a0_2,.string a0_3,.string a0_4] 23 (0,0)) b9_1 hb) (below_step b9_2 hb);clear BK10001 HB;obtain⟨BK10001,HB⟩:=n_;(try clear hb);obtain⟨hcz60_0,hcz60_1,hcz60_2,hcz60_3,hcz60_4,hfz60_0,hfz60_1,hfz60_2,hfz60_3,hfz60_4⟩:=cz5_ BK10001.out)|(go_at_call 26;(with_reducible refine(dataflowref07_Ident.calls kj1 a0_2 true _ A48.out).mono ?_);rintro e w61 ⟨rfl,hb⟩;have n_:=as2_ (blk_below (g:=gb10001) (o:=.cells #[.int .i64 a0_0,.string a0_1,.string a0_2,.string a0_3,.string a0_4] 23 (0,0)) b9_1 hb) (below_step b9_2 hb);clear BK10001 HB;obtain⟨BK10001,HB⟩:=n_;(try clear hb);obtain⟨hcz62_0,hcz62_1,hcz62_2,hcz62_3,hcz62_4,hfz62_0,hfz62_1,hfz62_2,hfz62_3,hfz62_4⟩:=cz5_ BK10001.out)|(go_at_call 27;(with_reducible refine(dataflowref45_Word.calls kj1 a0_3 true _ A56.out).mono ?_);rintro e w' ⟨rfl,⟨nd,rfl⟩⟩))
           go_meet
           case rel=>exact⟨_,((a0_3.toList==([42]:List UInt8))),fr_,H',⟨b9_3⟩,⟨b9_1⟩,⟨b9_2⟩⟩
          ·replace c57:=Bool.eq_false_iff.mpr c57;subst c57;rw [if_neg nf_] at H;have H':=Aside0.mk H;clear H;obtain⟨hcz63_0,hcz63_1,hcz63_2,hcz63_3,hcz63_4,hfz63_0,hfz63_1,hfz63_2,hfz63_3,hfz63_4⟩:=cz5_ BK10001.out
           go_wp2_with (first|(go_at_call 26;(with_reducible refine(dataflowref07_Ident.calls kj1 a0_1 true _ A33.out).mono ?_);rintro e w64 ⟨rfl,hb⟩;have n_:=as2_ (blk_below (g:=gb10001) (o:=.cells #[.int .i64 a0_0,.string a0_1,.string a0_2,.string a0_3,.string a0_4] 23 (0,0)) b9_1 hb) (below_step b9_2 hb);clear BK10001 HB;obtain⟨BK10001,HB⟩:=n_;(try clear hb);obtain⟨hcz65_0,hcz65_1,hcz65_2,hcz65_3,hcz65_4,hfz65_0,hfz65_1,hfz65_2,hfz65_3,hfz65_4⟩:=cz5_ BK10001.out)|(go_at_call 26;(with_reducible refine(dataflowref07_Ident.calls kj1 a0_2 true _ A48.out).mono ?_);rintro e w66 ⟨rfl,hb⟩;have n_:=as2_ (blk_below (g:=gb10001) (o:=.cells #[.int .i64 a0_0,.string a0_1,.string a0_2,.string a0_3,.string a0_4] 23 (0,0)) b9_1 hb) (below_step b9_2 hb);clear BK10001 HB;obtain⟨BK10001,HB⟩:=n_;(try clear hb);obtain⟨hcz67_0,hcz67_1,hcz67_2,hcz67_3,hcz67_4,hfz67_0,hfz67_1,hfz67_2,hfz67_3,hfz67_4⟩:=cz5_ BK10001.out)|(go_at_call 27;(with_reducible refine(dataflowref45_Word.calls kj1 a0_3 false _ A56.out).mono ?_);rintro e w' ⟨rfl,⟨nd,rfl⟩⟩))
           go_meet
           case rel=>exact⟨_,(true),fr_,H',⟨b9_3⟩,⟨b9_1⟩,⟨b9_2⟩⟩
        ·replace c49:=Bool.eq_false_iff.mpr c49;subst c49;rw [if_neg nf_] at H;have H':=Aside0.mk H;clear H;obtain⟨hcz68_0,hcz68_1,hcz68_2,hcz68_3,hcz68_4,hfz68_0,hfz68_1,hfz68_2,hfz68_3,hfz68_4⟩:=cz5_ BK10001.out
         go_wp2_with (first|(go_at_call 26;(with_reducible refine(dataflowref07_Ident.calls kj1 a0_1 true _ A33.out).mono ?_);rintro e w69 ⟨rfl,hb⟩;have n_:=as2_ (blk_below (g:=gb10001) (o:=.cells #[.int .i64 a0_0,.string a0_1,.string a0_2,.string a0_3,.string a0_4] 23 (0,0)) b9_1 hb) (below_step b9_2 hb);clear BK10001 HB;obtain⟨BK10001,HB⟩:=n_;(try clear hb);obtain⟨hcz70_0,hcz70_1,hcz70_2,hcz70_3,hcz70_4,hfz70_0,hfz70_1,hfz70_2,hfz70_3,hfz70_4⟩:=cz5_ BK10001.out)|(go_at_call 26;(with_reducible refine(dataflowref07_Ident.calls kj1 a0_2 false _ A48.out).mono ?_);rintro e w71 ⟨rfl,hb⟩;have n_:=as2_ (blk_below (g:=gb10001) (o:=.cells #[.int .i64 a0_0,.string a0_1,.string a0_2,.string a0_3,.string a0_4] 23 (0,0)) b9_1 hb) (below_step b9_2 hb);clear BK10001 HB;obtain⟨BK10001,HB⟩:=n_;(try clear hb)))
         go_meet
         case rel=>exact⟨_,(true),fr_,H',⟨b9_3⟩,⟨b9_1⟩,⟨b9_2⟩⟩
      ·replace c34:=Bool.eq_false_iff.mpr c34;subst c34;rw [if_neg nf_] at H;have H':=Aside0.mk H;clear H;obtain⟨hcz72_0,hcz72_1,hcz72_2,hcz72_3,hcz72_4,hfz72_0,hfz72_1,hfz72_2,hfz72_3,hfz72_4⟩:=cz5_ BK10001.out
       go_wp2_with (first|(go_at_call 26;(with_reducible refine(dataflowref07_Ident.calls kj1 a0_1 false _ A33.out).mono ?_);rintro e w73 ⟨rfl,hb⟩;have n_:=as2_ (blk_below (g:=gb10001) (o:=.cells #[.int .i64 a0_0,.string a0_1,.string a0_2,.string a0_3,.string a0_4] 23 (0,0)) b9_1 hb) (below_step b9_2 hb);clear BK10001 HB;obtain⟨BK10001,HB⟩:=n_;(try clear hb)))
       go_meet
       case rel=>exact⟨_,(true),fr_,H',⟨b9_3⟩,⟨b9_1⟩,⟨b9_2⟩⟩
    case rest =>
     clear HC8;(try clear c1);(try clear c2);(try clear p2);(try clear c3);(try clear c4);(try clear c4b0);(try clear c5);(try clear c7);(try clear c9);(try clear c9b0);(try clear c9b1);(try clear c10);(try clear c10b0);(try clear c10b1);(try clear c11);(try clear c11b0);(try clear c11b1);(try clear c14);(try clear c18);(try clear c19);(try clear c19b0);(try clear c19b1);(try clear c24);(try clear c34);(try clear c35);(try clear c35b0);(try clear c35b1);(try clear c36);(try clear c36b0);(try clear c36b1);(try clear c41);(try clear c49);(try clear c50);(try clear c50b0);(try clear c50b1);(try clear c57);(try clear hcz12_0 hcz12_1 hcz12_2 hcz12_3 hcz12_4);(try clear hcz15_0 hcz15_1 hcz15_2 hcz15_3 hcz15_4);(try clear hcz16_0 hcz16_1 hcz16_2 hcz16_3 hcz16_4);(try clear hcz20_0 hcz20_1 hcz20_2 hcz20_3 hcz20_4);(try clear hcz22_0 hcz22_1 hcz22_2 hcz22_3 hcz22_4);(try clear hcz25_0 hcz25_1 hcz25_2 hcz25_3 hcz25_4);(try clear hcz27_0 hcz27_1 hcz27_2 hcz27_3 hcz27_4);(try clear hcz28_0 hcz28_1 hcz28_2 hcz28_3 hcz28_4);(try clear hcz30_0 hcz30_1 hcz30_2 hcz30_3 hcz30_4);(try clear hcz31_0 hcz31_1 hcz31_2 hcz31_3 hcz31_4);(try clear hcz37_0 hcz37_1 hcz37_2 hcz37_3 hcz37_4);(try clear hcz39_0 hcz39_1 hcz39_2 hcz39_3 hcz39_4);(try clear hcz42_0 hcz42_1 hcz42_2 hcz42_3 hcz42_4);(try clear hcz44_0 hcz44_1 hcz44_2 hcz44_3 hcz44_4);(try clear hcz45_0 hcz45_1 hcz45_2 hcz45_3 hcz45_4);(try clear hcz47_0 hcz47_1 hcz47_2 hcz47_3 hcz47_4);(try clear hcz51_0 hcz51_1 hcz51_2 hcz51_3 hcz51_4);(try clear hcz53_0 hcz53_1 hcz53_2 hcz53_3 hcz53_4);(try clear hcz55_0 hcz55_1 hcz55_2 hcz55_3 hcz55_4);(try clear hcz58_0 hcz58_1 hcz58_2 hcz58_3 hcz58_4);(try clear hcz5_0 hcz5_1 hcz5_2 hcz5_3 hcz5_4);(try clear hcz60_0 hcz60_1 hcz60_2 hcz60_3 hcz60_4);(try clear hcz62_0 hcz62_1 hcz62_2 hcz62_3 hcz62_4);(try clear hcz63_0 hcz63_1 hcz63_2 hcz63_3 hcz63_4);(try clear hcz65_0 hcz65_1 hcz65_2 hcz65_3 hcz65_4);(try clear hcz67_0 hcz67_1 hcz67_2 hcz67_3 hcz67_4);(try clear hcz68_0 hcz68_1 hcz68_2 hcz68_3 hcz68_4);(try clear hcz6_0 hcz6_1 hcz6_2 hcz6_3 hcz6_4);(try clear hcz70_0 hcz70_1 hcz70_2 hcz70_3 hcz70_4);(try clear hcz72_0 hcz72_1 hcz72_2 hcz72_3 hcz72_4);(try clear hfz12_0 hfz12_1 hfz12_2 hfz12_3 hfz12_4);(try clear hfz15_0 hfz15_1 hfz15_2 hfz15_3 hfz15_4);(try clear hfz16_0 hfz16_1 hfz16_2 hfz16_3 hfz16_4);(try clear hfz20_0 hfz20_1 hfz20_2 hfz20_3 hfz20_4);(try clear hfz22_0 hfz22_1 hfz22_2 hfz22_3 hfz22_4);(try clear hfz25_0 hfz25_1 hfz25_2 hfz25_3 hfz25_4);(try clear hfz27_0 hfz27_1 hfz27_2 hfz27_3 hfz27_4);(try clear hfz28_0 hfz28_1 hfz28_2 hfz28_3 hfz28_4);(try clear hfz30_0 hfz30_1 hfz30_2 hfz30_3 hfz30_4);(try clear hfz31_0 hfz31_1 hfz31_2 hfz31_3 hfz31_4);(try clear hfz37_0 hfz37_1 hfz37_2 hfz37_3 hfz37_4);(try clear hfz39_0 hfz39_1 hfz39_2 hfz39_3 hfz39_4);(try clear hfz42_0 hfz42_1 hfz42_2 hfz42_3 hfz42_4);(try clear hfz44_0 hfz44_1 hfz44_2 hfz44_3 hfz44_4);(try clear hfz45_0 hfz45_1 hfz45_2 hfz45_3 hfz45_4);(try clear hfz47_0 hfz47_1 hfz47_2 hfz47_3 hfz47_4);(try clear hfz51_0 hfz51_1 hfz51_2 hfz51_3 hfz51_4);(try clear hfz53_0 hfz53_1 hfz53_2 hfz53_3 hfz53_4);(try clear hfz55_0 hfz55_1 hfz55_2 hfz55_3 hfz55_4);(try clear hfz58_0 hfz58_1 hfz58_2 hfz58_3 hfz58_4);(try clear hfz5_0 hfz5_1 hfz5_2 hfz5_3 hfz5_4);(try clear hfz60_0 hfz60_1 hfz60_2 hfz60_3 hfz60_4);(try clear hfz62_0 hfz62_1 hfz62_2 hfz62_3 hfz62_4);(try clear hfz63_0 hfz63_1 hfz63_2 hfz63_3 hfz63_4);(try clear hfz65_0 hfz65_1 hfz65_2 hfz65_3 hfz65_4);(try clear hfz67_0 hfz67_1 hfz67_2 hfz67_3 hfz67_4);(try clear hfz68_0 hfz68_1 hfz68_2 hfz68_3 hfz68_4);(try clear hfz6_0 hfz6_1 hfz6_2 hfz6_3 hfz6_4);(try clear hfz70_0 hfz70_1 hfz70_2 hfz70_3 hfz70_4);(try clear hfz72_0 hfz72_1 hfz72_2 hfz72_3 hfz72_4);(try clear p2);obtain⟨kq,x46_7,rfl,HA,HJ7,BK10001,HB⟩:=hcut
     cases kq with
     |zero=>exact absurd HA.out (by simp [dataflowref46_Check.j1])
     |succ kj7 =>
      have H:=HA.out;clear HA;simp only [dataflowref46_Check.j1] at H
      by_cases c74:x46_7=true
      ·subst c74;rw [if_pos rfl] at H;obtain rfl:=Option.some.inj H;go_wp2;go_ret;exact⟨er_,b9_2⟩
      ·replace c74:=Bool.eq_false_iff.mpr c74;subst c74;rw [if_neg nf_] at H;replace H:=Option.bind_eq_some_iff.mp H;obtain⟨t10009,A750,H⟩:=H;have A75:=Aside0.mk A750;clear A750
       by_cases c76:t10009=true
       ·subst c76;rw [if_pos rfl] at H;obtain rfl:=Option.some.inj H;obtain⟨hcz77_0,hcz77_1,hcz77_2,hcz77_3,hcz77_4,hfz77_0,hfz77_1,hfz77_2,hfz77_3,hfz77_4⟩:=cz5_ BK10001.out
        go_wp2_with (first|((with_reducible refine gate_callee (f:=28) rfl ?_);refine goesL_ (some 49) rfl rfl Tryd.func28 (by kernel_rfl) rfl #[.string a0_4] rfl mp_ ?_;(with_reducible refine(dataflowref46_reason.calls kj7 a0_4 true _ A75.out).mono ?_);rintro e w' ⟨rfl,⟨nd,rfl⟩⟩;refine⟨_,rfl,?_⟩))
        go_ret;exact⟨er_,b9_2⟩
       ·replace c76:=Bool.eq_false_iff.mpr c76;subst c76;rw [if_neg nf_] at H;obtain rfl:=Option.some.inj H;obtain⟨hcz78_0,hcz78_1,hcz78_2,hcz78_3,hcz78_4,hfz78_0,hfz78_1,hfz78_2,hfz78_3,hfz78_4⟩:=cz5_ BK10001.out
        go_wp2_with (first|((with_reducible refine gate_callee (f:=28) rfl ?_);refine goesL_ (some 49) rfl rfl Tryd.func28 (by kernel_rfl) rfl #[.string a0_4] rfl mp_ ?_;(with_reducible refine(dataflowref46_reason.calls kj7 a0_4 false _ A75.out).mono ?_);rintro e w' ⟨rfl,⟨nd,rfl⟩⟩;refine⟨_,rfl,?_⟩))
        go_ret;exact⟨er_,b9_2⟩
end Go.Proofs.YtnoangbidnigdaaDoor.H

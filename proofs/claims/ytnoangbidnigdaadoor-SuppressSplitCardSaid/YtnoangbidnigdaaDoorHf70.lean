/- Printed (xprint.py): Go functions as Lean functions, each with the proof that its call does what the Lean function says. -/
import Derived.Test.YtnoangbidnigdaaDoorH0
import Derived.Test.YtnoangbidnigdaaDoorHa
import Derived.Test.YtnoangbidnigdaaDoorHc
namespace Go.Proofs.YtnoangbidnigdaaDoor.H
open Go.RowKit Go.Proofs.YtnoangbidnigdaaDoorW.PrintWords Go.Proofs.YtnoangbidnigdaaDoorW.PrintLast Go.Proofs.YtnoangbidnigdaaDoorW.PrintMore
attribute [local go_sem] max2_int min2_int max_two min_two max_three min_three max_four min_four   -- for this text's walks alone
set_option linter.unusedVariables false
set_option linter.unusedSimpArgs false
/-! ### dataflowref45_named: function 70 -/
def dataflowref45_named.j0:Nat→ByteArray→Int→Bool→Option (Bool)
 |0,_,_,_=>none
 |k+1,x1,x5,x6=>if x6=true then((dataflowref07_Ident.f k x1).bind fun t71001=>(some t71001)) else(if x5=4 then(if x1.toList=([116,114,117,101]:List UInt8) then(some true) else(some (x1.toList==([102,97,108,115,101]:List UInt8)))) else((dataflowref45_Word.f k x1).bind fun t71002=>(some t71002)))
def dataflowref45_named.f(k:Nat)(a0:Int)(a1:ByteArray):Option (Bool):=if a0=2 then(dataflowref45_named.j0 k a1 a0 (a0==2)) else(dataflowref45_named.j0 k a1 a0 (a0==3))
theorem m70_0{p:Prop}(h:p:=by repeat' first|(with_reducible exact ih0 _ _ _)|(with_reducible exact dataflowref07_Ident.mono _ _)|(with_reducible exact dataflowref45_Word.mono _ _)|(with_reducible exact LeO.refl _)|(with_reducible exact LeO.none _)|(with_reducible refine LeO.ite ?_ ?_)|(with_reducible refine LeO.bind ?_ (fun _=>?_))|exact ih0 _ _ _|exact dataflowref07_Ident.mono _ _|exact dataflowref45_Word.mono _ _|exact LeO.none _|refine LeO.ite ?_ ?_|refine LeO.bind ?_ (fun _=>?_)):p:=h
theorem dataflowref45_named.mono_l:∀ k,(∀ y0 y1 y2,LeO (dataflowref45_named.j0 k y0 y1 y2) (dataflowref45_named.j0 (k+1) y0 y1 y2))
 |0=>fun _ _ _ r h=>by simp [dataflowref45_named.j0] at h
 |k+1=>by
  have ih0:=dataflowref45_named.mono_l k
  ·intro y0 y1 y2;unfold dataflowref45_named.j0;exact m70_0
theorem dataflowref45_named.mono:∀ a0 a1 k,LeO (dataflowref45_named.f k a0 a1) (dataflowref45_named.f (k+1) a0 a1):=by
 intro a0 a1 k;have ih0:=dataflowref45_named.mono_l k;unfold dataflowref45_named.f;exact m70_0
set_option maxHeartbeats 8000000 in
set_option maxRecDepth 100000 in
theorem dataflowref45_named.calls(k:Nat)(a0:Int)(a1:ByteArray)(r:Bool)(w:World)(h:dataflowref45_named.f k a0 a1=some r) :
  Calls Tryd.prog 70 #[.int .i64 a0,.string a1] w fun e w'=>e=.returned (.bool r)∧Below w.heap.size w w':=by
 have HB:=Aside0.mk (Below.refl w.heap.size w);have H:(if a0=2 then(dataflowref45_named.j0 k a1 a0 (a0==2)) else(dataflowref45_named.j0 k a1 a0 (a0==3)))=some r:=h;clear h;have HC3:=Aside0.mk H;clear H;go_enter Tryd.func70,Tryd.ntmps70
 go_upto_if 6 with (fail)
 go_cut [6] (fun v6 wc=>∃ (kq:Nat) (x6_2:Bool),v6=.bool x6_2∧Aside0 (dataflowref45_named.j0 kq a1 a0 x6_2=some r)∧Aside0 (kq≤k)∧Aside0 (Below w.heap.size w wc))
 case first =>
  have H:=HC3.out;clear HC3
  by_cases c4:a0=2
  ·rw [if_pos c4] at H;obtain⟨c4b0,c4b1⟩:=eqT_ c4;clear c4
   (first|rw [c4b0]|(simp only [i64_w,i32_w];rw [c4b0])|skip)
   have H':=Aside0.mk H;clear H;go_wp2
   go_meet
   case rel=>exact⟨_,((a0==2)),fr_,H',⟨(by first|omega|exact Nat.le_refl _)⟩,⟨bl_⟩⟩
  ·rw [if_neg c4] at H;obtain⟨c4b0,c4b1⟩:=eqF_ c4
   (first|rw [c4b0]|(simp only [i64_w,i32_w];rw [c4b0])|skip)
   have H':=Aside0.mk H;clear H;go_wp2
   go_meet
   case rel=>exact⟨_,((a0==3)),fr_,H',⟨(by first|omega|exact Nat.le_refl _)⟩,⟨bl_⟩⟩
 case rest =>
  clear HC3;(try clear p2);(try clear c4);(try clear c4b0);(try clear c4b1);obtain⟨kq,x6_2,rfl,HA,HJ2,HB⟩:=hcut
  cases kq with
  |zero=>exact absurd HA.out (by simp [dataflowref45_named.j0])
  |succ kj2 =>
   have H:=HA.out;clear HA;simp only [dataflowref45_named.j0] at H
   by_cases c5:x6_2=true
   ·subst c5;rw [if_pos rfl] at H;replace H:=Option.bind_eq_some_iff.mp H;obtain⟨t71001,A60,H⟩:=H;have A6:=Aside0.mk A60;clear A60;obtain rfl:=Option.some.inj H
    go_wp2_with (first|((with_reducible refine gate_callee (f:=26) rfl ?_);refine goesL_ (some 10) rfl rfl Tryd.func26 (by kernel_rfl) rfl #[.string a1] rfl mp_ ?_;(with_reducible refine(dataflowref07_Ident.calls kj2 a1 t71001 _ A6.out).mono ?_);rintro e w7 ⟨rfl,hb⟩;refine⟨_,rfl,?_⟩;have n0_:=Aside0.mk (below_step bl_ hb);clear HB;have HB:=n0_;clear n0_;(try clear hb)))
    go_ret;exact⟨er_,bl_⟩
   ·replace c5:=Bool.eq_false_iff.mpr c5;subst c5;rw [if_neg nf_] at H
    by_cases c8:a0=4
    ·rw [if_pos c8] at H;obtain⟨c8b0,c8b1⟩:=eqT_ c8;clear c8
     by_cases c9:a1.toList=([116,114,117,101]:List UInt8)
     ·rw [if_pos c9] at H;obtain⟨c9b0,c9b1⟩:=eqT_ c9;clear c9;obtain rfl:=Option.some.inj H;go_wp2;go_ret;exact⟨er_,bl_⟩
     ·rw [if_neg c9] at H;obtain⟨c9b0,c9b1⟩:=eqF_ c9;obtain rfl:=Option.some.inj H;go_wp2;go_ret;exact⟨er_,bl_⟩
    ·rw [if_neg c8] at H;obtain⟨c8b0,c8b1⟩:=eqF_ c8;replace H:=Option.bind_eq_some_iff.mp H;obtain⟨t71002,A100,H⟩:=H;have A10:=Aside0.mk A100;clear A100;obtain rfl:=Option.some.inj H
     go_wp2_with (first|((with_reducible refine gate_callee (f:=27) rfl ?_);refine goesL_ (some 20) rfl rfl Tryd.func27 (by kernel_rfl) rfl #[.string a1] rfl mp_ ?_;(with_reducible refine(dataflowref45_Word.calls kj2 a1 t71002 _ A10.out).mono ?_);rintro e w' ⟨rfl,⟨nd,rfl⟩⟩;refine⟨_,rfl,?_⟩))
     go_ret;exact⟨er_,bl_⟩
end Go.Proofs.YtnoangbidnigdaaDoor.H

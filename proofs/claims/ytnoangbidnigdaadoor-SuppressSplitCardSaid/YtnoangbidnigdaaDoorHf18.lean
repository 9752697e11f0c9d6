/- Printed (xprint.py): Go functions as Lean functions, each with the proof that its call does what the Lean function says. -/
import Derived.Test.YtnoangbidnigdaaDoorH0
namespace Go.Proofs.YtnoangbidnigdaaDoor.H
open Go.RowKit Go.Proofs.YtnoangbidnigdaaDoorW.PrintWords Go.Proofs.YtnoangbidnigdaaDoorW.PrintLast Go.Proofs.YtnoangbidnigdaaDoorW.PrintMore
attribute [local go_sem] max2_int min2_int max_two min_two max_three min_three max_four min_four   -- for this text's walks alone
set_option linter.unusedVariables false
set_option linter.unusedSimpArgs false
/-! ### dataflowlaw46_size: function 18 -/
def dataflowlaw46_size.l0:Nat→List (S28)→List (S23)→Int→Int→Option (Bool)
 |0,_,_,_,_=>none
 |k+1,x0,x1,x5,x6=>if x6<(x0.length:Int) then(if x5≤3000 then(if 0≤x6 then(dataflowlaw46_size.l0 k x0 x1 (wrap64 (x5+(((rd_T28 x0 x6).f3).length:Int))) (wrap64 (x6+1))) else(none)) else(some false)) else(if x5≤3000 then(some (decide ((x1.length:Int)≤250))) else(some false))
def dataflowlaw46_size.f(k:Nat)(l0:List (S28))(l1:List (S23)):Option (Bool):=dataflowlaw46_size.l0 k l0 l1 (l0.length:Int) 0
theorem b18_1{p:Prop}(h:p:=by repeat(first|exact Drawn0.refl _|apply Drawn0.step)):p:=h
theorem m18_0{p:Prop}(h:p:=by repeat' first|(with_reducible exact ih0 _ _ _ _)|(with_reducible exact LeO.refl _)|(with_reducible exact LeO.none _)|(with_reducible refine LeO.ite ?_ ?_)|(with_reducible refine LeO.bind ?_ (fun _=>?_))|exact ih0 _ _ _ _|exact LeO.none _|refine LeO.ite ?_ ?_|refine LeO.bind ?_ (fun _=>?_)):p:=h
theorem dataflowlaw46_size.mono_l:∀ k,(∀ y0 y1 y2 y3,LeO (dataflowlaw46_size.l0 k y0 y1 y2 y3) (dataflowlaw46_size.l0 (k+1) y0 y1 y2 y3))
 |0=>fun _ _ _ _ r h=>by simp [dataflowlaw46_size.l0] at h
 |k+1=>by
  have ih0:=dataflowlaw46_size.mono_l k
  ·intro y0 y1 y2 y3;unfold dataflowlaw46_size.l0;exact m18_0
theorem dataflowlaw46_size.mono:∀ a0 a1 k,LeO (dataflowlaw46_size.f k a0 a1) (dataflowlaw46_size.f (k+1) a0 a1):=by
 intro a0 a1 k;have ih0:=dataflowlaw46_size.mono_l k;unfold dataflowlaw46_size.f;exact m18_0
set_option maxHeartbeats 8000000 in
set_option maxRecDepth 100000 in
theorem dataflowlaw46_size.calls(k:Nat)(A0:Option Addr)(c0:Nat)(l0:List (S28))(A1:Option Addr)(c1:Nat)(l1:List (S23))(r:Bool)(w:World)(hr0:Kd.C k28 w A0 l0.length l0)(hc0:l0.length≤c0)(hr1:Kd.C k23 w A1 l1.length l1)(hc1:l1.length≤c1)(h:dataflowlaw46_size.f k l0 l1=some r) :
  Calls Tryd.prog 18 #[.slice A0 l0.length c0,.slice A1 l1.length c1] w fun e w'=>e=.returned (.bool r)∧Drawn0 w w':=by
 have HR0:=Aside0.mk hr0;have HC0:=Aside0.mk hc0;clear hr0 hc0;have HR1:=Aside0.mk hr1;have HC1:=Aside0.mk hc1;clear hr1 hc1;have H:(dataflowlaw46_size.l0 k l0 l1 (l0.length:Int) 0)=some r:=h;clear h;have H':=Aside0.mk H;clear H;go_enter Tryd.func18,Tryd.ntmps18;go_wp2
 go_loopg [5,6] k (fun kq v5 v6 w'=>∃ (x5_1:Int) (x6_1:Int),v5=.int .i64 x5_1∧v6=.int .i64 x6_1∧Aside0 (dataflowlaw46_size.l0 kq l0 l1 x5_1 x6_1=some r)∧Aside0 (kq≤k)∧Drawn0 w w')
 case atStart=>exact⟨((l0.length:Int)),(0),fr_,fr_,H',⟨Nat.le_refl _⟩,b18_1⟩
 case round =>
  clear H';(try clear c1);(try clear p2);obtain⟨x5_1,x6_1,rfl,rfl,HA,HK1,⟨m1,rfl⟩⟩:=hrel
  cases gk with
  |zero=>exact absurd HA.out (by simp [dataflowlaw46_size.l0])
  |succ k1 =>
   have H:=HA.out;clear HA;simp only [dataflowlaw46_size.l0] at H
   by_cases c3:x6_1<(l0.length:Int)
   ·rw [if_pos c3] at H;have c3b0:decide (x6_1<(l0.length:Int))=true:=decide_eq_true c3;clear c3
    by_cases c4:x5_1≤3000
    ·rw [if_pos c4] at H;have c4b0:decide (x5_1≤3000)=true:=decide_eq_true c4;clear c4
     by_cases c5:0≤x6_1
     ·rw [if_pos c5] at H;have c5b0:decide (0≤x6_1)=true:=decide_eq_true c5;clear c5;have H':=Aside0.mk H;clear H;have p19001:0≤(x6_1:Int):=of_decide_eq_true as_;have q19001:x6_1<(l0.length:Int):=of_decide_eq_true as_;obtain⟨ad19001,A19001_5,c19001_5,e19001,hx19001_0,hx19001_1,hx19001_2,hx19001_3,hx19001_4,hx19001_5,hl19001_5,hi19001_5⟩:=at_T28 HR0.out x6_1 p19001 q19001;cases e19001;have HR19001_5:=Aside0.mk hi19001_5;have HC19001_5:=Aside0.mk hl19001_5;clear hi19001_5 hl19001_5;replace p19001:=eq_true p19001;replace q19001:=eq_true q19001;go_wp2
      go_roundg k1
      case measure=>have:=HK1.out;omega
      case rel=>exact⟨(wrap64 (x5_1+(((rd_T28 l0 x6_1).f3).length:Int))),(wrap64 (x6_1+1)),fr_,fr_,H',⟨(by have:=HK1.out;omega)⟩,b18_1⟩
     ·rw [if_neg c5] at H;exact absurd H (by simp)
    ·rw [if_neg c4] at H;have c4b0:decide (x5_1≤3000)=false:=decide_eq_false c4;clear c4;obtain rfl:=Option.some.inj H;go_wp2;go_ret;exact⟨fr_,b18_1⟩
   ·rw [if_neg c3] at H;have c3b0:decide (x6_1<(l0.length:Int))=false:=decide_eq_false c3;clear c3
    by_cases c6:x5_1≤3000
    ·rw [if_pos c6] at H;have c6b0:decide (x5_1≤3000)=true:=decide_eq_true c6;clear c6;obtain rfl:=Option.some.inj H;go_wp2;go_ret;exact⟨fr_,b18_1⟩
    ·rw [if_neg c6] at H;have c6b0:decide (x5_1≤3000)=false:=decide_eq_false c6;clear c6;obtain rfl:=Option.some.inj H;go_wp2;go_ret;exact⟨fr_,b18_1⟩
end Go.Proofs.YtnoangbidnigdaaDoor.H

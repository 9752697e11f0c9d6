/- Printed (xprint.py): Go functions as Lean functions, each with the proof that its call does what the Lean function says. -/
import Derived.Test.YthfhbdncphkdaaaDoorH0
namespace Go.Proofs.YthfhbdncphkdaaaDoor.H
open Go.RowKit Go.Proofs.YthfhbdncphkdaaaDoorW.PrintWords Go.Proofs.YthfhbdncphkdaaaDoorW.PrintLast Go.Proofs.YthfhbdncphkdaaaDoorW.PrintMore
attribute [local go_sem] max2_int min2_int max_two min_two max_three min_three max_four min_four   -- for this text's walks alone
set_option linter.unusedVariables false
set_option linter.unusedSimpArgs false
/-! ### dataflowref39_Words: function 66 -/
def dataflowref39_Words.l0:Nat→ByteArray→List ByteArray→ByteArray→Int→Option (List ByteArray)
 |0,_,_,_,_=>none
 |k+1,x0,x3,x4,x5=>if x5<(x0.size:Int) then(if 0≤x5 then(if (bt x0 x5)=32 then(if x3.length<8796093022208 then(dataflowref39_Words.l0 k x0 (x3++[x4]) (⟨#[]⟩:ByteArray) (wrap64 (x5+1))) else(none)) else(if x5≤(wrap64 (x5+1)) then(if (wrap64 (x5+1))≤(x0.size:Int) then(if x4.size+(x0.extract (x5:Int).toNat ((wrap64 (x5+1)):Int).toNat).size≤9223372036854775807 then(dataflowref39_Words.l0 k x0 x3 (x4++(x0.extract (x5:Int).toNat ((wrap64 (x5+1)):Int).toNat)) (wrap64 (x5+1))) else(none)) else(none)) else(none))) else(none)) else(if x3.length<8796093022208 then(some (x3++[x4])) else(none))
def dataflowref39_Words.f(k:Nat)(a0:ByteArray):Option (List ByteArray):=dataflowref39_Words.l0 k a0 ([]:List ByteArray) (⟨#[]⟩:ByteArray) 0
theorem b66_1{p:Prop}(h:p:=by(with_reducible repeat(first|apply Kd.R_alloc|apply Kd.R_drewN|apply Kd.R_drew));exact HO_3.out):p:=h
theorem m66_0{p:Prop}(h:p:=by repeat' first|(with_reducible exact ih0 _ _ _ _)|(with_reducible exact LeO.refl _)|(with_reducible exact LeO.none _)|(with_reducible refine LeO.ite ?_ ?_)|(with_reducible refine LeO.bind ?_ (fun _=>?_))|exact ih0 _ _ _ _|exact LeO.none _|refine LeO.ite ?_ ?_|refine LeO.bind ?_ (fun _=>?_)):p:=h
theorem dataflowref39_Words.mono_l:∀ k,(∀ y0 y1 y2 y3,LeO (dataflowref39_Words.l0 k y0 y1 y2 y3) (dataflowref39_Words.l0 (k+1) y0 y1 y2 y3))
 |0=>fun _ _ _ _ r h=>by simp [dataflowref39_Words.l0] at h
 |k+1=>by
  have ih0:=dataflowref39_Words.mono_l k
  ·intro y0 y1 y2 y3;unfold dataflowref39_Words.l0;exact m66_0
theorem dataflowref39_Words.mono:∀ a0 k,LeO (dataflowref39_Words.f k a0) (dataflowref39_Words.f (k+1) a0):=by
 intro a0 k;have ih0:=dataflowref39_Words.mono_l k;unfold dataflowref39_Words.f;exact m66_0
set_option maxHeartbeats 8000000 in
set_option maxRecDepth 100000 in
theorem dataflowref39_Words.calls(k:Nat)(a0:ByteArray)(r:List ByteArray)(w:World)(h:dataflowref39_Words.f k a0=some r) :
  Calls Tryd.prog 66 #[.string a0] w fun e w'=>∃ v0_:Value,e=.returned (v0_)∧Kd.R Kd.string 9 w' w.heap.size (fun _=>True) v0_ r∧Below w.heap.size w w':=by
 have HB:=Aside0.mk (Below.refl w.heap.size w);have H:(dataflowref39_Words.l0 k a0 ([]:List ByteArray) (⟨#[]⟩:ByteArray) 0)=some r:=h;clear h;have H':=Aside0.mk H;clear H;go_enter Tryd.func66,Tryd.ntmps66;go_wp2
 go_loopg [3,4,5] k (fun kq v3 v4 v5 w'=>∃ (x3_1:List ByteArray) (x4_1:ByteArray) (x5_1:Int),v4=.string x4_1∧v5=.int .i64 x5_1∧Aside0 (dataflowref39_Words.l0 kq a0 x3_1 x4_1 x5_1=some r)∧Aside0 (kq≤k)∧Aside0 (Kd.R Kd.string 9 w' w.heap.size (fun _=>True) v3 x3_1)∧Aside0 (Below w.heap.size w w'))
 case atStart=>exact⟨(([]:List ByteArray)),((⟨#[]⟩:ByteArray)),(0),fr_,fr_,H',⟨Nat.le_refl _⟩,⟨(by first|exact Kd.R_nil _ _ _ _ _|exact Kd.N_nil _ _ _ _ _|exact Kd.V_nil _ _ _ _ _|exact Kd.Q_nil _ _ _ _ _|exact Kd.S_nil _ _ _ _ _)⟩,⟨bl_⟩⟩
 case round =>
  clear H';obtain⟨x3_1,x4_1,x5_1,rfl,rfl,HA,HK1,HO_3,HB⟩:=hrel
  cases gk with
  |zero=>exact absurd HA.out (by simp [dataflowref39_Words.l0])
  |succ k1 =>
   have H:=HA.out;clear HA;simp only [dataflowref39_Words.l0] at H
   by_cases c2:x5_1<(a0.size:Int)
   ·rw [if_pos c2] at H;have c2b0:decide (x5_1<(a0.size:Int))=true:=decide_eq_true c2;clear c2
    by_cases c3:0≤x5_1
    ·rw [if_pos c3] at H;have c3b0:decide (0≤x5_1)=true:=decide_eq_true c3;clear c3
     by_cases c5:(bt a0 x5_1)=32
     ·rw [if_pos c5] at H;obtain⟨c5b0,c5b1⟩:=eqT_ c5;clear c5
      by_cases c6:x3_1.length<8796093022208
      ·rw [if_pos c6] at H;have LMc6:=Aside0.mk c6;clear c6;obtain⟨y67001,hy67001⟩:∃ y_:List ByteArray,y_=(x3_1++[x4_1]):=⟨_,rfl⟩
       replace H:(dataflowref39_Words.l0 k1 a0 y67001 (⟨#[]⟩:ByteArray) (wrap64 (x5_1+1)))=some r:=by first|(rw [hy67001];with_reducible exact H)|(have H2_:=(Option.bind_some _ _).symm.trans H;rw [hy67001];with_reducible exact H2_)|(have H2_:=(Option.bind_some _ _).symm.trans H;with_reducible exact H2_)|with_reducible exact H|(rw [hy67001];exact H)|exact H
       have Ny67001:=Aside0.mk hy67001;clear hy67001;have H':=Aside0.mk H;clear H;have p4:0≤(x5_1:Int):=of_decide_eq_true as_;have q4:x5_1<(a0.size:Int):=of_decide_eq_true as_;have hx4:=bt_at a0 x5_1;replace p4:=eq_true p4;replace q4:=eq_true q4
       go_wp2_with (first|((with_reducible refine gate_builtin (b:=.append) (xs:=#[.tmp 16,.tmp 18]) rfl ?_);at_builtin;refine Kd.R_append Kd.string (w0:=w) w.heap.size rfl (.tmp 16) (.tmp 18) 32 9 (.string ⟨#[]⟩) 16 rfl Tryd.underlying32 info9 rfl (by decide) (by omega) u3 x3_1 x4_1 [.string x4_1] (fun _=>True) (fun _=>False) rfl rfl ?aP (fun _ hk=>hk.elim) ?aF ?aO ?aB ?aS ?aL ?_;(case aP=>exact rfl);(case aB=>exact bl_);(case aF=>exact(fun _ _=>trivial));(case aO=>exact b66_1);(case aS=>exact(below_size bl_));(case aL=>have:=LMc6.out;omega);intro v67002 w7 ho hb hg hat;rw [← Ny67001.out] at ho;have n_:=as2_ hb ho;clear HB HO_3;obtain⟨HB,HO67003⟩:=n_;clear ho hb hg hat))
       go_roundg k1
       case measure=>have:=HK1.out;omega
       case rel=>exact⟨(y67001),((⟨#[]⟩:ByteArray)),(wrap64 (x5_1+1)),fr_,fr_,H',⟨(by have:=HK1.out;omega)⟩,⟨(by(with_reducible repeat(first|apply Kd.R_alloc|apply Kd.R_drewN|apply Kd.R_drew));exact HO67003.out)⟩,⟨bl_⟩⟩
      ·rw [if_neg c6] at H;exact absurd H (by simp)
     ·rw [if_neg c5] at H;obtain⟨c5b0,c5b1⟩:=eqF_ c5;have c8b0:=eq_true (of_decide_eq_true as_:0≤x5_1)
      by_cases c9:x5_1≤(wrap64 (x5_1+1))
      ·rw [if_pos c9] at H;have c9b0:=eq_true c9;have c9b1:decide (x5_1≤(wrap64 (x5_1+1)))=true:=decide_eq_true c9
       by_cases c10:(wrap64 (x5_1+1))≤(a0.size:Int)
       ·rw [if_pos c10] at H;have c10b0:=eq_true c10;have c10b1:decide ((wrap64 (x5_1+1))≤(a0.size:Int))=true:=decide_eq_true c10
        by_cases c11:x4_1.size+(a0.extract (x5_1:Int).toNat ((wrap64 (x5_1+1)):Int).toNat).size≤9223372036854775807
        ·rw [if_pos c11] at H;have c11b0:=eq_true c11;have c11b1:decide (x4_1.size+(a0.extract (x5_1:Int).toNat ((wrap64 (x5_1+1)):Int).toNat).size≤9223372036854775807)=true:=decide_eq_true c11
         try have c11b2:(9223372036854775807<x4_1.size+(a0.extract (x5_1:Int).toNat ((wrap64 (x5_1+1)):Int).toNat).size)=False:=eq_false (Nat.not_lt.2 c11)
         have H':=Aside0.mk H;clear H;have p4:0≤(x5_1:Int):=of_decide_eq_true as_;have q4:x5_1<(a0.size:Int):=of_decide_eq_true as_;have hx4:=bt_at a0 x5_1;replace p4:=eq_true p4;replace q4:=eq_true q4;go_wp2
         go_roundg k1
         case measure=>have:=HK1.out;omega
         case rel=>exact⟨(x3_1),(x4_1++(a0.extract (x5_1:Int).toNat ((wrap64 (x5_1+1)):Int).toNat)),(wrap64 (x5_1+1)),fr_,fr_,H',⟨(by have:=HK1.out;omega)⟩,⟨b66_1⟩,⟨bl_⟩⟩
        ·rw [if_neg c11] at H;exact absurd H (by simp)
       ·rw [if_neg c10] at H;exact absurd H (by simp)
      ·rw [if_neg c9] at H;exact absurd H (by simp)
    ·rw [if_neg c3] at H;exact absurd H (by simp)
   ·rw [if_neg c2] at H;have c2b0:decide (x5_1<(a0.size:Int))=false:=decide_eq_false c2;clear c2
    by_cases c12:x3_1.length<8796093022208
    ·rw [if_pos c12] at H;have LMc12:=Aside0.mk c12;clear c12;obtain⟨y67004,hy67004⟩:∃ y_:List ByteArray,y_=(x3_1++[x4_1]):=⟨_,rfl⟩
     replace H:(some y67004)=some r:=by first|(rw [hy67004];with_reducible exact H)|(have H2_:=(Option.bind_some _ _).symm.trans H;rw [hy67004];with_reducible exact H2_)|(have H2_:=(Option.bind_some _ _).symm.trans H;with_reducible exact H2_)|with_reducible exact H|(rw [hy67004];exact H)|exact H
     have Ny67004:=Aside0.mk hy67004;clear hy67004;obtain rfl:=Option.some.inj H
     go_wp2_with (first|((with_reducible refine gate_builtin (b:=.append) (xs:=#[.tmp 27,.tmp 29]) rfl ?_);at_builtin;refine Kd.R_append Kd.string (w0:=w) w.heap.size rfl (.tmp 27) (.tmp 29) 32 9 (.string ⟨#[]⟩) 16 rfl Tryd.underlying32 info9 rfl (by decide) (by omega) u3 x3_1 x4_1 [.string x4_1] (fun _=>True) (fun _=>False) rfl rfl ?aP (fun _ hk=>hk.elim) ?aF ?aO ?aB ?aS ?aL ?_;(case aP=>exact rfl);(case aB=>exact bl_);(case aF=>exact(fun _ _=>trivial));(case aO=>exact b66_1);(case aS=>exact(below_size bl_));(case aL=>have:=LMc12.out;omega);intro v67005 w13 ho hb hg hat;rw [← Ny67004.out] at ho;have n_:=as2_ hb ho;clear HB HO_3;obtain⟨HB,HO67006⟩:=n_;clear ho hb hg hat))
     go_ret;exact⟨_,er_,(by(with_reducible repeat(first|apply Kd.R_alloc|apply Kd.R_drewN|apply Kd.R_drew));exact HO67006.out),bl_⟩
    ·rw [if_neg c12] at H;exact absurd H (by simp)
end Go.Proofs.YthfhbdncphkdaaaDoor.H

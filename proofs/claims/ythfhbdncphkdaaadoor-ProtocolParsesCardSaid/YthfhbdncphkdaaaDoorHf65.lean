/- Printed (xprint.py): Go functions as Lean functions, each with the proof that its call does what the Lean function says. -/
import Derived.Test.YthfhbdncphkdaaaDoorH0
namespace Go.Proofs.YthfhbdncphkdaaaDoor.H
open Go.RowKit Go.Proofs.YthfhbdncphkdaaaDoorW.PrintWords Go.Proofs.YthfhbdncphkdaaaDoorW.PrintLast Go.Proofs.YthfhbdncphkdaaaDoorW.PrintMore
attribute [local go_sem] max2_int min2_int max_two min_two max_three min_three max_four min_four   -- for this text's walks alone
set_option linter.unusedVariables false
set_option linter.unusedSimpArgs false
/-! ### dataflowref39_Lines: function 65 -/
def dataflowref39_Lines.l0:Nat→ByteArray→List ByteArray→Int→Int→Option (List ByteArray × ByteArray)
 |0,_,_,_,_=>none
 |k+1,x0,x4,x5,x6=>if x6<(x0.size:Int) then(if 0≤x6 then(if (bt x0 x6)=10 then(if 0≤x5 then(if x5≤x6 then(if x6≤(x0.size:Int) then(if x4.length<8796093022208 then(dataflowref39_Lines.l0 k x0 (x4++[x0.extract (x5:Int).toNat (x6:Int).toNat]) (wrap64 (x6+1)) (wrap64 (x6+1))) else(none)) else(none)) else(none)) else(none)) else(dataflowref39_Lines.l0 k x0 x4 x5 (wrap64 (x6+1)))) else(none)) else(if 0≤x5 then(if x5≤(x0.size:Int) then(some (x4,x0.extract (x5:Int).toNat x0.size)) else(none)) else(none))
def dataflowref39_Lines.f(k:Nat)(a0:ByteArray):Option (List ByteArray × ByteArray):=dataflowref39_Lines.l0 k a0 ([]:List ByteArray) 0 0
theorem b65_1{p:Prop}(h:p:=by(with_reducible repeat(first|apply Kd.R_alloc|apply Kd.R_drewN|apply Kd.R_drew));exact HO_4.out):p:=h
theorem m65_0{p:Prop}(h:p:=by repeat' first|(with_reducible exact ih0 _ _ _ _)|(with_reducible exact LeO.refl _)|(with_reducible exact LeO.none _)|(with_reducible refine LeO.ite ?_ ?_)|(with_reducible refine LeO.bind ?_ (fun _=>?_))|exact ih0 _ _ _ _|exact LeO.none _|refine LeO.ite ?_ ?_|refine LeO.bind ?_ (fun _=>?_)):p:=h
theorem dataflowref39_Lines.mono_l:∀ k,(∀ y0 y1 y2 y3,LeO (dataflowref39_Lines.l0 k y0 y1 y2 y3) (dataflowref39_Lines.l0 (k+1) y0 y1 y2 y3))
 |0=>fun _ _ _ _ r h=>by simp [dataflowref39_Lines.l0] at h
 |k+1=>by
  have ih0:=dataflowref39_Lines.mono_l k
  ·intro y0 y1 y2 y3;unfold dataflowref39_Lines.l0;exact m65_0
theorem dataflowref39_Lines.mono:∀ a0 k,LeO (dataflowref39_Lines.f k a0) (dataflowref39_Lines.f (k+1) a0):=by
 intro a0 k;have ih0:=dataflowref39_Lines.mono_l k;unfold dataflowref39_Lines.f;exact m65_0
set_option maxHeartbeats 8000000 in
set_option maxRecDepth 100000 in
theorem dataflowref39_Lines.calls(k:Nat)(a0:ByteArray)(r1:List ByteArray)(r2:ByteArray)(w:World)(h:dataflowref39_Lines.f k a0=some (r1,r2)) :
  Calls Tryd.prog 65 #[.string a0] w fun e w'=>∃ v0_:Value,e=.returned (.tuple #[v0_,.string r2])∧Kd.R Kd.string 9 w' w.heap.size (fun _=>True) v0_ r1∧Below w.heap.size w w':=by
 have HB:=Aside0.mk (Below.refl w.heap.size w);have H:(dataflowref39_Lines.l0 k a0 ([]:List ByteArray) 0 0)=some (r1,r2):=h;clear h;have H':=Aside0.mk H;clear H;go_enter Tryd.func65,Tryd.ntmps65;go_wp2
 repeat(go_quiet (fail);try go_wp2)
 go_loopg [4,5,6] k (fun kq v4 v5 v6 w'=>∃ (x4_1:List ByteArray) (x5_1:Int) (x6_1:Int),v5=.int .i64 x5_1∧v6=.int .i64 x6_1∧Aside0 (dataflowref39_Lines.l0 kq a0 x4_1 x5_1 x6_1=some (r1,r2))∧Aside0 (kq≤k)∧Aside0 (Kd.R Kd.string 9 w' w.heap.size (fun _=>True) v4 x4_1)∧Aside0 (Below w.heap.size w w'))
 case atStart=>exact⟨(([]:List ByteArray)),(0),(0),fr_,fr_,H',⟨Nat.le_refl _⟩,⟨(by first|exact Kd.R_nil _ _ _ _ _|exact Kd.N_nil _ _ _ _ _|exact Kd.V_nil _ _ _ _ _|exact Kd.Q_nil _ _ _ _ _|exact Kd.S_nil _ _ _ _ _)⟩,⟨bl_⟩⟩
 case round =>
  clear H';obtain⟨x4_1,x5_1,x6_1,rfl,rfl,HA,HK1,HO_4,HB⟩:=hrel
  cases gk with
  |zero=>exact absurd HA.out (by simp [dataflowref39_Lines.l0])
  |succ k1 =>
   have H:=HA.out;clear HA;simp only [dataflowref39_Lines.l0] at H
   by_cases c2:x6_1<(a0.size:Int)
   ·rw [if_pos c2] at H;have c2b0:decide (x6_1<(a0.size:Int))=true:=decide_eq_true c2;clear c2
    by_cases c3:0≤x6_1
    ·rw [if_pos c3] at H;have c3b0:decide (0≤x6_1)=true:=decide_eq_true c3;clear c3
     by_cases c5:(bt a0 x6_1)=10
     ·rw [if_pos c5] at H;obtain⟨c5b0,c5b1⟩:=eqT_ c5;clear c5
      by_cases c6:0≤x5_1
      ·rw [if_pos c6] at H;have c6b0:=eq_true c6;have c6b1:decide (0≤x5_1)=true:=decide_eq_true c6;clear c6
       by_cases c7:x5_1≤x6_1
       ·rw [if_pos c7] at H;have c7b0:=eq_true c7;have c7b1:decide (x5_1≤x6_1)=true:=decide_eq_true c7;clear c7
        by_cases c8:x6_1≤(a0.size:Int)
        ·rw [if_pos c8] at H;have c8b0:=eq_true c8;have c8b1:decide (x6_1≤(a0.size:Int))=true:=decide_eq_true c8;clear c8
         by_cases c9:x4_1.length<8796093022208
         ·rw [if_pos c9] at H;have LMc9:=Aside0.mk c9;clear c9;obtain⟨y66001,hy66001⟩:∃ y_:List ByteArray,y_=(x4_1++[a0.extract (x5_1:Int).toNat (x6_1:Int).toNat]):=⟨_,rfl⟩
          replace H:(dataflowref39_Lines.l0 k1 a0 y66001 (wrap64 (x6_1+1)) (wrap64 (x6_1+1)))=some (r1,r2):=by first|(rw [hy66001];with_reducible exact H)|(have H2_:=(Option.bind_some _ _).symm.trans H;rw [hy66001];with_reducible exact H2_)|(have H2_:=(Option.bind_some _ _).symm.trans H;with_reducible exact H2_)|with_reducible exact H|(rw [hy66001];exact H)|exact H
          have Ny66001:=Aside0.mk hy66001;clear hy66001;have H':=Aside0.mk H;clear H;have p4:0≤(x6_1:Int):=of_decide_eq_true as_;have q4:x6_1<(a0.size:Int):=of_decide_eq_true as_;have hx4:=bt_at a0 x6_1;replace p4:=eq_true p4;replace q4:=eq_true q4
          go_wp2_with (first|((with_reducible refine gate_builtin (b:=.append) (xs:=#[.tmp 17,.tmp 22]) rfl ?_);at_builtin;refine Kd.R_append Kd.string (w0:=w) w.heap.size rfl (.tmp 17) (.tmp 22) 32 9 (.string ⟨#[]⟩) 16 rfl Tryd.underlying32 info9 rfl (by decide) (by omega) u4 x4_1 (a0.extract (x5_1:Int).toNat (x6_1:Int).toNat) [.string (a0.extract (x5_1:Int).toNat (x6_1:Int).toNat)] (fun _=>True) (fun _=>False) rfl rfl ?aP (fun _ hk=>hk.elim) ?aF ?aO ?aB ?aS ?aL ?_;(case aP=>exact rfl);(case aB=>exact bl_);(case aF=>exact(fun _ _=>trivial));(case aO=>exact b65_1);(case aS=>exact(below_size bl_));(case aL=>have:=LMc9.out;omega);intro v66002 w10 ho hb hg hat;rw [← Ny66001.out] at ho;have n_:=as2_ hb ho;clear HB HO_4;obtain⟨HB,HO66003⟩:=n_;clear ho hb hg hat))
          repeat(go_quiet (first|((with_reducible refine gate_builtin (b:=.append) (xs:=#[.tmp 17,.tmp 22]) rfl ?_);at_builtin;refine Kd.R_append Kd.string (w0:=w) w.heap.size rfl (.tmp 17) (.tmp 22) 32 9 (.string ⟨#[]⟩) 16 rfl Tryd.underlying32 info9 rfl (by decide) (by omega) u4 x4_1 (a0.extract (x5_1:Int).toNat (x6_1:Int).toNat) [.string (a0.extract (x5_1:Int).toNat (x6_1:Int).toNat)] (fun _=>True) (fun _=>False) rfl rfl ?aP (fun _ hk=>hk.elim) ?aF ?aO ?aB ?aS ?aL ?_;(case aP=>exact rfl);(case aB=>exact bl_);(case aF=>exact(fun _ _=>trivial));(case aO=>exact b65_1);(case aS=>exact(below_size bl_));(case aL=>have:=LMc9.out;omega);intro v66002 w10 ho hb hg hat;rw [← Ny66001.out] at ho;have n_:=as2_ hb ho;clear HB HO_4;obtain⟨HB,HO66003⟩:=n_;clear ho hb hg hat));try go_wp2_with (first|((with_reducible refine gate_builtin (b:=.append) (xs:=#[.tmp 17,.tmp 22]) rfl ?_);at_builtin;refine Kd.R_append Kd.string (w0:=w) w.heap.size rfl (.tmp 17) (.tmp 22) 32 9 (.string ⟨#[]⟩) 16 rfl Tryd.underlying32 info9 rfl (by decide) (by omega) u4 x4_1 (a0.extract (x5_1:Int).toNat (x6_1:Int).toNat) [.string (a0.extract (x5_1:Int).toNat (x6_1:Int).toNat)] (fun _=>True) (fun _=>False) rfl rfl ?aP (fun _ hk=>hk.elim) ?aF ?aO ?aB ?aS ?aL ?_;(case aP=>exact rfl);(case aB=>exact bl_);(case aF=>exact(fun _ _=>trivial));(case aO=>exact b65_1);(case aS=>exact(below_size bl_));(case aL=>have:=LMc9.out;omega);intro v66002 w10 ho hb hg hat;rw [← Ny66001.out] at ho;have n_:=as2_ hb ho;clear HB HO_4;obtain⟨HB,HO66003⟩:=n_;clear ho hb hg hat)))
          go_roundg k1
          case measure=>have:=HK1.out;omega
          case rel=>exact⟨(y66001),(wrap64 (x6_1+1)),(wrap64 (x6_1+1)),fr_,fr_,H',⟨(by have:=HK1.out;omega)⟩,⟨(by(with_reducible repeat(first|apply Kd.R_alloc|apply Kd.R_drewN|apply Kd.R_drew));exact HO66003.out)⟩,⟨bl_⟩⟩
         ·rw [if_neg c9] at H;exact absurd H (by simp)
        ·rw [if_neg c8] at H;exact absurd H (by simp)
       ·rw [if_neg c7] at H;exact absurd H (by simp)
      ·rw [if_neg c6] at H;exact absurd H (by simp)
     ·rw [if_neg c5] at H;obtain⟨c5b0,c5b1⟩:=eqF_ c5;have H':=Aside0.mk H;clear H;have p4:0≤(x6_1:Int):=of_decide_eq_true as_;have q4:x6_1<(a0.size:Int):=of_decide_eq_true as_;have hx4:=bt_at a0 x6_1;replace p4:=eq_true p4;replace q4:=eq_true q4;go_wp2
      repeat(go_quiet (fail);try go_wp2)
      go_roundg k1
      case measure=>have:=HK1.out;omega
      case rel=>exact⟨(x4_1),(x5_1),(wrap64 (x6_1+1)),fr_,fr_,H',⟨(by have:=HK1.out;omega)⟩,⟨b65_1⟩,⟨bl_⟩⟩
    ·rw [if_neg c3] at H;exact absurd H (by simp)
   ·rw [if_neg c2] at H;have c2b0:decide (x6_1<(a0.size:Int))=false:=decide_eq_false c2;clear c2
    by_cases c11:0≤x5_1
    ·rw [if_pos c11] at H;have c11b0:=eq_true c11;have c11b1:decide (0≤x5_1)=true:=decide_eq_true c11;clear c11
     by_cases c12:x5_1≤(a0.size:Int)
     ·rw [if_pos c12] at H;have c12b0:=eq_true c12;have c12b1:decide (x5_1≤(a0.size:Int))=true:=decide_eq_true c12;clear c12;simp only [Option.some.injEq,Prod.mk.injEq] at H;obtain⟨rfl,rfl⟩:=H;go_wp2
      repeat(go_quiet (fail);try go_wp2)
      go_ret2
      exact⟨_,er_,b65_1,bl_⟩
     ·rw [if_neg c12] at H;exact absurd H (by simp)
    ·rw [if_neg c11] at H;exact absurd H (by simp)
end Go.Proofs.YthfhbdncphkdaaaDoor.H

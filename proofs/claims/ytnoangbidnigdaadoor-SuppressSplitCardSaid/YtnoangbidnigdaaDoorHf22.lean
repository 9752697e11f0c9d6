/- Printed (xprint.py): Go functions as Lean functions, each with the proof that its call does what the Lean function says. -/
import Derived.Test.YtnoangbidnigdaaDoorH0
import Derived.Test.YtnoangbidnigdaaDoorHf11
namespace Go.Proofs.YtnoangbidnigdaaDoor.H
open Go.RowKit Go.Proofs.YtnoangbidnigdaaDoorW.PrintWords Go.Proofs.YtnoangbidnigdaaDoorW.PrintLast Go.Proofs.YtnoangbidnigdaaDoorW.PrintMore
attribute [local go_sem] max2_int min2_int max_two min_two max_three min_three max_four min_four   -- for this text's walks alone
set_option linter.unusedVariables false
set_option linter.unusedSimpArgs false
/-! ### dataflowref46_First: function 22 -/
def dataflowref46_First.l0:Nat→List (S23)→Int→Int→ByteArray→ByteArray→Int→ByteArray→List (S25)→Option (Int)
 |0,_,_,_,_,_,_,_,_=>none
 |k+1,x0,x5,x23002000,x23002001,x23002002,x23002003,x23002004,x23002005=>if x5<(x0.length:Int) then(if 0≤x5 then((dataflowref46_Match.f ((rd_T23 x0 x5).f0) ((rd_T23 x0 x5).f1) ((rd_T23 x0 x5).f2) ((rd_T23 x0 x5).f3) ((rd_T23 x0 x5).f4) x23002000 x23002001 x23002002 x23002003 x23002004 x23002005).bind fun t23003=>(if t23003=true then(some x5) else(dataflowref46_First.l0 k x0 (wrap64 (x5+1)) x23002000 x23002001 x23002002 x23002003 x23002004 x23002005))) else(none)) else(some (-1))
def dataflowref46_First.f(k:Nat)(l0:List (S23))(a1_0:Int)(a1_1:ByteArray)(a1_2:ByteArray)(a1_3:Int)(a1_4:ByteArray)(l1_5:List (S25)):Option (Int):=dataflowref46_First.l0 k l0 0 a1_0 a1_1 a1_2 a1_3 a1_4 l1_5
theorem b22_1{p:Prop}(h:p:=by(with_reducible repeat(first|refine blk_drewN ?_ _|refine blk_drew ?_|refine blk_alloc ?_ _));exact BK23001.out):p:=h
theorem b22_2{p:Prop}(h:p:=by repeat(first|(with_reducible first|exact HB.out|apply below_alloc|apply pw_below_drewN|apply below_drew1|refine below_set ?_ GE23001.out)|exact HB.out)):p:=h
theorem b22_3{p:Prop}(h:p:=by kernel_rfl):p:=h
theorem b22_4{p:Prop}(h:p:=by repeat(first|exact(Kd.C_below HR1_5.out HB.out)|(with_reducible refine Kd.C_alloc ?_ _)|(with_reducible refine Kd.C_drewN ?_ _)|(with_reducible refine Kd.C_drew ?_))):p:=h
theorem m22_0{p:Prop}(h:p:=by repeat' first|(with_reducible exact ih0 _ _ _ _ _ _ _ _)|(with_reducible exact LeO.refl _)|(with_reducible exact LeO.none _)|(with_reducible refine LeO.ite ?_ ?_)|(with_reducible refine LeO.bind ?_ (fun _=>?_))|exact ih0 _ _ _ _ _ _ _ _|exact LeO.none _|refine LeO.ite ?_ ?_|refine LeO.bind ?_ (fun _=>?_)):p:=h
theorem dataflowref46_First.mono_l:∀ k,(∀ y0 y1 y2 y3 y4 y5 y6 y7,LeO (dataflowref46_First.l0 k y0 y1 y2 y3 y4 y5 y6 y7) (dataflowref46_First.l0 (k+1) y0 y1 y2 y3 y4 y5 y6 y7))
 |0=>fun _ _ _ _ _ _ _ _ r h=>by simp [dataflowref46_First.l0] at h
 |k+1=>by
  have ih0:=dataflowref46_First.mono_l k
  ·intro y0 y1 y2 y3 y4 y5 y6 y7;unfold dataflowref46_First.l0;exact m22_0
theorem dataflowref46_First.mono:∀ a0 a1 a2 a3 a4 a5 a6 k,LeO (dataflowref46_First.f k a0 a1 a2 a3 a4 a5 a6) (dataflowref46_First.f (k+1) a0 a1 a2 a3 a4 a5 a6):=by
 intro a0 a1 a2 a3 a4 a5 a6 k;have ih0:=dataflowref46_First.mono_l k;unfold dataflowref46_First.f;exact m22_0
set_option maxHeartbeats 8000000 in
set_option maxRecDepth 100000 in
theorem dataflowref46_First.calls(k:Nat)(A0:Option Addr)(c0:Nat)(l0:List (S23))(a1_0:Int)(a1_1:ByteArray)(a1_2:ByteArray)(a1_3:Int)(a1_4:ByteArray)(A1_5:Option Addr)(c1_5:Nat)(l1_5:List (S25))(r:Int)(w:World)(hr0:Kd.C k23 w A0 l0.length l0)(hc0:l0.length≤c0)(hr1_5:Kd.C k25 w A1_5 l1_5.length l1_5)(hc1_5:l1_5.length≤c1_5)(h:dataflowref46_First.f k l0 a1_0 a1_1 a1_2 a1_3 a1_4 l1_5=some r) :
  Calls Tryd.prog 22 #[.slice A0 l0.length c0,.agg #[.int .i64 a1_0,.string a1_1,.string a1_2,.int .i64 a1_3,.string a1_4,.slice A1_5 l1_5.length c1_5]] w fun e w'=>e=.returned (.int .i64 r)∧Below w.heap.size w w':=by
 have hu28:=Tryd.underlying28;have hu23:=Tryd.underlying23;have HR0:=Aside0.mk hr0;have HC0:=Aside0.mk hc0;clear hr0 hc0;have HR1_5:=Aside0.mk hr1_5;have HC1_5:=Aside0.mk hc1_5;clear hr1_5 hc1_5;have HB:=Aside0.mk (Below.refl w.heap.size w);have H:(dataflowref46_First.l0 k l0 0 a1_0 a1_1 a1_2 a1_3 a1_4 l1_5)=some r:=h;clear h;have H':=Aside0.mk H;clear H;go_enter Tryd.func22,Tryd.ntmps22
 go_wp2_with (first|((with_reducible refine gate_dst (N:=3) rfl ?_);refine box_event ?hg (N:=3) ?hd (cs:=#[.int .i64 a1_0,.string a1_1,.string a1_2,.int .i64 a1_3,.string a1_4,.slice A1_5 l1_5.length c1_5]) (t:=28) ?hr ?_;(case hd=>rfl);(case hg=>rfl);(case hr=>first|(go_simp;done)|(go_simp;rfl));intro gb23001 hg w3 hbox hb;have n_:=as4_ (below_step bl_ hb) hbox ((by rw [hg];exact(below_size bl_):w.heap.size≤gb23001)) ((by rw [hg];exact(below_size bl_):w.heap.size≤gb23001));clear HB;obtain⟨HB,BK23001,GW23001,GE23001⟩:=n_;clear hb hbox hg))
 go_loopg [5] k (fun kq v5 w'=>∃ (x5_1:Int),v5=.int .i64 x5_1∧Aside0 (dataflowref46_First.l0 kq l0 x5_1 a1_0 a1_1 a1_2 a1_3 a1_4 l1_5=some r)∧Aside0 (kq≤k)∧Aside0 (w'.heap[gb23001]?=some (.cells #[.int .i64 a1_0,.string a1_1,.string a1_2,.int .i64 a1_3,.string a1_4,(.slice A1_5 l1_5.length c1_5)] 28 (0,0)))∧Aside0 (Below w.heap.size w w'))
 case atStart=>exact⟨(0),fr_,H',⟨Nat.le_refl _⟩,⟨b22_1⟩,⟨b22_2⟩⟩
 case round =>
  clear H';(try clear c1);(try clear c2);(try clear p2);obtain⟨x5_1,rfl,HA,HK1,BK23001,HB⟩:=hrel
  cases gk with
  |zero=>exact absurd HA.out (by simp [dataflowref46_First.l0])
  |succ k1 =>
   have H:=HA.out;clear HA;simp only [dataflowref46_First.l0] at H
   by_cases c4:x5_1<(l0.length:Int)
   ·rw [if_pos c4] at H;have c4b0:decide (x5_1<(l0.length:Int))=true:=decide_eq_true c4;clear c4
    by_cases c5:0≤x5_1
    ·rw [if_pos c5] at H;have c5b0:decide (0≤x5_1)=true:=decide_eq_true c5;clear c5;replace H:=Option.bind_eq_some_iff.mp H;obtain⟨t23003,A60,H⟩:=H;have A6:=Aside0.mk A60;clear A60
     by_cases c7:t23003=true
     ·subst c7;rw [if_pos rfl] at H;obtain rfl:=Option.some.inj H;(try go_wp2);have n_:=as2_ (blk_drew BK23001.out) (below_drew1 HB.out);clear BK23001 HB;obtain⟨BK23001,HB⟩:=n_;have p23002:0≤(x5_1:Int):=of_decide_eq_true as_;have q23002:x5_1<(l0.length:Int):=of_decide_eq_true as_;obtain⟨ad23002,e23002,hx23002_0,hx23002_1,hx23002_2,hx23002_3,hx23002_4⟩:=at_T23 HR0.out x5_1 p23002 q23002;have hw23002_4:=hx23002_4;have hw23002_3:=hx23002_3;have hw23002_2:=hx23002_2;have hw23002_1:=hx23002_1;have hw23002_0:=hx23002_0;cases e23002;replace hx23002_0:=(HB.out.cell (World.block_lt_of_cell? w _ hx23002_0)).trans hx23002_0;replace hx23002_1:=(HB.out.cell (World.block_lt_of_cell? w _ hx23002_1)).trans hx23002_1;replace hx23002_2:=(HB.out.cell (World.block_lt_of_cell? w _ hx23002_2)).trans hx23002_2;replace hx23002_3:=(HB.out.cell (World.block_lt_of_cell? w _ hx23002_3)).trans hx23002_3;replace hx23002_4:=(HB.out.cell (World.block_lt_of_cell? w _ hx23002_4)).trans hx23002_4;replace p23002:=eq_true p23002;replace q23002:=eq_true q23002;refine start_ (n:=6) (S:=fun w'=>w'.cell? ⟨gb23001,0,none⟩=some (.int .i64 a1_0)∧w'.cell? ⟨gb23001,1,none⟩=some (.string a1_1)∧w'.cell? ⟨gb23001,2,none⟩=some (.string a1_2)∧w'.cell? ⟨gb23001,3,none⟩=some (.int .i64 a1_3)∧w'.cell? ⟨gb23001,4,none⟩=some (.string a1_4)∧w'.cell? ⟨gb23001,5,none⟩=some (.slice A1_5 l1_5.length c1_5)∧w'.cell? (ad23002.add ((x5_1).toNat*5))=some (.int .i64 ((rd_T23 l0 x5_1).f0))∧w'.cell? ⟨(ad23002.add ((x5_1).toNat*5)).block,(ad23002.add ((x5_1).toNat*5)).off+1,none⟩=some (.string ((rd_T23 l0 x5_1).f1))∧w'.cell? ⟨(ad23002.add ((x5_1).toNat*5)).block,(ad23002.add ((x5_1).toNat*5)).off+2,none⟩=some (.string ((rd_T23 l0 x5_1).f2))∧w'.cell? ⟨(ad23002.add ((x5_1).toNat*5)).block,(ad23002.add ((x5_1).toNat*5)).off+3,none⟩=some (.string ((rd_T23 l0 x5_1).f3))∧w'.cell? ⟨(ad23002.add ((x5_1).toNat*5)).block,(ad23002.add ((x5_1).toNat*5)).off+4,none⟩=some (.string ((rd_T23 l0 x5_1).f4))) (ds:=[]) #[false,false,false,false,false,false] b22_3 rfl rfl ⟨(blk_cell BK23001.out 0).trans rfl,(blk_cell BK23001.out 1).trans rfl,(blk_cell BK23001.out 2).trans rfl,(blk_cell BK23001.out 3).trans rfl,(blk_cell BK23001.out 4).trans rfl,(blk_cell BK23001.out 5).trans rfl,((HB.out.cell (World.block_lt_of_cell? w _ hw23002_0)).trans hw23002_0),((HB.out.cell (World.block_lt_of_cell? w _ hw23002_1)).trans hw23002_1),((HB.out.cell (World.block_lt_of_cell? w _ hw23002_2)).trans hw23002_2),((HB.out.cell (World.block_lt_of_cell? w _ hw23002_3)).trans hw23002_3),((HB.out.cell (World.block_lt_of_cell? w _ hw23002_4)).trans hw23002_4)⟩ (fun hHeld=>?_);generalize wr.drew=w8 at BK23001 HB hx23002_0 hx23002_1 hx23002_2 hx23002_3 hx23002_4 hHeld ⊢;refine pure_ (i:=0) (N:=some 12) (v:=?_) (a':=?_) #[true,false,false,false,false,false] rfl rfl b22_3 (fun _ _ _ h=>h) (Or.inl ⟨(by rfl),?_⟩) ?_ ?_;rotate_left
      ·intro w';go_simp;(with_reducible rfl)
      rotate_left
      ·simp only [Act.put,List.setIfInBounds_toArray,List.set_cons_zero,List.set_cons_succ,i64_w,i32_w];rfl
      refine pure_ (i:=1) (N:=some 13) (v:=?_) (a':=?_) #[true,true,false,false,false,false] rfl rfl b22_3 (fun _ _ _ h=>h) (Or.inl ⟨(by rfl),?_⟩) ?_ ?_;rotate_left
      ·intro w';go_simp;(with_reducible rfl)
      rotate_left
      ·simp only [Act.put,List.setIfInBounds_toArray,List.set_cons_zero,List.set_cons_succ,i64_w,i32_w];rfl
      refine pure_ (i:=2) (N:=some 14) (v:=?_) (a':=?_) #[true,true,true,false,false,false] rfl rfl b22_3 (fun _ _ _ h=>h) (Or.inl ⟨(by rfl),?_⟩) ?_ ?_;rotate_left
      ·intro w';go_simp;(with_reducible rfl)
      rotate_left
      ·simp only [Act.put,List.setIfInBounds_toArray,List.set_cons_zero,List.set_cons_succ,i64_w,i32_w];rfl
      refine take_ (i:=3) (N:=some 15) (v:=?_) (a':=?_) #[true,true,true,true,false,false] rfl rfl b22_3 (fun _ _ _ h=>h) (Or.inl ⟨(by rfl),?_⟩) hHeld ?_ ?_;rotate_left
      ·rintro w' ⟨s0,s1,s2,s3,s4,s5,s6,s7,s8,s9,s10⟩;go_simp;(with_reducible rfl)
      rotate_left
      ·simp only [Act.put,List.setIfInBounds_toArray,List.set_cons_zero,List.set_cons_succ,i64_w,i32_w];rfl
      refine take_ (i:=4) (N:=some 16) (v:=?_) (a':=?_) #[true,true,true,true,true,false] rfl rfl b22_3 (fun _ _ _ h=>h) (Or.inl ⟨(by rfl),?_⟩) hHeld ?_ ?_;rotate_left
      ·rintro w' ⟨s0,s1,s2,s3,s4,s5,s6,s7,s8,s9,s10⟩;go_simp;(with_reducible rfl)
      rotate_left
      ·simp only [Act.put,List.setIfInBounds_toArray,List.set_cons_zero,List.set_cons_succ,i64_w,i32_w];rfl
      refine one_ (i:=5) (N:=some 17) #[true,true,true,true,true,true] rfl rfl b22_3 (by decide) (fun K hK=>?_);refine goes_ Tryd.func11 b22_3 rfl #[.agg #[.int .i64 ((rd_T23 l0 x5_1).f0),.string ((rd_T23 l0 x5_1).f1),.string ((rd_T23 l0 x5_1).f2),.string ((rd_T23 l0 x5_1).f3),.string ((rd_T23 l0 x5_1).f4)],.agg #[.int .i64 a1_0,.string a1_1,.string a1_2,.int .i64 a1_3,.string a1_4,.slice A1_5 l1_5.length c1_5]] (by rfl) rfl rfl mp_ ?_;(with_reducible refine(dataflowref46_Match.calls ((rd_T23 l0 x5_1).f0) ((rd_T23 l0 x5_1).f1) ((rd_T23 l0 x5_1).f2) ((rd_T23 l0 x5_1).f3) ((rd_T23 l0 x5_1).f4) a1_0 a1_1 a1_2 a1_3 a1_4 _ _ l1_5 true _ ?side1 ?side2 A6.out).mono ?_);(case side1=>exact b22_4);(case side2=>exact HC1_5.out);rintro e w9 ⟨rfl,hb⟩;refine⟨_,rfl,?_⟩;have n_:=as2_ (blk_below (g:=gb23001) (o:=.cells #[.int .i64 a1_0,.string a1_1,.string a1_2,.int .i64 a1_3,.string a1_4,.slice A1_5 l1_5.length c1_5] 28 (0,0)) b22_1 hb) (below_step b22_2 hb);clear BK23001 HB;obtain⟨BK23001,HB⟩:=n_;(try clear hb);(try clear hb2);(try clear hk);(try clear hi);refine hK.out _ _ ⟨(blk_cell BK23001.out 0).trans rfl,(blk_cell BK23001.out 1).trans rfl,(blk_cell BK23001.out 2).trans rfl,(blk_cell BK23001.out 3).trans rfl,(blk_cell BK23001.out 4).trans rfl,(blk_cell BK23001.out 5).trans rfl,((HB.out.cell (World.block_lt_of_cell? w _ hw23002_0)).trans hw23002_0),((HB.out.cell (World.block_lt_of_cell? w _ hw23002_1)).trans hw23002_1),((HB.out.cell (World.block_lt_of_cell? w _ hw23002_2)).trans hw23002_2),((HB.out.cell (World.block_lt_of_cell? w _ hw23002_3)).trans hw23002_3),((HB.out.cell (World.block_lt_of_cell? w _ hw23002_4)).trans hw23002_4)⟩ (fun hHeld=>?_);clear hK K;refine norm_ (a':=?_) ?_ ?_;rotate_left
      ·show Act.put _ (some 17) _=_
       simp only [Act.put,List.setIfInBounds_toArray,List.set_cons_zero,List.set_cons_succ,i64_w,i32_w];rfl
      refine done_ b22_3 ?_;(try go_wp2);go_ret;exact⟨er_,b22_2⟩
     ·replace c7:=Bool.eq_false_iff.mpr c7;subst c7;rw [if_neg nf_] at H;have H':=Aside0.mk H;clear H;(try go_wp2);have n_:=as2_ (blk_drew BK23001.out) (below_drew1 HB.out);clear BK23001 HB;obtain⟨BK23001,HB⟩:=n_;have p23002:0≤(x5_1:Int):=of_decide_eq_true as_;have q23002:x5_1<(l0.length:Int):=of_decide_eq_true as_;obtain⟨ad23002,e23002,hx23002_0,hx23002_1,hx23002_2,hx23002_3,hx23002_4⟩:=at_T23 HR0.out x5_1 p23002 q23002;have hw23002_4:=hx23002_4;have hw23002_3:=hx23002_3;have hw23002_2:=hx23002_2;have hw23002_1:=hx23002_1;have hw23002_0:=hx23002_0;cases e23002;replace hx23002_0:=(HB.out.cell (World.block_lt_of_cell? w _ hx23002_0)).trans hx23002_0;replace hx23002_1:=(HB.out.cell (World.block_lt_of_cell? w _ hx23002_1)).trans hx23002_1;replace hx23002_2:=(HB.out.cell (World.block_lt_of_cell? w _ hx23002_2)).trans hx23002_2;replace hx23002_3:=(HB.out.cell (World.block_lt_of_cell? w _ hx23002_3)).trans hx23002_3;replace hx23002_4:=(HB.out.cell (World.block_lt_of_cell? w _ hx23002_4)).trans hx23002_4;replace p23002:=eq_true p23002;replace q23002:=eq_true q23002;refine start_ (n:=6) (S:=fun w'=>w'.cell? ⟨gb23001,0,none⟩=some (.int .i64 a1_0)∧w'.cell? ⟨gb23001,1,none⟩=some (.string a1_1)∧w'.cell? ⟨gb23001,2,none⟩=some (.string a1_2)∧w'.cell? ⟨gb23001,3,none⟩=some (.int .i64 a1_3)∧w'.cell? ⟨gb23001,4,none⟩=some (.string a1_4)∧w'.cell? ⟨gb23001,5,none⟩=some (.slice A1_5 l1_5.length c1_5)∧w'.cell? (ad23002.add ((x5_1).toNat*5))=some (.int .i64 ((rd_T23 l0 x5_1).f0))∧w'.cell? ⟨(ad23002.add ((x5_1).toNat*5)).block,(ad23002.add ((x5_1).toNat*5)).off+1,none⟩=some (.string ((rd_T23 l0 x5_1).f1))∧w'.cell? ⟨(ad23002.add ((x5_1).toNat*5)).block,(ad23002.add ((x5_1).toNat*5)).off+2,none⟩=some (.string ((rd_T23 l0 x5_1).f2))∧w'.cell? ⟨(ad23002.add ((x5_1).toNat*5)).block,(ad23002.add ((x5_1).toNat*5)).off+3,none⟩=some (.string ((rd_T23 l0 x5_1).f3))∧w'.cell? ⟨(ad23002.add ((x5_1).toNat*5)).block,(ad23002.add ((x5_1).toNat*5)).off+4,none⟩=some (.string ((rd_T23 l0 x5_1).f4))) (ds:=[]) #[false,false,false,false,false,false] b22_3 rfl rfl ⟨(blk_cell BK23001.out 0).trans rfl,(blk_cell BK23001.out 1).trans rfl,(blk_cell BK23001.out 2).trans rfl,(blk_cell BK23001.out 3).trans rfl,(blk_cell BK23001.out 4).trans rfl,(blk_cell BK23001.out 5).trans rfl,((HB.out.cell (World.block_lt_of_cell? w _ hw23002_0)).trans hw23002_0),((HB.out.cell (World.block_lt_of_cell? w _ hw23002_1)).trans hw23002_1),((HB.out.cell (World.block_lt_of_cell? w _ hw23002_2)).trans hw23002_2),((HB.out.cell (World.block_lt_of_cell? w _ hw23002_3)).trans hw23002_3),((HB.out.cell (World.block_lt_of_cell? w _ hw23002_4)).trans hw23002_4)⟩ (fun hHeld=>?_);generalize wr.drew=w10 at BK23001 HB hx23002_0 hx23002_1 hx23002_2 hx23002_3 hx23002_4 hHeld ⊢;refine pure_ (i:=0) (N:=some 12) (v:=?_) (a':=?_) #[true,false,false,false,false,false] rfl rfl b22_3 (fun _ _ _ h=>h) (Or.inl ⟨(by rfl),?_⟩) ?_ ?_;rotate_left
      ·intro w';go_simp;(with_reducible rfl)
      rotate_left
      ·simp only [Act.put,List.setIfInBounds_toArray,List.set_cons_zero,List.set_cons_succ,i64_w,i32_w];rfl
      refine pure_ (i:=1) (N:=some 13) (v:=?_) (a':=?_) #[true,true,false,false,false,false] rfl rfl b22_3 (fun _ _ _ h=>h) (Or.inl ⟨(by rfl),?_⟩) ?_ ?_;rotate_left
      ·intro w';go_simp;(with_reducible rfl)
      rotate_left
      ·simp only [Act.put,List.setIfInBounds_toArray,List.set_cons_zero,List.set_cons_succ,i64_w,i32_w];rfl
      refine pure_ (i:=2) (N:=some 14) (v:=?_) (a':=?_) #[true,true,true,false,false,false] rfl rfl b22_3 (fun _ _ _ h=>h) (Or.inl ⟨(by rfl),?_⟩) ?_ ?_;rotate_left
      ·intro w';go_simp;(with_reducible rfl)
      rotate_left
      ·simp only [Act.put,List.setIfInBounds_toArray,List.set_cons_zero,List.set_cons_succ,i64_w,i32_w];rfl
      refine take_ (i:=3) (N:=some 15) (v:=?_) (a':=?_) #[true,true,true,true,false,false] rfl rfl b22_3 (fun _ _ _ h=>h) (Or.inl ⟨(by rfl),?_⟩) hHeld ?_ ?_;rotate_left
      ·rintro w' ⟨s0,s1,s2,s3,s4,s5,s6,s7,s8,s9,s10⟩;go_simp;(with_reducible rfl)
      rotate_left
      ·simp only [Act.put,List.setIfInBounds_toArray,List.set_cons_zero,List.set_cons_succ,i64_w,i32_w];rfl
      refine take_ (i:=4) (N:=some 16) (v:=?_) (a':=?_) #[true,true,true,true,true,false] rfl rfl b22_3 (fun _ _ _ h=>h) (Or.inl ⟨(by rfl),?_⟩) hHeld ?_ ?_;rotate_left
      ·rintro w' ⟨s0,s1,s2,s3,s4,s5,s6,s7,s8,s9,s10⟩;go_simp;(with_reducible rfl)
      rotate_left
      ·simp only [Act.put,List.setIfInBounds_toArray,List.set_cons_zero,List.set_cons_succ,i64_w,i32_w];rfl
      refine one_ (i:=5) (N:=some 17) #[true,true,true,true,true,true] rfl rfl b22_3 (by decide) (fun K hK=>?_);refine goes_ Tryd.func11 b22_3 rfl #[.agg #[.int .i64 ((rd_T23 l0 x5_1).f0),.string ((rd_T23 l0 x5_1).f1),.string ((rd_T23 l0 x5_1).f2),.string ((rd_T23 l0 x5_1).f3),.string ((rd_T23 l0 x5_1).f4)],.agg #[.int .i64 a1_0,.string a1_1,.string a1_2,.int .i64 a1_3,.string a1_4,.slice A1_5 l1_5.length c1_5]] (by rfl) rfl rfl mp_ ?_;(with_reducible refine(dataflowref46_Match.calls ((rd_T23 l0 x5_1).f0) ((rd_T23 l0 x5_1).f1) ((rd_T23 l0 x5_1).f2) ((rd_T23 l0 x5_1).f3) ((rd_T23 l0 x5_1).f4) a1_0 a1_1 a1_2 a1_3 a1_4 _ _ l1_5 false _ ?side1 ?side2 A6.out).mono ?_);(case side1=>exact b22_4);(case side2=>exact HC1_5.out);rintro e w11 ⟨rfl,hb⟩;refine⟨_,rfl,?_⟩;have n_:=as2_ (blk_below (g:=gb23001) (o:=.cells #[.int .i64 a1_0,.string a1_1,.string a1_2,.int .i64 a1_3,.string a1_4,.slice A1_5 l1_5.length c1_5] 28 (0,0)) b22_1 hb) (below_step b22_2 hb);clear BK23001 HB;obtain⟨BK23001,HB⟩:=n_;(try clear hb);(try clear hb2);(try clear hk);(try clear hi);refine hK.out _ _ ⟨(blk_cell BK23001.out 0).trans rfl,(blk_cell BK23001.out 1).trans rfl,(blk_cell BK23001.out 2).trans rfl,(blk_cell BK23001.out 3).trans rfl,(blk_cell BK23001.out 4).trans rfl,(blk_cell BK23001.out 5).trans rfl,((HB.out.cell (World.block_lt_of_cell? w _ hw23002_0)).trans hw23002_0),((HB.out.cell (World.block_lt_of_cell? w _ hw23002_1)).trans hw23002_1),((HB.out.cell (World.block_lt_of_cell? w _ hw23002_2)).trans hw23002_2),((HB.out.cell (World.block_lt_of_cell? w _ hw23002_3)).trans hw23002_3),((HB.out.cell (World.block_lt_of_cell? w _ hw23002_4)).trans hw23002_4)⟩ (fun hHeld=>?_);clear hK K;refine norm_ (a':=?_) ?_ ?_;rotate_left
      ·show Act.put _ (some 17) _=_
       simp only [Act.put,List.setIfInBounds_toArray,List.set_cons_zero,List.set_cons_succ,i64_w,i32_w];rfl
      refine done_ b22_3 ?_;(try go_wp2)
      go_roundg k1
      case measure=>have:=HK1.out;omega
      case rel=>exact⟨(wrap64 (x5_1+1)),fr_,H',⟨(by have:=HK1.out;omega)⟩,⟨b22_1⟩,⟨b22_2⟩⟩
    ·rw [if_neg c5] at H;exact absurd H (by simp)
   ·rw [if_neg c4] at H;have c4b0:decide (x5_1<(l0.length:Int))=false:=decide_eq_false c4;clear c4;obtain rfl:=Option.some.inj H;go_wp2;go_ret;exact⟨er_,b22_2⟩
end Go.Proofs.YtnoangbidnigdaaDoor.H

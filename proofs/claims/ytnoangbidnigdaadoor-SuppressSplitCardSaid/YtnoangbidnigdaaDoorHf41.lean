/- Printed (xprint.py): Go functions as Lean functions, each with the proof that its call does what the Lean function says. -/
import Derived.Test.YtnoangbidnigdaaDoorH0
import Derived.Test.YtnoangbidnigdaaDoorHf10
namespace Go.Proofs.YtnoangbidnigdaaDoor.H
open Go.RowKit Go.Proofs.YtnoangbidnigdaaDoorW.PrintWords Go.Proofs.YtnoangbidnigdaaDoorW.PrintLast Go.Proofs.YtnoangbidnigdaaDoorW.PrintMore
attribute [local go_sem] max2_int min2_int max_two min_two max_three min_three max_four min_four   -- for this text's walks alone
set_option linter.unusedVariables false
set_option linter.unusedSimpArgs false
/-! ### api_Note: function 41 -/
--EXT api_Note
/-- The first suppression that applies, from i on. -/
def idxF(a1_0:Int)(a1_1:ByteArray)(a1_2:ByteArray)(a1_3:Int)(a1_4:ByteArray)(l1_5:List (S25)):List (S23)→Int→Int
  |[],_=>-1
  |n::l,i=>if suppress_Match.f n.f0 n.f1 n.f2 n.f3 n.f4 a1_0 a1_1 a1_2 a1_3 a1_4 l1_5=some true then i else idxF a1_0 a1_1 a1_2 a1_3 a1_4 l1_5 l (i+1)
def api_Note.f(l0:List (S23))(a1_0:Int)(a1_1:ByteArray)(a1_2:ByteArray)(a1_3:Int)(a1_4:ByteArray)(l1_5:List (S25)):Option Int:=if l0.length<3000000000000 then some (idxF a1_0 a1_1 a1_2 a1_3 a1_4 l1_5 l0 0) else none
set_option maxHeartbeats 2000000 in
set_option maxRecDepth 100000 in
theorem apply1_calls(n:S23)(g:Nat)(a1_0:Int)(a1_1:ByteArray)(a1_2:ByteArray)(a1_3:Int)(a1_4:ByteArray)(A1_5:Option Addr)(c1_5:Nat)(l1_5:List (S25))(r:Bool)(w:World)(hr1_5:Kd.C k25 w A1_5 l1_5.length l1_5)(hc1_5:l1_5.length≤c1_5)
    (hbx:w.heap[g]?=some (.cells #[.int .i64 a1_0,.string a1_1,.string a1_2,.int .i64 a1_3,.string a1_4,.slice A1_5 l1_5.length c1_5] 28 (0,0)))
    (h:suppress_Match.f n.f0 n.f1 n.f2 n.f3 n.f4 a1_0 a1_1 a1_2 a1_3 a1_4 l1_5=some r) :
    Calls Tryd.prog 42 #[.agg #[.int .i64 n.f0,.string n.f1,.string n.f2,.string n.f3,.string n.f4],.pointer (some ⟨g,0,none⟩)] w fun e w'=>e=.returned (.bool r)∧Below w.heap.size w w':=by
  obtain⟨m0,m1,m2,m3,m4⟩:=n;have hu1:=Tryd.underlying23;have hu2:=Tryd.underlying28;have HR:=Aside0.mk hr1_5;have HC:=Aside0.mk hc1_5;have HM:=Aside0.mk h;clear hr1_5 hc1_5 h;have HB:=Aside0.mk (Below.refl w.heap.size w);have BK:=Aside0.mk hbx;have hbl:=Aside0.mk (below_alloc (Below.refl w.heap.size w) (.cells #[.int .i64 m0,.string m1,.string m2,.string m3,.string m4] 23 (0,0)));clear hbx;have hq0:(w.alloc (.cells #[.int .i64 m0,.string m1,.string m2,.string m3,.string m4] 23 (0,0))).cell? ⟨g,0,none⟩=some (.int .i64 a1_0):=(blk_cell (blk_alloc BK.out _) 0).trans rfl;have hq1:(w.alloc (.cells #[.int .i64 m0,.string m1,.string m2,.string m3,.string m4] 23 (0,0))).cell? ⟨g,1,none⟩=some (.string a1_1):=(blk_cell (blk_alloc BK.out _) 1).trans rfl;have hq2:(w.alloc (.cells #[.int .i64 m0,.string m1,.string m2,.string m3,.string m4] 23 (0,0))).cell? ⟨g,2,none⟩=some (.string a1_2):=(blk_cell (blk_alloc BK.out _) 2).trans rfl;have hq3:(w.alloc (.cells #[.int .i64 m0,.string m1,.string m2,.string m3,.string m4] 23 (0,0))).cell? ⟨g,3,none⟩=some (.int .i64 a1_3):=(blk_cell (blk_alloc BK.out _) 3).trans rfl;have hq4:(w.alloc (.cells #[.int .i64 m0,.string m1,.string m2,.string m3,.string m4] 23 (0,0))).cell? ⟨g,4,none⟩=some (.string a1_4):=(blk_cell (blk_alloc BK.out _) 4).trans rfl;have hq5:(w.alloc (.cells #[.int .i64 m0,.string m1,.string m2,.string m3,.string m4] 23 (0,0))).cell? ⟨g,5,none⟩=some (.slice A1_5 l1_5.length c1_5):=(blk_cell (blk_alloc BK.out _) 5).trans rfl;go_enter Tryd.func42,Tryd.ntmps42
  go_wp2_with (first|(go_at_call 10;(with_reducible refine(suppress_Match.calls m0 m1 m2 m3 m4 a1_0 a1_1 a1_2 a1_3 a1_4 A1_5 c1_5 l1_5 r _ ?s1 HC.out HM.out).mono ?_);(case s1=>exact Kd.C_below HR.out hbl.out);rintro e w5 ⟨rfl,hb⟩;have HB5:=Aside0.mk (below_step hbl.out hb);clear hb))
  go_ret;exact⟨rfl,HB5.out⟩
set_option maxHeartbeats 4000000 in
set_option maxRecDepth 100000 in
theorem api_Note.calls(A0:Option Addr)(c0:Nat)(l0:List (S23))(g:Nat)(a1_0:Int)(a1_1:ByteArray)(a1_2:ByteArray)(a1_3:Int)(a1_4:ByteArray)(A1_5:Option Addr)(c1_5:Nat)(l1_5:List (S25))(r:Int)(w:World)(hr0:Kd.C k23 w A0 l0.length l0)(hc0:l0.length≤c0)(hr1_5:Kd.C k25 w A1_5 l1_5.length l1_5)(hc1_5:l1_5.length≤c1_5)
    (hbx:w.heap[g]?=some (.cells #[.int .i64 a1_0,.string a1_1,.string a1_2,.int .i64 a1_3,.string a1_4,.slice A1_5 l1_5.length c1_5] 28 (0,0)))
    (h:api_Note.f l0 a1_0 a1_1 a1_2 a1_3 a1_4 l1_5=some r) :
    Calls Tryd.prog 41 #[.slice A0 l0.length c0,.func (.func 42) #[] #[.pointer (some ⟨g,0,none⟩)]] w fun e w'=>e=.returned (.int .i64 r)∧Below w.heap.size w w':=by
  have hu23:=Tryd.underlying23;unfold api_Note.f at h
  split at h
  · rename_i hlen
    have HLEN:=Aside0.mk hlen;have HZ:=Aside0.mk (Option.some.inj h);have HR:=Aside0.mk hr0;have HC:=Aside0.mk hc0;have HR5:=Aside0.mk hr1_5;have HC5:=Aside0.mk hc1_5;have BK:=Aside0.mk hbx;clear h hlen hr0 hc0 hr1_5 hc1_5 hbx;have HB:=Aside0.mk (Below.refl w.heap.size w);go_enter Tryd.func41,Tryd.ntmps41;go_wp2
    go_loopw [8] (fun v8 wr=>∃ (i:Nat),v8=.int .i64 i∧Aside0 (i≤l0.length∧idxF a1_0 a1_1 a1_2 a1_3 a1_4 l1_5 (l0.drop i) i=r)∧Aside0 (Below w.heap.size w wr)) (fun v8 _=>l0.length-(intOf v8).toNat)
    case atStart=>exact⟨0,rfl,⟨⟨Nat.zero_le _,HZ.out⟩⟩,HB⟩
    case round =>
      clear HB;obtain⟨i,rfl,HI,HBr⟩:=hrel
      by_cases hlt:i<l0.length
      · have hd:=decide_eq_true (show(i:Int)<(l0.length:Int) by omega)
        have hd2:=decide_eq_true hlt;have HL:=Aside0.mk hlt;obtain⟨am,eA,hy0,hy1,hy2,hy3,hy4⟩:=at_T23 HR.out (i:Int) (by omega) (by omega);subst eA;replace hy0:=(HBr.out.cell (World.block_lt_of_cell? w _ hy0)).trans hy0;replace hy1:=(HBr.out.cell (World.block_lt_of_cell? w _ hy1)).trans hy1;replace hy2:=(HBr.out.cell (World.block_lt_of_cell? w _ hy2)).trans hy2;replace hy3:=(HBr.out.cell (World.block_lt_of_cell? w _ hy3)).trans hy3;replace hy4:=(HBr.out.cell (World.block_lt_of_cell? w _ hy4)).trans hy4;have p5:=eq_true (show(0:Int)≤(i:Int) by omega);have p6:=eq_true (show(i:Int)<(l0.length:Int) by omega);have hdrop:=List.drop_eq_getElem_cons hlt
        have hm:l0[i]=rd_T23 l0 (i:Int):=by unfold rd_T23;rw [Int.toNat_natCast,List.getD_eq_getElem?_getD,List.getElem?_eq_getElem hlt];rfl
        rw [hm] at hdrop;have hT:=HI.out.2;rw [hdrop] at hT;unfold idxF at hT;obtain⟨m,hmm⟩:∃ m,rd_T23 l0 (i:Int)=m:=⟨_,rfl⟩;rw [hmm] at hy0 hy1 hy2 hy3 hy4 hT;clear hmm hm hdrop hlt;simp only [Int.toNat_natCast] at hy0 hy1 hy2 hy3 hy4;obtain⟨b,hb⟩:∃ b,suppress_Match.f m.f0 m.f1 m.f2 m.f3 m.f4 a1_0 a1_1 a1_2 a1_3 a1_4 l1_5=some b:=⟨_,rfl⟩;rw [hb] at hT;have MB:=Aside0.mk hb;clear hb;have BK1:=Aside0.mk (show wr.heap[g]?=some (.cells #[.int .i64 a1_0,.string a1_1,.string a1_2,.int .i64 a1_3,.string a1_4,.slice A1_5 l1_5.length c1_5] 28 (0,0)) by rw [HBr.out.block g (Array.getElem?_eq_some_iff.1 BK.out).1];exact BK.out)
        cases b with
        |true =>
          have hT2:(i:Int)=r:=by simpa using hT
          have HT:=Aside0.mk hT2;clear hT hT2
          go_wp2_with (first|(go_at_call 42;(with_reducible refine(apply1_calls m g a1_0 a1_1 a1_2 a1_3 a1_4 A1_5 c1_5 l1_5 true _ ?s1 HC5.out BK1.out MB.out).mono ?_);(case s1=>exact Kd.C_below HR5.out HBr.out);rintro e w5 ⟨rfl,hb⟩;have HB5:=Aside0.mk (below_step HBr.out hb);clear hb))
          go_ret;exact⟨by rw [HT.out];rfl,HB5.out⟩
        |false =>
          have hT2:idxF a1_0 a1_1 a1_2 a1_3 a1_4 l1_5 (l0.drop (i+1)) ((i:Int)+1)=r:=by simpa using hT
          have HT:=Aside0.mk hT2;clear hT hT2
          have wnext:wrap64 ((i:Int)+1)=((i+1:Nat):Int):=by have:=HL.out;have:=HLEN.out;unfold wrap64;omega
          go_wp2_with (first|(go_at_call 42;(with_reducible refine(apply1_calls m g a1_0 a1_1 a1_2 a1_3 a1_4 A1_5 c1_5 l1_5 false _ ?s1 HC5.out BK1.out MB.out).mono ?_);(case s1=>exact Kd.C_below HR5.out HBr.out);rintro e w5 ⟨rfl,hb⟩;have HB5:=Aside0.mk (below_step HBr.out hb);clear hb))
          go_roundw
          case rel=>exact⟨i+1,by rw [wnext],⟨⟨by have:=HL.out;omega,HT.out⟩⟩,HB5⟩
          case measure=>have:=HL.out;rw [wnext];simp [intOf];omega
      · obtain rfl:i=l0.length:=by have:=HI.out.1;omega
        have hd:=decide_eq_false (show ¬ (l0.length:Int)<(l0.length:Int) by omega);have hd2:=decide_eq_false (show ¬ l0.length<l0.length by omega);have hE:=HI.out.2;rw [List.drop_length] at hE;have HE:=Aside0.mk (show(-1:Int)=r from hE);clear hE;go_wp2;go_ret;exact⟨by rw [HE.out];rfl,HBr.out⟩
  · cases h

end Go.Proofs.YtnoangbidnigdaaDoor.H

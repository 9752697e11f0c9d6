/- Printed (xprint.py): Go functions as Lean functions, each with the proof that its call does what the Lean function says. -/
import Derived.Test.YthfhbdncphkdaaaDoorH0
import Derived.Test.YthfhbdncphkdaaaDoorHc
import Derived.Test.YthfhbdncphkdaaaDoorHf49
import Derived.Test.YthfhbdncphkdaaaDoorBld
namespace Go.Proofs.YthfhbdncphkdaaaDoor.H
open Go.RowKit Go.Proofs.YthfhbdncphkdaaaDoorW.PrintWords Go.Proofs.YthfhbdncphkdaaaDoorW.PrintLast Go.Proofs.YthfhbdncphkdaaaDoorW.PrintMore
attribute [local go_sem] max2_int min2_int max_two min_two max_three min_three max_four min_four   -- for this text's walks alone
set_option linter.unusedVariables false
set_option linter.unusedSimpArgs false
/-! ### protocol_Text: function 35 -/
--EXT protocol_Text
def protocol_Text.T5:Bool × List (List Nat × List Nat):=(true,[([],[]),([0],[0]),([1],[1]),([2],[2]),([],[]),([4],[4]),([5],[5]),([3,6],[3,6]),([7],[7]),([8,6],[8])])
def protocol_Text.B5:List Nat:=[0,1,3,7,0,16,48,127,255,511]
theorem protocol_Text.tab5:rtab .any (opsOf Tryd.f35 5)=protocol_Text.T5:=by kernel_rfl
theorem protocol_Text.bits5:waitsOk protocol_Text.T5.2 protocol_Text.B5=true:=by kernel_rfl
def protocol_Text.T6:Bool × List (List Nat × List Nat):=(true,[([],[]),([0],[0]),([],[]),([2],[2]),([1,3],[1,3]),([4],[4]),([5],[5]),([6],[6]),([],[]),([8],[8]),([],[]),([10],[10]),([9,11],[9,11]),([12],[12]),([7,13],[7,13]),([14],[14]),([15],[15])])
def protocol_Text.B6:List Nat:=[0,1,0,4,15,31,63,127,0,256,0,1024,3840,7936,16383,32767,65535]
theorem protocol_Text.tab6:rtab .any (opsOf Tryd.f35 6)=protocol_Text.T6:=by kernel_rfl
theorem protocol_Text.bits6:waitsOk protocol_Text.T6.2 protocol_Text.B6=true:=by kernel_rfl
def protocol_Text.T10:Bool × List (List Nat × List Nat):=(true,[([],[]),([0],[0]),([],[]),([2],[2]),([1,3],[1,3]),([4],[4]),([5],[5]),([6],[6]),([],[]),([8],[8]),([7,9],[7,9]),([10],[10]),([],[]),([12],[12]),([],[]),([14],[14]),([13,15],[13,15]),([16],[16]),([11,17],[11,17]),([18],[18]),([19],[19])])
def protocol_Text.B10:List Nat:=[0,1,0,4,15,31,63,127,0,256,1023,2047,0,4096,0,16384,61440,126976,262143,524287,1048575]
theorem protocol_Text.tab10:rtab .any (opsOf Tryd.f35 10)=protocol_Text.T10:=by kernel_rfl
theorem protocol_Text.bits10:waitsOk protocol_Text.T10.2 protocol_Text.B10=true:=by kernel_rfl
/-- A line of a move. -/
def mvL(ss:List ByteArray)(m:S64):ByteArray:=(((((⟨#[109,111,118,101,32]⟩:ByteArray)++rdOf ByteArray.empty ss m.f0)++(⟨#[32]⟩:ByteArray))++m.f1)++(⟨#[32]⟩:ByteArray))++rdOf ByteArray.empty ss m.f2++(⟨#[10]⟩:ByteArray)
def mvText(ss:List ByteArray):List S64→ByteArray→ByteArray
  |[],acc=>acc
  |m::l,acc=>mvText ss l (acc++mvL ss m)
def joinSp(ss:List ByteArray):ByteArray:=⟨(Lib.join (ss.map (·.data.toList)) [32]).toArray⟩
def hd1(c:ByteArray)(ss:List ByteArray):ByteArray:=((((⟨#[112,114,111,116,111,99,111,108,32]⟩:ByteArray)++c)++(⟨#[10,115,116,97,116,101,115,32]⟩:ByteArray))++joinSp ss)++(⟨#[10]⟩:ByteArray)
def hd2(ss:List ByteArray)(st er:Int):ByteArray:=((((⟨#[115,116,97,114,116,32]⟩:ByteArray)++rdOf ByteArray.empty ss st)++(⟨#[10,101,114,114,111,114,32]⟩:ByteArray))++rdOf ByteArray.empty ss er)++(⟨#[10]⟩:ByteArray)
/-- The text of a protocol. -/
def proText(c:ByteArray)(ss:List ByteArray)(st er:Int)(ms:List S64):ByteArray:=mvText ss ms (((⟨#[]⟩:ByteArray)++hd1 c ss)++hd2 ss st er)++(⟨#[101,110,100,10]⟩:ByteArray)
def inR(ss:List ByteArray)(q:Int):Bool:=decide (0≤q)&&decide (q<(ss.length:Int))
def textOk(c:ByteArray)(ss:List ByteArray)(st er:Int)(ms:List S64):Bool:=inR ss st&&inR ss er&&ms.all (fun m=>inR ss m.f0&&inR ss m.f2)&&decide (ss.length≤140737488355328)&&decide ((proText c ss st er ms).size≤140737488355328)
def protocol_Text.f(k:Nat)(a0_0:ByteArray)(l0_1:List ByteArray)(a0_2:Int)(a0_3:Int)(l0_4:List (S64)):Option (ByteArray × Int) :=
  (protocol_Check.f k a0_0 l0_1 a0_2 a0_3 l0_4).bind fun e=>if e=0 then(if textOk a0_0 l0_1 a0_2 a0_3 l0_4=true then some (proText a0_0 l0_1 a0_2 a0_3 l0_4,0) else none) else some ((⟨#[]⟩:ByteArray),e)
theorem protocol_Text.mono:∀ a0 a1 a2 a3 a4 k,LeO (protocol_Text.f k a0 a1 a2 a3 a4) (protocol_Text.f (k+1) a0 a1 a2 a3 a4):=by
  intro a0 a1 a2 a3 a4 k;unfold protocol_Text.f;exact LeO.bind (protocol_Check.mono _ _ _ _ _ _) (fun _=>LeO.refl _)
theorem mvText_size(ss:List ByteArray):∀ (l:List S64) (acc:ByteArray),acc.size≤(mvText ss l acc).size:=by
  intro l
  induction l with
  |nil=>intro acc;exact Nat.le_refl _
  |cons m l ih =>
    intro acc;have:=ih (acc++mvL ss m);have h2:(acc++mvL ss m).size=acc.size+(mvL ss m).size:=ByteArray.size_append;unfold mvText
    omega
theorem hd1_size(c:ByteArray)(ss:List ByteArray):(hd1 c ss).size=9+c.size+8+(joinSp ss).size+1:=by
  unfold hd1;simp only [ByteArray.size_append];rfl
theorem hd2_size(ss:List ByteArray)(st er:Int):(hd2 ss st er).size=6+(rdOf ByteArray.empty ss st).size+7+(rdOf ByteArray.empty ss er).size+1:=by
  unfold hd2;simp only [ByteArray.size_append];rfl
theorem mvL_size(ss:List ByteArray)(m:S64):(mvL ss m).size=5+(rdOf ByteArray.empty ss m.f0).size+1+m.f1.size+1+(rdOf ByteArray.empty ss m.f2).size+1:=by
  unfold mvL;simp only [ByteArray.size_append];rfl
theorem textSizes{c:ByteArray}{ss:List ByteArray}{st er:Int}{ms:List S64}(h:textOk c ss st er ms=true) :
    9+c.size+8+(joinSp ss).size+1+(6+(rdOf ByteArray.empty ss st).size+7+(rdOf ByteArray.empty ss er).size+1)≤140737488355328:=by
  unfold textOk at h;simp only [Bool.and_eq_true,decide_eq_true_eq] at h;have h1:=h.2;unfold proText at h1;have h2:=mvText_size ss ms (((⟨#[]⟩:ByteArray)++hd1 c ss)++hd2 ss st er);rw [ByteArray.size_append] at h1;rw [ByteArray.size_append,ByteArray.size_append,hd1_size,hd2_size] at h2
  omega
theorem textIn{c:ByteArray}{ss:List ByteArray}{st er:Int}{ms:List S64}(h:textOk c ss st er ms=true):0≤st∧st<(ss.length:Int)∧0≤er∧er<(ss.length:Int):=by
  unfold textOk inR at h;simp only [Bool.and_eq_true,decide_eq_true_eq] at h;exact⟨h.1.1.1.1.1,h.1.1.1.1.2,h.1.1.1.2.1,h.1.1.1.2.2⟩
theorem textMoves{c:ByteArray}{ss:List ByteArray}{st er:Int}{ms:List S64}(h:textOk c ss st er ms=true):∀ m∈ms,(0≤m.f0∧m.f0<(ss.length:Int))∧0≤m.f2∧m.f2<(ss.length:Int):=by
  unfold textOk at h;simp only [Bool.and_eq_true,decide_eq_true_eq,List.all_eq_true,inR] at h;exact h.1.1.2
theorem textAll{c:ByteArray}{ss:List ByteArray}{st er:Int}{ms:List S64}(h:textOk c ss st er ms=true):(proText c ss st er ms).size≤140737488355328:=by
  unfold textOk at h;simp only [Bool.and_eq_true,decide_eq_true_eq] at h;exact h.2
theorem mvText_len(ss:List ByteArray):∀ (l:List S64) (acc:ByteArray),acc.size+l.length≤(mvText ss l acc).size:=by
  intro l
  induction l with
  |nil=>intro acc;exact Nat.le_refl _
  |cons m l ih =>
    intro acc;have:=ih (acc++mvL ss m);rw [ByteArray.size_append,mvL_size] at this;unfold mvText;rw [List.length_cons]
    omega
theorem textLen{c:ByteArray}{ss:List ByteArray}{st er:Int}{ms:List S64}(h:textOk c ss st er ms=true):ms.length≤140737488355328:=by
  have h1:=textAll h;unfold proText at h1;have h2:=mvText_len ss ms (((⟨#[]⟩:ByteArray)++hd1 c ss)++hd2 ss st er);rw [ByteArray.size_append] at h1
  omega
theorem joinSp_eq{c:ByteArray}{ss:List ByteArray}{st er:Int}{ms:List S64}(h:textOk c ss st er ms=true):strings_Join.f ss (⟨#[32]⟩:ByteArray)=some (joinSp ss):=by
  have hz:=textSizes h;unfold textOk at h;simp only [Bool.and_eq_true,decide_eq_true_eq] at h;unfold strings_Join.f;rw [show(⟨#[32]⟩:ByteArray).data.toList=[32] from rfl]
  have hl:(Lib.join (ss.map (·.data.toList)) [32]).length=(joinSp ss).size:=by unfold joinSp;simp [ByteArray.size]
  rw [if_pos ⟨h.1.2,by rw [hl];omega⟩];rfl
set_option maxHeartbeats 8000000 in
set_option maxRecDepth 100000 in
theorem protocol_Text.calls(k:Nat)(a0_0:ByteArray)(A0_1:Option Addr)(c0_1:Nat)(l0_1:List ByteArray)(a0_2:Int)(a0_3:Int)(A0_4:Option Addr)(c0_4:Nat)(l0_4:List (S64))(r1:ByteArray)(r2:Int)(w:World)(hr0_1:Kd.C Kd.string w A0_1 l0_1.length l0_1)(hc0_1:l0_1.length≤c0_1)(hr0_4:Kd.C k64 w A0_4 l0_4.length l0_4)(hc0_4:l0_4.length≤c0_4)(hgh:Gh w)(h:protocol_Text.f k a0_0 l0_1 a0_2 a0_3 l0_4=some (r1,r2)) :
    Calls Tryd.prog 35 #[.agg #[.string a0_0,.slice A0_1 l0_1.length c0_1,.int .i64 a0_2,.int .i64 a0_3,.slice A0_4 l0_4.length c0_4]] w fun e w'=>e=.returned (.tuple #[.string r1,.int .i64 r2])∧Below w.heap.size w w':=by
  have hu34:=Tryd.underlying35;have hu64:=Tryd.underlying64;have HR1:=Aside0.mk hr0_1;have HC1:=Aside0.mk hc0_1;have HR4:=Aside0.mk hr0_4;have HC4:=Aside0.mk hc0_4;have HGH:=Aside0.mk hgh;clear hr0_1 hc0_1 hr0_4 hc0_4 hgh;unfold protocol_Text.f at h;obtain⟨e,hA,hB⟩:=Option.bind_eq_some_iff.mp h;clear h;have A1:=Aside0.mk hA;have BK:=Aside0.mk (blk_new w (.cells #[.string a0_0,.slice A0_1 l0_1.length c0_1,.int .i64 a0_2,.int .i64 a0_3,.slice A0_4 l0_4.length c0_4] 35 (0,0)));have HB:=Aside0.mk (below_alloc (Below.refl w.heap.size w) (.cells #[.string a0_0,.slice A0_1 l0_1.length c0_1,.int .i64 a0_2,.int .i64 a0_3,.slice A0_4 l0_4.length c0_4] 35 (0,0)));clear hA
  by_cases h0:e=0
  · subst h0
    rw [if_pos rfl] at hB
    split at hB
    · rename_i hok
      simp only [Option.some.injEq,Prod.mk.injEq] at hB;obtain⟨rfl,rfl⟩:=hB;have HOK:=Aside0.mk hok;have hr:=textIn hok;have hrm:=Aside0.mk (textMoves hok);clear hok;obtain⟨ad,eA,hx0⟩:=Kd.at_string HR1.out a0_2 hr.1 hr.2.1;subst eA;obtain⟨ad',eA,hx1⟩:=Kd.at_string HR1.out a0_3 hr.2.2.1 hr.2.2.2
      obtain rfl:ad=ad':=by injection eA
      clear eA;have q0:=eq_true hr.1;have q1:=eq_true hr.2.1;have q2:=eq_true hr.2.2.1;have q3:=eq_true hr.2.2.2;have X0:=Aside0.mk hx0;have X1:=Aside0.mk hx1;clear hr hx0 hx1;go_enter Tryd.func35,Tryd.ntmps35
      go_wp2_with (first|(go_at_call 33;(with_reducible refine(protocol_Check.calls k _ _ _ _ _ _ _ _ _ _ _ ?s1 ?s2 ?s3 ?s4 ?s5 A1.out).mono ?_);(case s1=>exact Kd.C_below HR1.out HB.out);(case s2=>exact HC1.out);(case s3=>exact Kd.C_below HR4.out HB.out);(case s4=>exact HC4.out);(case s5=>exact Gh.below HGH.out HB.out);rintro e w2 ⟨rfl,hb⟩;have BK2:=Aside0.mk (blk_below BK.out hb);have HB2:=Aside0.mk (below_step HB.out hb);clear hb))
      have BK3:=Aside0.mk (blk_alloc BK2.out (.cells #[.pointer none,.slice none 0 0] 72 (0,0)));have HB3:=Aside0.mk (below_alloc HB2.out (.cells #[.pointer none,.slice none 0 0] 72 (0,0)));have BD3:=Aside0.mk (B.Bld.fresh w2);have GE:=Aside0.mk (show w.heap.size<w2.heap.size from (Array.getElem?_eq_some_iff.1 BK2.out).1);clear BK2 HB2;generalize w2.alloc (.cells #[.pointer none,.slice none 0 0] 72 (0,0))=w3 at BK3 HB3 BD3 ⊢;generalize w2.heap.size=b at BD3 GE ⊢;have hz:=textSizes HOK.out;have HZ:=Aside0.mk hz;have HJ:=Aside0.mk (joinSp_eq HOK.out);replace BK3:=Aside0.mk (blk_drew BK3.out);replace HB3:=Aside0.mk (below_drew1 HB3.out);replace BD3:=Aside0.mk (BD3.out.drew);have hs1:(9223372036854775807<9+a0_0.size)=False:=eq_false (by omega);have hs2:(9223372036854775807<9+a0_0.size+8)=False:=eq_false (by omega);have hs3:(9223372036854775807<9+a0_0.size+8+(joinSp l0_1).size)=False:=eq_false (by omega);have hs4:(9223372036854775807<9+a0_0.size+8+(joinSp l0_1).size+1)=False:=eq_false (by omega);refine start_ (n:=10) (S:=fun w'=>w'.cell? ⟨w.heap.size,0,none⟩=some (.string a0_0)∧w'.cell? ⟨w.heap.size,1,none⟩=some (.slice (some ad) l0_1.length c0_1)) (ds:=[]) #[false,false,false,false,false,false,false,false,false,false] (by kernel_rfl) rfl rfl ⟨(blk_cell BK3.out 0).trans rfl,(blk_cell BK3.out 1).trans rfl⟩ (fun hHeld=>?_);refine with_tabW protocol_Text.tab5 protocol_Text.bits5 (fun HT_ HW_=>?_);generalize w3.drew=w4 at BK3 HB3 BD3 hHeld ⊢;refine pure_ (i:=0) (N:=some 13) (v:=?_) (a':=?_) #[true,false,false,false,false,false,false,false,false,false] rfl rfl (any_of HT_.out (by kernel_rfl)) (fun _ _ _ h=>h) (Or.inl ⟨by rfl,?_⟩) ?_ ?_;rotate_left
      · intro w'
        go_simp;(with_reducible rfl)
      rotate_left
      · simp only [Act.put,List.setIfInBounds_toArray,List.set_cons_zero,List.set_cons_succ,i64_w,i32_w]
        rfl
      refine pure_ (i:=4) (N:=some 17) (v:=?_) (a':=?_) #[true,false,false,false,true,false,false,false,false,false] rfl rfl (any_of HT_.out (by kernel_rfl)) (fun _ _ _ h=>h) (Or.inl ⟨by rfl,?_⟩) ?_ ?_;rotate_left
      · intro w'
        go_simp;(with_reducible rfl)
      rotate_left
      · simp only [Act.put,List.setIfInBounds_toArray,List.set_cons_zero,List.set_cons_succ,i64_w,i32_w]
        rfl
      refine take_ (i:=1) (N:=some 14) (v:=?_) (a':=?_) #[true,true,false,false,true,false,false,false,false,false] rfl rfl (take_ofW HT_.out HW_.out (by kernel_rfl)) (fun _ _ _ h=>h) (Or.inl ⟨by rfl,?_⟩) hHeld ?_ ?_;rotate_left
      · rintro w' ⟨s0,s1⟩
        go_simp;(with_reducible rfl)
      rotate_left
      · simp only [Act.put,List.setIfInBounds_toArray,List.set_cons_zero,List.set_cons_succ,i64_w,i32_w]
        rfl
      refine take_ (i:=5) (N:=some 18) (v:=?_) (a':=?_) #[true,true,false,false,true,true,false,false,false,false] rfl rfl (take_ofW HT_.out HW_.out (by kernel_rfl)) (fun _ _ _ h=>h) (Or.inl ⟨by rfl,?_⟩) hHeld ?_ ?_;rotate_left
      · rintro w' ⟨s0,s1⟩
        go_simp;(with_reducible rfl)
      rotate_left
      · simp only [Act.put,List.setIfInBounds_toArray,List.set_cons_zero,List.set_cons_succ,i64_w,i32_w]
        rfl
      refine pure_ (i:=2) (N:=some 15) (v:=?_) (a':=?_) #[true,true,true,false,true,true,false,false,false,false] rfl rfl (any_of HT_.out (by kernel_rfl)) (fun _ _ _ h=>h) (Or.inl ⟨by rfl,?_⟩) ?_ ?_;rotate_left
      · intro w'
        go_simp;(with_reducible rfl)
      rotate_left
      · simp only [Act.put,List.setIfInBounds_toArray,List.set_cons_zero,List.set_cons_succ,i64_w,i32_w]
        rfl
      refine pure_ (i:=3) (N:=some 16) (v:=?_) (a':=?_) #[true,true,true,true,true,true,false,false,false,false] rfl rfl (any_of HT_.out (by kernel_rfl)) (fun _ _ _ h=>h) (Or.inl ⟨by rfl,?_⟩) ?_ ?_;rotate_left
      · intro w'
        go_simp;(with_reducible rfl)
      rotate_left
      · simp only [Act.put,List.setIfInBounds_toArray,List.set_cons_zero,List.set_cons_succ,i64_w,i32_w]
        rfl
      refine one_ (i:=6) (N:=some 19) #[true,true,true,true,true,true,true,false,false,false] rfl rfl (one_of HT_.out (by kernel_rfl)) (by decide) (fun K hK=>?_);refine goes_ Tryd.func49 (by kernel_rfl) rfl #[.slice (some ad) l0_1.length c0_1,.string (⟨#[32]⟩:ByteArray)] (by rfl) rfl rfl (by(try simp only [List.map_toArray,List.map_cons,List.map_nil]);first|done|rfl) ?_;(with_reducible refine(strings_Join.calls _ _ _ _ _ _ ?s1 ?s2 HJ.out).mono ?_)
      case s1=>exact Kd.C_below HR1.out HB3.out
      case s2=>exact HC1.out
      rintro e w5 ⟨rfl,hb⟩;refine⟨_,rfl,?_⟩;have BK5:=Aside0.mk (blk_below BK3.out hb);have HB5:=Aside0.mk (below_step HB3.out hb);have BD5:=Aside0.mk (BD3.out.below hb);clear hb;refine hK.out _ _ ⟨(blk_cell BK5.out 0).trans rfl,(blk_cell BK5.out 1).trans rfl⟩ (fun hHeld=>?_);clear hK K;refine norm_ (a':=?_) ?_ ?_;rotate_left
      · show Act.put _ (some 19) _=_
        simp only [Act.put,List.setIfInBounds_toArray,List.set_cons_zero,List.set_cons_succ,i64_w,i32_w];rfl
      refine pure_ (i:=7) (N:=some 20) (v:=?_) (a':=?_) #[true,true,true,true,true,true,true,true,false,false] rfl rfl (any_of HT_.out (by kernel_rfl)) (fun _ _ _ h=>h) (Or.inl ⟨by rfl,?_⟩) ?_ ?_;rotate_left
      · intro w'
        go_simp;(with_reducible rfl)
      rotate_left
      · simp only [Act.put,List.setIfInBounds_toArray,List.set_cons_zero,List.set_cons_succ,i64_w,i32_w]
        rfl
      refine pure_ (i:=8) (N:=some 21) (v:=?_) (a':=?_) #[true,true,true,true,true,true,true,true,true,false] rfl rfl (any_of HT_.out (by kernel_rfl)) (fun _ _ _ h=>h) (Or.inl ⟨by rfl,?_⟩) ?_ ?_;rotate_left
      · intro w'
        go_simp;(with_reducible rfl)
      rotate_left
      · simp only [Act.put,List.setIfInBounds_toArray,List.set_cons_zero,List.set_cons_succ,i64_w,i32_w]
        rfl
      refine one_ (i:=9) (N:=some 22) #[true,true,true,true,true,true,true,true,true,true] rfl rfl (one_of HT_.out (by kernel_rfl)) (by decide) (fun K hK=>?_);refine goes_ Tryd.func59 (by kernel_rfl) rfl #[.pointer (some ⟨b,0,none⟩),.string (hd1 a0_0 l0_1)] (by rfl) rfl rfl (by(try simp only [List.map_toArray,List.map_cons,List.map_nil]);first|done|rfl) ?_;refine(B.Bld.write BD5.out (hd1 a0_0 l0_1) ?s3).mono ?_
      case s3=>rw [hd1_size];have:=HZ.out;show 0+_≤_;omega
      rintro e w6 ⟨rfl,hd,hb,_⟩;refine⟨_,rfl,?_⟩;have BK6:=Aside0.mk ((hb.block _ GE.out).trans BK5.out);have HB6:=Aside0.mk (HB5.out.trans (hb.mono (Nat.le_of_lt GE.out)));have BD6:=Aside0.mk hd;clear hb hd;refine hK.out _ _ ⟨(blk_cell BK6.out 0).trans rfl,(blk_cell BK6.out 1).trans rfl⟩ (fun hHeld=>?_);clear hK K;refine done_ (done_of HT_.out (by kernel_rfl)) ?_;clear hs1 hs2 hs3 hs4 BK3 HB3 BD3 BK5 HB5 BD5;(try go_wp2);have hs1:(9223372036854775807<6+(rdOf ByteArray.empty l0_1 a0_2).size)=False:=eq_false (by omega);have hs2:(9223372036854775807<6+(rdOf ByteArray.empty l0_1 a0_2).size+7)=False:=eq_false (by omega);have hs3:(9223372036854775807<6+(rdOf ByteArray.empty l0_1 a0_2).size+7+(rdOf ByteArray.empty l0_1 a0_3).size)=False:=eq_false (by omega);have hs4:(9223372036854775807<6+(rdOf ByteArray.empty l0_1 a0_2).size+7+(rdOf ByteArray.empty l0_1 a0_3).size+1)=False:=eq_false (by omega);replace BK6:=Aside0.mk (blk_drew BK6.out);replace HB6:=Aside0.mk (below_drew1 HB6.out);replace BD6:=Aside0.mk (BD6.out.drew);refine start_ (n:=17) (S:=fun w'=>w'.cell? ⟨w.heap.size,1,none⟩=some (.slice (some ad) l0_1.length c0_1)∧w'.cell? ⟨w.heap.size,2,none⟩=some (.int .i64 a0_2)∧w'.cell? ⟨w.heap.size,3,none⟩=some (.int .i64 a0_3)∧w'.cell? (ad.add a0_2.toNat)=some (.string (rdOf ByteArray.empty l0_1 a0_2))∧w'.cell? (ad.add a0_3.toNat)=some (.string (rdOf ByteArray.empty l0_1 a0_3))) (ds:=[]) #[false,false,false,false,false,false,false,false,false,false,false,false,false,false,false,false,false] (by kernel_rfl) rfl rfl ⟨(blk_cell BK6.out 1).trans rfl,(blk_cell BK6.out 2).trans rfl,(blk_cell BK6.out 3).trans rfl,(HB6.out.cell (World.block_lt_of_cell? w _ X0.out)).trans X0.out,(HB6.out.cell (World.block_lt_of_cell? w _ X1.out)).trans X1.out⟩ (fun hHeld=>?_);refine with_tabW protocol_Text.tab6 protocol_Text.bits6 (fun HT_ HW_=>?_);generalize w6.drew=w7 at BK6 HB6 BD6 hHeld ⊢;refine pure_ (i:=0) (N:=some 23) (v:=?_) (a':=?_) #[true,false,false,false,false,false,false,false,false,false,false,false,false,false,false,false,false] rfl rfl (any_of HT_.out (by kernel_rfl)) (fun _ _ _ h=>h) (Or.inl ⟨by rfl,?_⟩) ?_ ?_;rotate_left
      · intro w'
        go_simp;(with_reducible rfl)
      rotate_left
      · simp only [Act.put,List.setIfInBounds_toArray,List.set_cons_zero,List.set_cons_succ,i64_w,i32_w]
        rfl
      refine pure_ (i:=2) (N:=some 25) (v:=?_) (a':=?_) #[true,false,true,false,false,false,false,false,false,false,false,false,false,false,false,false,false] rfl rfl (any_of HT_.out (by kernel_rfl)) (fun _ _ _ h=>h) (Or.inl ⟨by rfl,?_⟩) ?_ ?_;rotate_left
      · intro w'
        go_simp;(with_reducible rfl)
      rotate_left
      · simp only [Act.put,List.setIfInBounds_toArray,List.set_cons_zero,List.set_cons_succ,i64_w,i32_w]
        rfl
      refine pure_ (i:=8) (N:=some 31) (v:=?_) (a':=?_) #[true,false,true,false,false,false,false,false,true,false,false,false,false,false,false,false,false] rfl rfl (any_of HT_.out (by kernel_rfl)) (fun _ _ _ h=>h) (Or.inl ⟨by rfl,?_⟩) ?_ ?_;rotate_left
      · intro w'
        go_simp;(with_reducible rfl)
      rotate_left
      · simp only [Act.put,List.setIfInBounds_toArray,List.set_cons_zero,List.set_cons_succ,i64_w,i32_w]
        rfl
      refine pure_ (i:=10) (N:=some 33) (v:=?_) (a':=?_) #[true,false,true,false,false,false,false,false,true,false,true,false,false,false,false,false,false] rfl rfl (any_of HT_.out (by kernel_rfl)) (fun _ _ _ h=>h) (Or.inl ⟨by rfl,?_⟩) ?_ ?_;rotate_left
      · intro w'
        go_simp;(with_reducible rfl)
      rotate_left
      · simp only [Act.put,List.setIfInBounds_toArray,List.set_cons_zero,List.set_cons_succ,i64_w,i32_w]
        rfl
      refine take_ (i:=1) (N:=some 24) (v:=?_) (a':=?_) #[true,true,true,false,false,false,false,false,true,false,true,false,false,false,false,false,false] rfl rfl (take_ofW HT_.out HW_.out (by kernel_rfl)) (fun _ _ _ h=>h) (Or.inl ⟨by rfl,?_⟩) hHeld ?_ ?_;rotate_left
      · rintro w' ⟨s0,s1,s2,s3,s4⟩
        go_simp;(with_reducible rfl)
      rotate_left
      · simp only [Act.put,List.setIfInBounds_toArray,List.set_cons_zero,List.set_cons_succ,i64_w,i32_w]
        rfl
      refine take_ (i:=3) (N:=some 26) (v:=?_) (a':=?_) #[true,true,true,true,false,false,false,false,true,false,true,false,false,false,false,false,false] rfl rfl (take_ofW HT_.out HW_.out (by kernel_rfl)) (fun _ _ _ h=>h) (Or.inl ⟨by rfl,?_⟩) hHeld ?_ ?_;rotate_left
      · rintro w' ⟨s0,s1,s2,s3,s4⟩
        go_simp;(with_reducible rfl)
      rotate_left
      · simp only [Act.put,List.setIfInBounds_toArray,List.set_cons_zero,List.set_cons_succ,i64_w,i32_w]
        rfl
      refine take_ (i:=9) (N:=some 32) (v:=?_) (a':=?_) #[true,true,true,true,false,false,false,false,true,true,true,false,false,false,false,false,false] rfl rfl (take_ofW HT_.out HW_.out (by kernel_rfl)) (fun _ _ _ h=>h) (Or.inl ⟨by rfl,?_⟩) hHeld ?_ ?_;rotate_left
      · rintro w' ⟨s0,s1,s2,s3,s4⟩
        go_simp;(with_reducible rfl)
      rotate_left
      · simp only [Act.put,List.setIfInBounds_toArray,List.set_cons_zero,List.set_cons_succ,i64_w,i32_w]
        rfl
      refine take_ (i:=11) (N:=some 34) (v:=?_) (a':=?_) #[true,true,true,true,false,false,false,false,true,true,true,true,false,false,false,false,false] rfl rfl (take_ofW HT_.out HW_.out (by kernel_rfl)) (fun _ _ _ h=>h) (Or.inl ⟨by rfl,?_⟩) hHeld ?_ ?_;rotate_left
      · rintro w' ⟨s0,s1,s2,s3,s4⟩
        go_simp;(with_reducible rfl)
      rotate_left
      · simp only [Act.put,List.setIfInBounds_toArray,List.set_cons_zero,List.set_cons_succ,i64_w,i32_w]
        rfl
      refine pure_ (i:=4) (N:=some 27) (v:=?_) (a':=?_) #[true,true,true,true,true,false,false,false,true,true,true,true,false,false,false,false,false] rfl rfl (any_of HT_.out (by kernel_rfl)) (fun _ _ _ h=>h) (Or.inl ⟨by rfl,?_⟩) ?_ ?_;rotate_left
      · intro w'
        go_simp;(with_reducible rfl)
      rotate_left
      · simp only [Act.put,List.setIfInBounds_toArray,List.set_cons_zero,List.set_cons_succ,i64_w,i32_w]
        rfl
      refine pure_ (i:=12) (N:=some 35) (v:=?_) (a':=?_) #[true,true,true,true,true,false,false,false,true,true,true,true,true,false,false,false,false] rfl rfl (any_of HT_.out (by kernel_rfl)) (fun _ _ _ h=>h) (Or.inl ⟨by rfl,?_⟩) ?_ ?_;rotate_left
      · intro w'
        go_simp;(with_reducible rfl)
      rotate_left
      · simp only [Act.put,List.setIfInBounds_toArray,List.set_cons_zero,List.set_cons_succ,i64_w,i32_w]
        rfl
      refine take_ (i:=5) (N:=some 28) (v:=?_) (a':=?_) #[true,true,true,true,true,true,false,false,true,true,true,true,true,false,false,false,false] rfl rfl (take_ofW HT_.out HW_.out (by kernel_rfl)) (fun _ _ _ h=>h) (Or.inl ⟨by rfl,?_⟩) hHeld ?_ ?_;rotate_left
      · rintro w' ⟨s0,s1,s2,s3,s4⟩
        go_simp;(with_reducible rfl)
      rotate_left
      · simp only [Act.put,List.setIfInBounds_toArray,List.set_cons_zero,List.set_cons_succ,i64_w,i32_w]
        rfl
      refine take_ (i:=13) (N:=some 36) (v:=?_) (a':=?_) #[true,true,true,true,true,true,false,false,true,true,true,true,true,true,false,false,false] rfl rfl (take_ofW HT_.out HW_.out (by kernel_rfl)) (fun _ _ _ h=>h) (Or.inl ⟨by rfl,?_⟩) hHeld ?_ ?_;rotate_left
      · rintro w' ⟨s0,s1,s2,s3,s4⟩
        go_simp;(with_reducible rfl)
      rotate_left
      · simp only [Act.put,List.setIfInBounds_toArray,List.set_cons_zero,List.set_cons_succ,i64_w,i32_w]
        rfl
      refine pure_ (i:=6) (N:=some 29) (v:=?_) (a':=?_) #[true,true,true,true,true,true,true,false,true,true,true,true,true,true,false,false,false] rfl rfl (any_of HT_.out (by kernel_rfl)) (fun _ _ _ h=>h) (Or.inl ⟨by rfl,?_⟩) ?_ ?_;rotate_left
      · intro w'
        go_simp;(with_reducible rfl)
      rotate_left
      · simp only [Act.put,List.setIfInBounds_toArray,List.set_cons_zero,List.set_cons_succ,i64_w,i32_w]
        rfl
      refine pure_ (i:=7) (N:=some 30) (v:=?_) (a':=?_) #[true,true,true,true,true,true,true,true,true,true,true,true,true,true,false,false,false] rfl rfl (any_of HT_.out (by kernel_rfl)) (fun _ _ _ h=>h) (Or.inl ⟨by rfl,?_⟩) ?_ ?_;rotate_left
      · intro w'
        go_simp;(with_reducible rfl)
      rotate_left
      · simp only [Act.put,List.setIfInBounds_toArray,List.set_cons_zero,List.set_cons_succ,i64_w,i32_w]
        rfl
      refine pure_ (i:=14) (N:=some 37) (v:=?_) (a':=?_) #[true,true,true,true,true,true,true,true,true,true,true,true,true,true,true,false,false] rfl rfl (any_of HT_.out (by kernel_rfl)) (fun _ _ _ h=>h) (Or.inl ⟨by rfl,?_⟩) ?_ ?_;rotate_left
      · intro w'
        go_simp;(with_reducible rfl)
      rotate_left
      · simp only [Act.put,List.setIfInBounds_toArray,List.set_cons_zero,List.set_cons_succ,i64_w,i32_w]
        rfl
      refine pure_ (i:=15) (N:=some 38) (v:=?_) (a':=?_) #[true,true,true,true,true,true,true,true,true,true,true,true,true,true,true,true,false] rfl rfl (any_of HT_.out (by kernel_rfl)) (fun _ _ _ h=>h) (Or.inl ⟨by rfl,?_⟩) ?_ ?_;rotate_left
      · intro w'
        go_simp;(with_reducible rfl)
      rotate_left
      · simp only [Act.put,List.setIfInBounds_toArray,List.set_cons_zero,List.set_cons_succ,i64_w,i32_w]
        rfl
      refine one_ (i:=16) (N:=some 39) #[true,true,true,true,true,true,true,true,true,true,true,true,true,true,true,true,true] rfl rfl (one_of HT_.out (by kernel_rfl)) (by decide) (fun K hK=>?_);refine goes_ Tryd.func59 (by kernel_rfl) rfl #[.pointer (some ⟨b,0,none⟩),.string (hd2 l0_1 a0_2 a0_3)] (by rfl) rfl rfl (by(try simp only [List.map_toArray,List.map_cons,List.map_nil]);first|done|rfl) ?_;refine(B.Bld.write BD6.out (hd2 l0_1 a0_2 a0_3) ?s3).mono ?_
      case s3=>rw [ByteArray.size_append,hd1_size,hd2_size];have:=HZ.out;show 0+_+_≤_;omega
      rintro e w8 ⟨rfl,hd,hb,_⟩;refine⟨_,rfl,?_⟩;have BK8:=Aside0.mk ((hb.block _ GE.out).trans BK6.out);have HB8:=Aside0.mk (HB6.out.trans (hb.mono (Nat.le_of_lt GE.out)));have BD8:=Aside0.mk hd;clear hb hd;refine hK.out _ _ ⟨(blk_cell BK8.out 1).trans rfl,(blk_cell BK8.out 2).trans rfl,(blk_cell BK8.out 3).trans rfl,(HB8.out.cell (World.block_lt_of_cell? w _ X0.out)).trans X0.out,(HB8.out.cell (World.block_lt_of_cell? w _ X1.out)).trans X1.out⟩ (fun hHeld=>?_);clear hK K;refine done_ (done_of HT_.out (by kernel_rfl)) ?_;clear hs1 hs2 hs3 hs4 BK6 HB6 BD6 hHeld;have hcz4:=(blk_cell BK8.out 4).trans rfl;(try go_wp2);have hfin:=textAll HOK.out;have HF:=Aside0.mk hfin;clear hfin q0 q1 q2 q3 hz hcz4
      go_loopw [43] (fun v43 wr=>∃ (i:Nat) (acc:ByteArray),v43=.int .i64 i∧Aside0 (i≤l0_4.length∧mvText l0_1 (l0_4.drop i) acc++(⟨#[101,110,100,10]⟩:ByteArray)=proText a0_0 l0_1 a0_2 a0_3 l0_4)∧Aside0 (wr.heap[w.heap.size]?=some (.cells #[.string a0_0,.slice (some ad) l0_1.length c0_1,.int .i64 a0_2,.int .i64 a0_3,.slice A0_4 l0_4.length c0_4] 35 (0,0)))∧Aside0 (Below w.heap.size w wr)∧Aside0 (B.Bld b b acc wr)) (fun v43 _=>l0_4.length-(intOf v43).toNat)
      case atStart=>exact⟨0,_,rfl,⟨⟨Nat.zero_le _,rfl⟩⟩,BK8,HB8,BD8⟩
      case round =>
        clear BK8 HB8 BD8;obtain⟨i,acc,rfl,HI,BKr,HBr,BDr⟩:=hrel
        by_cases hlt:i<l0_4.length
        · have hd:=decide_eq_true (show(i:Int)<(l0_4.length:Int) by omega)
          have hd2:=decide_eq_true hlt;have HL:=Aside0.mk hlt;have hlen:=textLen HOK.out;have HLN:=Aside0.mk hlen;obtain⟨am,eA,hy0,hy1,hy2⟩:=at_T64 HR4.out (i:Int) (by omega) (by omega);subst eA;replace hy0:=(HBr.out.cell (World.block_lt_of_cell? w _ hy0)).trans hy0;replace hy1:=(HBr.out.cell (World.block_lt_of_cell? w _ hy1)).trans hy1;replace hy2:=(HBr.out.cell (World.block_lt_of_cell? w _ hy2)).trans hy2;have p5:=eq_true (show(0:Int)≤(i:Int) by omega);have p6:=eq_true (show(i:Int)<(l0_4.length:Int) by omega);have hdrop:=Aside0.mk (List.drop_eq_getElem_cons hlt)
          have hm:l0_4[i]=rd_T64 l0_4 (i:Int):=by unfold rd_T64;rw [Int.toNat_natCast,List.getD_eq_getElem?_getD,List.getElem?_eq_getElem hlt];rfl
          rw [hm] at hdrop;have hmem:=hrm.out _ (List.getElem_mem hlt);rw [hm] at hmem;have HM:=Aside0.mk hmem;clear hlt hm hmem;obtain⟨⟨m0,m1,m2⟩,hmm⟩:∃ m,rd_T64 l0_4 (i:Int)=m:=⟨_,rfl⟩;rw [hmm] at hy0 hy1 hy2 hdrop HM;clear hmm;simp only [Int.toNat_natCast] at hy0 hy1 hy2;go_wp2;have hq:=HM.out;obtain⟨ae,eA,hz0⟩:=Kd.at_string HR1.out m0 hq.1.1 hq.1.2
          obtain rfl:ad=ae:=by injection eA
          clear eA;obtain⟨ae,eA,hz2⟩:=Kd.at_string HR1.out m2 hq.2.1 hq.2.2
          obtain rfl:ad=ae:=by injection eA
          clear eA;have q0:=eq_true hq.1.1;have q1:=eq_true hq.1.2;have q2:=eq_true hq.2.1;have q3:=eq_true hq.2.2
          have HLE:=Aside0.mk (show acc.size+(5+(rdOf ByteArray.empty l0_1 m0).size+1+m1.size+1+(rdOf ByteArray.empty l0_1 m2).size+1)≤140737488355328 by
            have h1:=HF.out;rw [← HI.out.2,hdrop.out,ByteArray.size_append] at h1;have h2:=mvText_size l0_1 (l0_4.drop (i+1)) (acc++mvL l0_1 ⟨m0,m1,m2⟩);rw [ByteArray.size_append,mvL_size] at h2;unfold mvText at h1;simp only at h2
            omega)
          have hle:=HLE.out;have Z0:=Aside0.mk hz0;have Z2:=Aside0.mk hz2;have hbl:=below_alloc (Below.refl wr.heap.size wr) (.cells #[.int .i64 m0,.string m1,.int .i64 m2] 64 (0,0));have BK9:=Aside0.mk (blk_drew (blk_below BKr.out hbl));have BM9:=Aside0.mk (blk_drew (blk_new wr (.cells #[.int .i64 m0,.string m1,.int .i64 m2] 64 (0,0))));have HB9:=Aside0.mk (below_drew1 (below_step HBr.out hbl));have BD9:=Aside0.mk (BDr.out.below hbl).drew;have GM:=Aside0.mk (show b<wr.heap.size from BDr.out.lt);clear hbl hq hz0 hz2 hy0 hy1 hy2 BKr HBr BDr;have hs1:(9223372036854775807<5+(rdOf ByteArray.empty l0_1 m0).size)=False:=eq_false (by omega);have hs2:(9223372036854775807<5+(rdOf ByteArray.empty l0_1 m0).size+1)=False:=eq_false (by omega);have hs3:(9223372036854775807<5+(rdOf ByteArray.empty l0_1 m0).size+1+m1.size)=False:=eq_false (by omega);have hs4:(9223372036854775807<5+(rdOf ByteArray.empty l0_1 m0).size+1+m1.size+1)=False:=eq_false (by omega);have hs5:(9223372036854775807<5+(rdOf ByteArray.empty l0_1 m0).size+1+m1.size+1+(rdOf ByteArray.empty l0_1 m2).size)=False:=eq_false (by omega);have hs6:(9223372036854775807<5+(rdOf ByteArray.empty l0_1 m0).size+1+m1.size+1+(rdOf ByteArray.empty l0_1 m2).size+1)=False:=eq_false (by omega);clear hle;generalize wr.alloc (.cells #[.int .i64 m0,.string m1,.int .i64 m2] 64 (0,0))=w9 at BK9 BM9 HB9 BD9 ⊢;refine start_ (n:=21) (S:=fun w'=>w'.cell? ⟨w.heap.size,1,none⟩=some (.slice (some ad) l0_1.length c0_1)∧w'.cell? ⟨wr.heap.size,0,none⟩=some (.int .i64 m0)∧w'.cell? ⟨wr.heap.size,1,none⟩=some (.string m1)∧w'.cell? ⟨wr.heap.size,2,none⟩=some (.int .i64 m2)∧w'.cell? (ad.add m0.toNat)=some (.string (rdOf ByteArray.empty l0_1 m0))∧w'.cell? (ad.add m2.toNat)=some (.string (rdOf ByteArray.empty l0_1 m2))) (ds:=[]) #[false,false,false,false,false,false,false,false,false,false,false,false,false,false,false,false,false,false,false,false,false] (by kernel_rfl) rfl rfl ⟨(blk_cell BK9.out 1).trans rfl,(blk_cell BM9.out 0).trans rfl,(blk_cell BM9.out 1).trans rfl,(blk_cell BM9.out 2).trans rfl,(HB9.out.cell (World.block_lt_of_cell? w _ Z0.out)).trans Z0.out,(HB9.out.cell (World.block_lt_of_cell? w _ Z2.out)).trans Z2.out⟩ (fun hHeld=>?_);refine with_tabW protocol_Text.tab10 protocol_Text.bits10 (fun HT_ HW_=>?_);generalize w9.drew=wa at BK9 BM9 HB9 BD9 hHeld ⊢;refine pure_ (i:=0) (N:=some 47) (v:=?_) (a':=?_) #[true,false,false,false,false,false,false,false,false,false,false,false,false,false,false,false,false,false,false,false,false] rfl rfl (any_of HT_.out (by kernel_rfl)) (fun _ _ _ h=>h) (Or.inl ⟨by rfl,?_⟩) ?_ ?_;rotate_left
          · intro w'
            go_simp;(with_reducible rfl)
          rotate_left
          · simp only [Act.put,List.setIfInBounds_toArray,List.set_cons_zero,List.set_cons_succ,i64_w,i32_w]
            rfl
          refine pure_ (i:=2) (N:=some 49) (v:=?_) (a':=?_) #[true,false,true,false,false,false,false,false,false,false,false,false,false,false,false,false,false,false,false,false,false] rfl rfl (any_of HT_.out (by kernel_rfl)) (fun _ _ _ h=>h) (Or.inl ⟨by rfl,?_⟩) ?_ ?_;rotate_left
          · intro w'
            go_simp;(with_reducible rfl)
          rotate_left
          · simp only [Act.put,List.setIfInBounds_toArray,List.set_cons_zero,List.set_cons_succ,i64_w,i32_w]
            rfl
          refine pure_ (i:=8) (N:=some 55) (v:=?_) (a':=?_) #[true,false,true,false,false,false,false,false,true,false,false,false,false,false,false,false,false,false,false,false,false] rfl rfl (any_of HT_.out (by kernel_rfl)) (fun _ _ _ h=>h) (Or.inl ⟨by rfl,?_⟩) ?_ ?_;rotate_left
          · intro w'
            go_simp;(with_reducible rfl)
          rotate_left
          · simp only [Act.put,List.setIfInBounds_toArray,List.set_cons_zero,List.set_cons_succ,i64_w,i32_w]
            rfl
          refine pure_ (i:=12) (N:=some 59) (v:=?_) (a':=?_) #[true,false,true,false,false,false,false,false,true,false,false,false,true,false,false,false,false,false,false,false,false] rfl rfl (any_of HT_.out (by kernel_rfl)) (fun _ _ _ h=>h) (Or.inl ⟨by rfl,?_⟩) ?_ ?_;rotate_left
          · intro w'
            go_simp;(with_reducible rfl)
          rotate_left
          · simp only [Act.put,List.setIfInBounds_toArray,List.set_cons_zero,List.set_cons_succ,i64_w,i32_w]
            rfl
          refine pure_ (i:=14) (N:=some 61) (v:=?_) (a':=?_) #[true,false,true,false,false,false,false,false,true,false,false,false,true,false,true,false,false,false,false,false,false] rfl rfl (any_of HT_.out (by kernel_rfl)) (fun _ _ _ h=>h) (Or.inl ⟨by rfl,?_⟩) ?_ ?_;rotate_left
          · intro w'
            go_simp;(with_reducible rfl)
          rotate_left
          · simp only [Act.put,List.setIfInBounds_toArray,List.set_cons_zero,List.set_cons_succ,i64_w,i32_w]
            rfl
          refine take_ (i:=1) (N:=some 48) (v:=?_) (a':=?_) #[true,true,true,false,false,false,false,false,true,false,false,false,true,false,true,false,false,false,false,false,false] rfl rfl (take_ofW HT_.out HW_.out (by kernel_rfl)) (fun _ _ _ h=>h) (Or.inl ⟨by rfl,?_⟩) hHeld ?_ ?_;rotate_left
          · rintro w' ⟨s0,s1,s2,s3,s4,s5⟩
            go_simp;(with_reducible rfl)
          rotate_left
          · simp only [Act.put,List.setIfInBounds_toArray,List.set_cons_zero,List.set_cons_succ,i64_w,i32_w]
            rfl
          refine take_ (i:=3) (N:=some 50) (v:=?_) (a':=?_) #[true,true,true,true,false,false,false,false,true,false,false,false,true,false,true,false,false,false,false,false,false] rfl rfl (take_ofW HT_.out HW_.out (by kernel_rfl)) (fun _ _ _ h=>h) (Or.inl ⟨by rfl,?_⟩) hHeld ?_ ?_;rotate_left
          · rintro w' ⟨s0,s1,s2,s3,s4,s5⟩
            go_simp;(with_reducible rfl)
          rotate_left
          · simp only [Act.put,List.setIfInBounds_toArray,List.set_cons_zero,List.set_cons_succ,i64_w,i32_w]
            rfl
          refine take_ (i:=9) (N:=some 56) (v:=?_) (a':=?_) #[true,true,true,true,false,false,false,false,true,true,false,false,true,false,true,false,false,false,false,false,false] rfl rfl (take_ofW HT_.out HW_.out (by kernel_rfl)) (fun _ _ _ h=>h) (Or.inl ⟨by rfl,?_⟩) hHeld ?_ ?_;rotate_left
          · rintro w' ⟨s0,s1,s2,s3,s4,s5⟩
            go_simp;(with_reducible rfl)
          rotate_left
          · simp only [Act.put,List.setIfInBounds_toArray,List.set_cons_zero,List.set_cons_succ,i64_w,i32_w]
            rfl
          refine take_ (i:=13) (N:=some 60) (v:=?_) (a':=?_) #[true,true,true,true,false,false,false,false,true,true,false,false,true,true,true,false,false,false,false,false,false] rfl rfl (take_ofW HT_.out HW_.out (by kernel_rfl)) (fun _ _ _ h=>h) (Or.inl ⟨by rfl,?_⟩) hHeld ?_ ?_;rotate_left
          · rintro w' ⟨s0,s1,s2,s3,s4,s5⟩
            go_simp;(with_reducible rfl)
          rotate_left
          · simp only [Act.put,List.setIfInBounds_toArray,List.set_cons_zero,List.set_cons_succ,i64_w,i32_w]
            rfl
          refine take_ (i:=15) (N:=some 62) (v:=?_) (a':=?_) #[true,true,true,true,false,false,false,false,true,true,false,false,true,true,true,true,false,false,false,false,false] rfl rfl (take_ofW HT_.out HW_.out (by kernel_rfl)) (fun _ _ _ h=>h) (Or.inl ⟨by rfl,?_⟩) hHeld ?_ ?_;rotate_left
          · rintro w' ⟨s0,s1,s2,s3,s4,s5⟩
            go_simp;(with_reducible rfl)
          rotate_left
          · simp only [Act.put,List.setIfInBounds_toArray,List.set_cons_zero,List.set_cons_succ,i64_w,i32_w]
            rfl
          refine pure_ (i:=4) (N:=some 51) (v:=?_) (a':=?_) #[true,true,true,true,true,false,false,false,true,true,false,false,true,true,true,true,false,false,false,false,false] rfl rfl (any_of HT_.out (by kernel_rfl)) (fun _ _ _ h=>h) (Or.inl ⟨by rfl,?_⟩) ?_ ?_;rotate_left
          · intro w'
            go_simp;(with_reducible rfl)
          rotate_left
          · simp only [Act.put,List.setIfInBounds_toArray,List.set_cons_zero,List.set_cons_succ,i64_w,i32_w]
            rfl
          refine pure_ (i:=16) (N:=some 63) (v:=?_) (a':=?_) #[true,true,true,true,true,false,false,false,true,true,false,false,true,true,true,true,true,false,false,false,false] rfl rfl (any_of HT_.out (by kernel_rfl)) (fun _ _ _ h=>h) (Or.inl ⟨by rfl,?_⟩) ?_ ?_;rotate_left
          · intro w'
            go_simp;(with_reducible rfl)
          rotate_left
          · simp only [Act.put,List.setIfInBounds_toArray,List.set_cons_zero,List.set_cons_succ,i64_w,i32_w]
            rfl
          refine take_ (i:=5) (N:=some 52) (v:=?_) (a':=?_) #[true,true,true,true,true,true,false,false,true,true,false,false,true,true,true,true,true,false,false,false,false] rfl rfl (take_ofW HT_.out HW_.out (by kernel_rfl)) (fun _ _ _ h=>h) (Or.inl ⟨by rfl,?_⟩) hHeld ?_ ?_;rotate_left
          · rintro w' ⟨s0,s1,s2,s3,s4,s5⟩
            go_simp;(with_reducible rfl)
          rotate_left
          · simp only [Act.put,List.setIfInBounds_toArray,List.set_cons_zero,List.set_cons_succ,i64_w,i32_w]
            rfl
          refine take_ (i:=17) (N:=some 64) (v:=?_) (a':=?_) #[true,true,true,true,true,true,false,false,true,true,false,false,true,true,true,true,true,true,false,false,false] rfl rfl (take_ofW HT_.out HW_.out (by kernel_rfl)) (fun _ _ _ h=>h) (Or.inl ⟨by rfl,?_⟩) hHeld ?_ ?_;rotate_left
          · rintro w' ⟨s0,s1,s2,s3,s4,s5⟩
            go_simp;(with_reducible rfl)
          rotate_left
          · simp only [Act.put,List.setIfInBounds_toArray,List.set_cons_zero,List.set_cons_succ,i64_w,i32_w]
            rfl
          refine pure_ (i:=6) (N:=some 53) (v:=?_) (a':=?_) #[true,true,true,true,true,true,true,false,true,true,false,false,true,true,true,true,true,true,false,false,false] rfl rfl (any_of HT_.out (by kernel_rfl)) (fun _ _ _ h=>h) (Or.inl ⟨by rfl,?_⟩) ?_ ?_;rotate_left
          · intro w'
            go_simp;(with_reducible rfl)
          rotate_left
          · simp only [Act.put,List.setIfInBounds_toArray,List.set_cons_zero,List.set_cons_succ,i64_w,i32_w]
            rfl
          refine pure_ (i:=7) (N:=some 54) (v:=?_) (a':=?_) #[true,true,true,true,true,true,true,true,true,true,false,false,true,true,true,true,true,true,false,false,false] rfl rfl (any_of HT_.out (by kernel_rfl)) (fun _ _ _ h=>h) (Or.inl ⟨by rfl,?_⟩) ?_ ?_;rotate_left
          · intro w'
            go_simp;(with_reducible rfl)
          rotate_left
          · simp only [Act.put,List.setIfInBounds_toArray,List.set_cons_zero,List.set_cons_succ,i64_w,i32_w]
            rfl
          refine pure_ (i:=10) (N:=some 57) (v:=?_) (a':=?_) #[true,true,true,true,true,true,true,true,true,true,true,false,true,true,true,true,true,true,false,false,false] rfl rfl (any_of HT_.out (by kernel_rfl)) (fun _ _ _ h=>h) (Or.inl ⟨by rfl,?_⟩) ?_ ?_;rotate_left
          · intro w'
            go_simp;(with_reducible rfl)
          rotate_left
          · simp only [Act.put,List.setIfInBounds_toArray,List.set_cons_zero,List.set_cons_succ,i64_w,i32_w]
            rfl
          refine pure_ (i:=11) (N:=some 58) (v:=?_) (a':=?_) #[true,true,true,true,true,true,true,true,true,true,true,true,true,true,true,true,true,true,false,false,false] rfl rfl (any_of HT_.out (by kernel_rfl)) (fun _ _ _ h=>h) (Or.inl ⟨by rfl,?_⟩) ?_ ?_;rotate_left
          · intro w'
            go_simp;(with_reducible rfl)
          rotate_left
          · simp only [Act.put,List.setIfInBounds_toArray,List.set_cons_zero,List.set_cons_succ,i64_w,i32_w]
            rfl
          refine pure_ (i:=18) (N:=some 65) (v:=?_) (a':=?_) #[true,true,true,true,true,true,true,true,true,true,true,true,true,true,true,true,true,true,true,false,false] rfl rfl (any_of HT_.out (by kernel_rfl)) (fun _ _ _ h=>h) (Or.inl ⟨by rfl,?_⟩) ?_ ?_;rotate_left
          · intro w'
            go_simp;(with_reducible rfl)
          rotate_left
          · simp only [Act.put,List.setIfInBounds_toArray,List.set_cons_zero,List.set_cons_succ,i64_w,i32_w]
            rfl
          refine pure_ (i:=19) (N:=some 66) (v:=?_) (a':=?_) #[true,true,true,true,true,true,true,true,true,true,true,true,true,true,true,true,true,true,true,true,false] rfl rfl (any_of HT_.out (by kernel_rfl)) (fun _ _ _ h=>h) (Or.inl ⟨by rfl,?_⟩) ?_ ?_;rotate_left
          · intro w'
            go_simp;(with_reducible rfl)
          rotate_left
          · simp only [Act.put,List.setIfInBounds_toArray,List.set_cons_zero,List.set_cons_succ,i64_w,i32_w]
            rfl
          refine one_ (i:=20) (N:=some 67) #[true,true,true,true,true,true,true,true,true,true,true,true,true,true,true,true,true,true,true,true,true] rfl rfl (one_of HT_.out (by kernel_rfl)) (by decide) (fun K hK=>?_);refine goes_ Tryd.func59 (by kernel_rfl) rfl #[.pointer (some ⟨b,0,none⟩),.string (mvL l0_1 ⟨m0,m1,m2⟩)] (by rfl) rfl rfl (by(try simp only [List.map_toArray,List.map_cons,List.map_nil]);first|done|rfl) ?_;refine(B.Bld.write BD9.out (mvL l0_1 ⟨m0,m1,m2⟩) ?s3).mono ?_
          case s3=>rw [mvL_size];have:=HLE.out;simp only;omega
          rintro e wb ⟨rfl,hd,hb,ho⟩;refine⟨_,rfl,?_⟩;have BKb:=Aside0.mk ((hb.block _ GE.out).trans BK9.out);have BDb:=Aside0.mk hd;have BMb:=Aside0.mk (ho _ _ BM9.out (by have:=GM.out;intro e;injection e with e;omega) (fun c fz e=>by injection e with e1 e2;exact absurd e2 (by decide)));have HBb:=Aside0.mk (HB9.out.trans (hb.mono (Nat.le_of_lt GE.out)));clear hb hd;refine hK.out _ _ ⟨(blk_cell BKb.out 1).trans rfl,(blk_cell BMb.out 0).trans rfl,(blk_cell BMb.out 1).trans rfl,(blk_cell BMb.out 2).trans rfl,(HBb.out.cell (World.block_lt_of_cell? w _ Z0.out)).trans Z0.out,(HBb.out.cell (World.block_lt_of_cell? w _ Z2.out)).trans Z2.out⟩ (fun hHeld=>?_);clear hK K;refine done_ (done_of HT_.out (by kernel_rfl)) ?_;clear hs1 hs2 hs3 hs4 hs5 hs6 hHeld BK9 BM9 HB9 BD9
          have wnext:wrap64 ((i:Int)+1)=((i+1:Nat):Int):=by have:=HL.out;have:=HLN.out;unfold wrap64;omega
          (try go_wp2)
          go_roundw
          case rel=>exact⟨i+1,acc++mvL l0_1 ⟨m0,m1,m2⟩,by rw [wnext],⟨by have:=HL.out;omega,by rw [← HI.out.2,hdrop.out];rfl⟩,BKb,HBb,BDb⟩
          case measure=>have:=HL.out;rw [wnext];simp [intOf];omega
        · obtain rfl:i=l0_4.length:=by have:=HI.out.1;omega
          have hd:=decide_eq_false (show ¬ (l0_4.length:Int)<(l0_4.length:Int) by omega);have hd2:=decide_eq_false (show ¬ l0_4.length<l0_4.length by omega);have hE:=HI.out.2;rw [List.drop_length] at hE;have HE:=Aside0.mk (show acc++(⟨#[101,110,100,10]⟩:ByteArray)=proText a0_0 l0_1 a0_2 a0_3 l0_4 from hE);clear hlt hE
          go_wp2_with (first|(go_at_call 59;(refine(B.Bld.write BDr.out (⟨#[101,110,100,10]⟩:ByteArray) ?s3).mono ?_);(case s3=>rw [← ByteArray.size_append,HE.out];exact HF.out);rintro e wb ⟨rfl,hd,hb,_⟩;have BDb:=Aside0.mk hd;have HBb:=Aside0.mk (HBr.out.trans (hb.mono (Nat.le_of_lt GE.out)));clear hb hd)|(go_at_call 60;(refine(B.Bld.string BDb.out).mono ?_);rintro e wc ⟨rfl,hb⟩;have HBc:=Aside0.mk (HBb.out.trans (hb.mono (Nat.le_of_lt GE.out)));clear hb))
          go_ret2
          exact⟨by rw [HE.out];rfl,HBc.out⟩
    · cases hB
  · rw [if_neg h0] at hB
    simp only [Option.some.injEq,Prod.mk.injEq] at hB;obtain⟨rfl,rfl⟩:=hB;have hne:(e==0)=false:=beq_eq_false_iff_ne.2 h0;have hne2:(e !=0)=true:=bne_iff_ne.2 h0;clear h0;go_enter Tryd.func35,Tryd.ntmps35
    go_wp2_with (first|(go_at_call 33;(with_reducible refine(protocol_Check.calls k _ _ _ _ _ _ _ _ _ _ _ ?s1 ?s2 ?s3 ?s4 ?s5 A1.out).mono ?_);(case s1=>exact Kd.C_below HR1.out HB.out);(case s2=>exact HC1.out);(case s3=>exact Kd.C_below HR4.out HB.out);(case s4=>exact HC4.out);(case s5=>exact Gh.below HGH.out HB.out);rintro e w2 ⟨rfl,hb⟩;have HB2:=Aside0.mk (below_step HB.out hb);clear hb))
    go_ret2
    exact⟨rfl,HB2.out⟩

end Go.Proofs.YthfhbdncphkdaaaDoor.H

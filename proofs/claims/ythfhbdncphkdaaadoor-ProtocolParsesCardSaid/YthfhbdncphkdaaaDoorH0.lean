/- Printed (xprint.py): Go functions as Lean functions, each with the proof that its call does what the Lean function says. -/
import Derived.Test.YthfhbdncphkdaaaDoorProg
import Derived.Below
import Derived.Deep.Draws
import Derived.Deep.AppendLies
import Derived.Maps.AppendAt
import Derived.OwnWalk
import Derived.Laws.BytesArg
import Derived.Laws.MakeOwn
import Derived.Laws.OwnMore
import Derived.Deep.OwnRows
import Derived.Tactics
import Derived.Lib.ConvBytes
import Derived.Laws.Slices
import Derived.WalkKit
import Derived.KernelRfl
import Derived.RowKit3
import Derived.Deep.LoopGhost
import Derived.Deep.QuietTactic
import Derived.BigQuiet
import Derived.WideLaws
import Derived.Deep.DeepCutAuto
import Derived.Deep.CutBlock
import Derived.Deep.RegionHeld3
import Derived.Laws.Rows
import Derived.Lib.AppendStr
import Derived.ArgAppend
import Derived.Laws.IdiomCopy
import Derived.OrdersHeld
import Derived.Laws.BitsLemmas
import Derived.RowKit
import Derived.Test.YthfhbdncphkdaaaDoorSlWGuardMore
namespace Go.Proofs.YthfhbdncphkdaaaDoor.H
open Go.RowKit Go.Proofs.YthfhbdncphkdaaaDoorW.PrintWords Go.Proofs.YthfhbdncphkdaaaDoorW.PrintLast Go.Proofs.YthfhbdncphkdaaaDoorW.PrintMore
set_option linter.unusedVariables false
set_option linter.unusedSimpArgs false

def errW:Option Int→Value
  |none=>.nilIface
  |some c=>.iface 0 (.int .i64 c)
theorem errW_none:errW none=.nilIface:=rfl
theorem errW_some(c:Int):errW (some c)=.iface 0 (.int .i64 c):=rfl
theorem info3:(Tryd.prog.info? 3).map (fun i=>(i.zero,i.size,i.bytes))=some (some (.int .i64 0),1,8):=by kernel_rfl
theorem info9:(Tryd.prog.info? 9).map (fun i=>(i.zero,i.size,i.bytes))=some (some (.string ⟨#[]⟩),1,16):=by kernel_rfl
theorem info64:(Tryd.prog.info? 64).map (fun i=>(i.zero,i.size,i.bytes))=some (some (.agg #[(.int .i64 0),(.string ⟨#[]⟩),(.int .i64 0)]),3,32):=by kernel_rfl
-- the values' own types
/-! #### struct type 64 -/
structure S64 where
  f0:Int
  f1:ByteArray
  f2:Int
def z64:S64:=⟨(0:Int),(⟨#[]⟩:ByteArray),(0:Int)⟩
def k64:Kd S64:=Kd.iso (Kd.pair (Kd.int .i64) (Kd.pair Kd.string (Kd.int .i64))) (fun x:S64=>(x.f0,x.f1,x.f2))
theorem k64_open{w:World}{x:S64}{cs:List Value}(h:k64.K w x cs):cs=[.int .i64 x.f0,.string x.f1,.int .i64 x.f2]:=by
  obtain⟨_,_,rfl,rfl,⟨_,_,rfl,rfl,rfl⟩⟩:=h;exact rfl
theorem k64_openM{w:World}{base:Nat}{ok:Nat→Prop}{x:S64}{cs:List Value}(h:k64.M w base ok x cs):cs=[.int .i64 x.f0,.string x.f1,.int .i64 x.f2]:=by
  obtain⟨_,_,rfl,rfl,⟨_,_,rfl,rfl,rfl⟩⟩:=h;exact rfl
theorem k64_mk(w:World)(x:S64) :k64.K w x [.int .i64 x.f0,.string x.f1,.int .i64 x.f2]:=⟨[.int .i64 x.f0],[.string x.f1,.int .i64 x.f2],rfl,rfl,⟨[.string x.f1],[.int .i64 x.f2],rfl,rfl,rfl⟩⟩
theorem k64_mkM(w:World)(base:Nat)(ok:Nat→Prop)(x:S64) :k64.M w base ok x [.int .i64 x.f0,.string x.f1,.int .i64 x.f2]:=⟨[.int .i64 x.f0],[.string x.f1,.int .i64 x.f2],rfl,rfl,⟨[.string x.f1],[.int .i64 x.f2],rfl,rfl,rfl⟩⟩
def rd_T64(xs:List S64)(i:Int):S64:=xs.getD i.toNat z64
theorem at_T64{w:World}{A:Option Addr}{n:Nat}{xs:List S64}(h:Kd.C k64 w A n xs)(i:Int)(h0:0≤i)(h1:i<n):∃ ad,A=some ad∧w.cell? (ad.add (i.toNat*3))=some (.int .i64 (rd_T64 xs i).f0)∧w.cell? ⟨(ad.add (i.toNat*3)).block,(ad.add (i.toNat*3)).off+1,none⟩=some (.string (rd_T64 xs i).f1)∧w.cell? ⟨(ad.add (i.toNat*3)).block,(ad.add (i.toNat*3)).off+2,none⟩=some (.int .i64 (rd_T64 xs i).f2):=by
  obtain⟨ad,c,e,_,hK,hc0⟩:=Kd.C_get h z64 i h0 h1;have hc:∀ j u,c[j]?=some u→w.cell? (ad.add (i.toNat*3+j))=some u:=hc0;obtain rfl:=k64_open hK;exact⟨ad,e,hc 0 _ rfl,by rw [← add_field _ _ 1 (by omega)];exact hc 1 _ rfl,by rw [← add_field _ _ 2 (by omega)];exact hc 2 _ rfl⟩
def rd_L4(xs:List (List ByteArray))(i:Int):(List ByteArray):=xs.getD i.toNat ([]:List ByteArray)
theorem at_L4{w:World}{A:Option Addr}{n:Nat}{xs:List (List ByteArray)}(h:Kd.C (Kd.slice 9 Kd.string) w A n xs)(i:Int)(h0:0≤i)(h1:i<n):∃ ad A0 c0,A=some ad∧w.cell? (ad.add i.toNat)=some (.slice A0 (rd_L4 xs i).length c0)∧(rd_L4 xs i).length≤c0∧Kd.string.C w A0 (rd_L4 xs i).length (rd_L4 xs i):=by
  obtain⟨ad,c,e,_,hK,hc0⟩:=Kd.C_get h ([]:List ByteArray) i h0 h1;have hc:∀ j u,c[j]?=some u→w.cell? (ad.add (i.toNat*1+j))=some u:=hc0;obtain⟨A0,c0,rfl,l0,g0⟩:=hK;exact⟨ad,A0,c0,e,by have hq:=hc 0 _ rfl;rwa [Nat.mul_one,Nat.add_zero] at hq,l0,g0⟩
def rd_L5(xs:List (List S64))(i:Int):(List S64):=xs.getD i.toNat ([]:List S64)
theorem at_L5{w:World}{A:Option Addr}{n:Nat}{xs:List (List S64)}(h:Kd.C (Kd.slice 64 k64) w A n xs)(i:Int)(h0:0≤i)(h1:i<n):∃ ad A0 c0,A=some ad∧w.cell? (ad.add i.toNat)=some (.slice A0 (rd_L5 xs i).length c0)∧(rd_L5 xs i).length≤c0∧k64.C w A0 (rd_L5 xs i).length (rd_L5 xs i):=by
  obtain⟨ad,c,e,_,hK,hc0⟩:=Kd.C_get h ([]:List S64) i h0 h1;have hc:∀ j u,c[j]?=some u→w.cell? (ad.add (i.toNat*1+j))=some u:=hc0;obtain⟨A0,c0,rfl,l0,g0⟩:=hK;exact⟨ad,A0,c0,e,by have hq:=hc 0 _ rfl;rwa [Nat.mul_one,Nat.add_zero] at hq,l0,g0⟩
/-! #### struct type 35 -/
structure S35 where
  f0:ByteArray
  f1:(List ByteArray)
  f2:Int
  f3:Int
  f4:(List S64)
def z35:S35:=⟨(⟨#[]⟩:ByteArray),([]:List ByteArray),(0:Int),(0:Int),([]:List S64)⟩
def k35:Kd S35:=Kd.iso (Kd.pair Kd.string (Kd.pair (Kd.slice 9 Kd.string) (Kd.pair (Kd.int .i64) (Kd.pair (Kd.int .i64) (Kd.slice 64 k64))))) (fun x:S35=>(x.f0,x.f1,x.f2,x.f3,x.f4))
theorem k35_open{w:World}{x:S35}{cs:List Value}(h:k35.K w x cs):∃ A1 c1 A4 c4,cs=[.string x.f0,.slice A1 x.f1.length c1,.int .i64 x.f2,.int .i64 x.f3,.slice A4 x.f4.length c4]∧x.f1.length≤c1∧Kd.string.C w A1 x.f1.length x.f1∧x.f4.length≤c4∧k64.C w A4 x.f4.length x.f4:=by
  obtain⟨_,_,rfl,rfl,⟨_,_,rfl,⟨A1,c1,rfl,l1,g1⟩,⟨_,_,rfl,rfl,⟨_,_,rfl,rfl,⟨A4,c4,rfl,l4,g4⟩⟩⟩⟩⟩:=h;exact⟨A1,c1,A4,c4,rfl,l1,g1,l4,g4⟩
theorem k35_openM{w:World}{base:Nat}{ok:Nat→Prop}{x:S35}{cs:List Value}(h:k35.M w base ok x cs):∃ v1 v4,cs=[.string x.f0,v1,.int .i64 x.f2,.int .i64 x.f3,v4]∧Kd.string.R 9 w base ok v1 x.f1∧k64.R 64 w base ok v4 x.f4:=by
  obtain⟨_,_,rfl,rfl,⟨_,_,rfl,⟨v1,rfl,g1⟩,⟨_,_,rfl,rfl,⟨_,_,rfl,rfl,⟨v4,rfl,g4⟩⟩⟩⟩⟩:=h;exact⟨v1,v4,rfl,g1,g4⟩
theorem k35_mk(w:World)(x:S35){A1:Option Addr}{c1:Nat}(l1:x.f1.length≤c1)(g1:Kd.string.C w A1 x.f1.length x.f1){A4:Option Addr}{c4:Nat}(l4:x.f4.length≤c4)(g4:k64.C w A4 x.f4.length x.f4):k35.K w x [.string x.f0,.slice A1 x.f1.length c1,.int .i64 x.f2,.int .i64 x.f3,.slice A4 x.f4.length c4]:=⟨[.string x.f0],[.slice A1 x.f1.length c1,.int .i64 x.f2,.int .i64 x.f3,.slice A4 x.f4.length c4],rfl,rfl,⟨[.slice A1 x.f1.length c1],[.int .i64 x.f2,.int .i64 x.f3,.slice A4 x.f4.length c4],rfl,⟨A1,c1,rfl,l1,g1⟩,⟨[.int .i64 x.f2],[.int .i64 x.f3,.slice A4 x.f4.length c4],rfl,rfl,⟨[.int .i64 x.f3],[.slice A4 x.f4.length c4],rfl,rfl,⟨A4,c4,rfl,l4,g4⟩⟩⟩⟩⟩
theorem k35_mkM(w:World)(base:Nat)(ok:Nat→Prop)(x:S35){v1:Value}(g1:Kd.string.R 9 w base ok v1 x.f1){v4:Value}(g4:k64.R 64 w base ok v4 x.f4):k35.M w base ok x [.string x.f0,v1,.int .i64 x.f2,.int .i64 x.f3,v4]:=⟨[.string x.f0],[v1,.int .i64 x.f2,.int .i64 x.f3,v4],rfl,rfl,⟨[v1],[.int .i64 x.f2,.int .i64 x.f3,v4],rfl,⟨v1,rfl,g1⟩,⟨[.int .i64 x.f2],[.int .i64 x.f3,v4],rfl,rfl,⟨[.int .i64 x.f3],[v4],rfl,rfl,⟨v4,rfl,g4⟩⟩⟩⟩⟩
def rd_T35(xs:List S35)(i:Int):S35:=xs.getD i.toNat z35
theorem at_T35{w:World}{A:Option Addr}{n:Nat}{xs:List S35}(h:Kd.C k35 w A n xs)(i:Int)(h0:0≤i)(h1:i<n):∃ ad A1 c1 A4 c4,A=some ad∧w.cell? (ad.add (i.toNat*5))=some (.string (rd_T35 xs i).f0)∧w.cell? ⟨(ad.add (i.toNat*5)).block,(ad.add (i.toNat*5)).off+1,none⟩=some (.slice A1 (rd_T35 xs i).f1.length c1)∧w.cell? ⟨(ad.add (i.toNat*5)).block,(ad.add (i.toNat*5)).off+2,none⟩=some (.int .i64 (rd_T35 xs i).f2)∧w.cell? ⟨(ad.add (i.toNat*5)).block,(ad.add (i.toNat*5)).off+3,none⟩=some (.int .i64 (rd_T35 xs i).f3)∧w.cell? ⟨(ad.add (i.toNat*5)).block,(ad.add (i.toNat*5)).off+4,none⟩=some (.slice A4 (rd_T35 xs i).f4.length c4)∧(rd_T35 xs i).f1.length≤c1∧Kd.string.C w A1 (rd_T35 xs i).f1.length (rd_T35 xs i).f1∧(rd_T35 xs i).f4.length≤c4∧k64.C w A4 (rd_T35 xs i).f4.length (rd_T35 xs i).f4:=by
  obtain⟨ad,c,e,_,hK,hc0⟩:=Kd.C_get h z35 i h0 h1;have hc:∀ j u,c[j]?=some u→w.cell? (ad.add (i.toNat*5+j))=some u:=hc0;obtain⟨A1,c1,A4,c4,rfl,l1,g1,l4,g4⟩:=k35_open hK;exact⟨ad,A1,c1,A4,c4,e,hc 0 _ rfl,by rw [← add_field _ _ 1 (by omega)];exact hc 1 _ rfl,by rw [← add_field _ _ 2 (by omega)];exact hc 2 _ rfl,by rw [← add_field _ _ 3 (by omega)];exact hc 3 _ rfl,by rw [← add_field _ _ 4 (by omega)];exact hc 4 _ rfl,l1,g1,l4,g4⟩
-- what the walks ask of the program's variables
/-- The block holds the row. -/
def RowAt(g:Nat)(l:List ByteArray)(w:World):Prop:=∃ t fr,w.heap[g]?=some (.cells (l.map Value.string).toArray t fr)
def kwL:List ByteArray:=[⟨#[99,108,97,115,115]⟩,⟨#[101,120,116,101,110,100,115]⟩,⟨#[118,97,114]⟩,⟨#[100,101,102]⟩,⟨#[115,116,97,116,105,99]⟩,⟨#[105,102]⟩,⟨#[101,108,115,101]⟩,⟨#[119,104,105,108,101]⟩,⟨#[116,114,121]⟩,⟨#[99,97,116,99,104]⟩,⟨#[116,104,114,111,119]⟩,⟨#[114,101,116,117,114,110]⟩,⟨#[110,101,119]⟩,⟨#[110,117,108,108]⟩,⟨#[116,104,105,115]⟩,⟨#[105,110,112,117,116]⟩,⟨#[105,110,116]⟩]
theorem RowAt.below{g:Nat}{l:List ByteArray}{w w':World}(h:RowAt g l w)(hb:Below w.heap.size w w'):RowAt g l w':=by
  obtain⟨t,fr,e⟩:=h;exact⟨t,fr,by rw [hb.block g (Array.getElem?_eq_some_iff.1 e).1];exact e⟩
/-- The keywords of package lex lie in their variable; bytealg's MaxLen is a whole number. -/
structure Gh(w:World):Prop where
  kw:RowAt 0 kwL w
  mx:∃ m:Int,w.cell? ⟨2,0,none⟩=some (.int .i64 m)
theorem Gh.below{w w':World}(h:Gh w)(hb:Below w.heap.size w w'):Gh w':=⟨h.kw.below hb,by obtain⟨m,e⟩:=h.mx;exact⟨m,(hb.cell (World.block_lt_of_cell? w _ e)).trans e⟩⟩
theorem Gh.drew{w:World}(h:Gh w):Gh w.drew:=h.below (Below.drew (Below.refl _ _))
theorem Gh.drewN{w:World}(h:Gh w)(n:Nat):Gh (w.drewN n):=h.below (pw_below_drewN (Below.refl _ _) n)
theorem Gh.alloc{w:World}(h:Gh w)(o:Obj):Gh (w.alloc o):=h.below ((Below.refl _ _).alloc (Nat.le_refl _) o)
-- strings held against each other, as the print spells it
theorem xs_tri:∀ (a b:List UInt8),Op.bytesLess b a=!(Op.bytesLess a b||a==b)
  |[],[]=>rfl
  |[],b::y=>by simp [Op.bytesLess]
  |a::x,[]=>by simp [Op.bytesLess]
  |a::x,b::y=>by
    have ih:=xs_tri x y;simp only [Op.bytesLess,List.cons_beq_cons]
    rcases Nat.lt_trichotomy a.toNat b.toNat with h|h|h
    · have h1:a<b:=UInt8.lt_iff_toNat_lt.2 h
      have h2:¬ b<a:=fun h'=>by have:=UInt8.lt_iff_toNat_lt.1 h';omega
      have h3:¬ b=a:=fun e=>by subst e;omega
      simp [h1,h2,h3]
    · have h1:a=b:=UInt8.toNat_inj.1 h
      subst h1
      have h2:¬ a<a:=fun h'=>by have:=UInt8.lt_iff_toNat_lt.1 h';omega
      simp [h2,ih]
    · have h1:¬ a<b:=fun h'=>by have:=UInt8.lt_iff_toNat_lt.1 h';omega
      have h2:b<a:=UInt8.lt_iff_toNat_lt.2 h
      have h3:¬ a=b:=fun e=>by subst e;omega
      simp [h1,h2,h3]
theorem xs_gtr(t:TypeId)(a b:ByteArray):binOp .gtr t (.string a) (.string b)=pure (.bool (Op.bytesLess b.toList a.toList)):=by
  rw [xs_tri a.toList b.toList];simp [binOp,Op.stringOp]
theorem xs_leq(t:TypeId)(a b:ByteArray):binOp .leq t (.string a) (.string b)=pure (.bool (!Op.bytesLess b.toList a.toList)):=by
  rw [xs_tri a.toList b.toList];simp [binOp,Op.stringOp]
theorem xs_geq(t:TypeId)(a b:ByteArray):binOp .geq t (.string a) (.string b)=pure (.bool (!Op.bytesLess a.toList b.toList)):=by
  simp [binOp,Op.stringOp]
/-- A call of a function that a slot holds, as a step of a region. -/
theorem goesV_ {P : Program} {ops : Array Oper} {Q : Exit → Act → World → Prop} {oi : Oper} {N : Option Tmp} {a : Act} {w : World} {K : Act → World → Prop} {f : FuncId} {fn : Func} {as_ : Array Operand} {ts : Array TypeId} {t : Tmp} (hf : P.funcs[f]? = some fn) (hname : (fn.name == "runtime.NumGoroutine") = false) (hb : fn.body.isSome = true) (args : Array Value)
    (hw:Region.wanted oi (yielded ops a.tmps)=true) (hN:oi.dst=N) (hop:oi.op=.call { callee:=.value (.tmp t),args:=as_,argTypes:=ts }) (hv:a.eval (.tmp t)=.func (.func f) #[] #[]) (hargs:as_.map a.eval=args)
    (h:Calls P f args w fun e w'=>∃ v,e=.returned v∧K (a.put N v) w'):if Region.wanted oi (yielded ops a.tmps)=true then Oper.wp P oi a w K Q else K (a.put N undef) w:=by
  refine call_ f args hw hN ?_ h;have he:=enters_ hf hname hb args w;unfold execOp;simp [hop,resolve,Deferred.ofValue,invoke,hv,hargs,he]
/-- The same in a plain region, as an arm of go_wp2_with. -/
theorem goesLV_ {P : Program} {ops : Array Oper} {Q : Exit → Act → World → Prop} {rest : List Oper} {oi : Oper} {a : Act} {w : World} (N : Option Tmp) (hd : oi.dst = N) (hg : oi.guard = none) {f : FuncId} {fn : Func} {as_ : Array Operand} {ts : Array TypeId} {t : Tmp} (hf : P.funcs[f]? = some fn) (hname : (fn.name == "runtime.NumGoroutine") = false) (hb : fn.body.isSome = true) (args : Array Value)
    (hop:oi.op=.call { callee:=.value (.tmp t),args:=as_,argTypes:=ts }) (hv:a.eval (.tmp t)=.func (.func f) #[] #[]) (hargs:as_.map a.eval=args)
    (h:Calls P f args w fun e w'=>∃ v,e=.returned v∧wpList P ops Q rest (a.put N v) w'):wpList P ops Q (oi::rest) a w:=by
  refine wpList_plain hg fun K hK=>?_
  have he:=enters_ hf hname hb args w
  have hrun:(execOp a.eval oi).run P w=.ok (.enter f args) w:=by
    unfold execOp;simp [hop,resolve,Deferred.ofValue,invoke,hv,hargs,he]
  unfold Oper.wp;rw [hrun,Oper.upon_enter]
  refine h.mono fun e w'' hh=>?_
  obtain⟨v,rfl,hk⟩:=hh;subst hd;exact hK _ _ hk
theorem nf_:¬ (false=true):=by decide
theorem eqT_{α:Type}[BEq α][LawfulBEq α]{a b:α}(h:a=b):(a==b)=true∧(a !=b)=false:=⟨beq_iff_eq.mpr h,bne_eq_false_iff_eq.mpr h⟩
theorem eqF_{α:Type}[BEq α][LawfulBEq α]{a b:α}(h:¬ a=b):(a==b)=false∧(a !=b)=true:=⟨beq_eq_false_iff_ne.mpr h,bne_iff_ne.mpr h⟩
theorem as2_{p0 p1:Prop}(h0:p0)(h1:p1):Aside0 p0∧Aside0 p1:=⟨⟨h0⟩,⟨h1⟩⟩
theorem as3_{p0 p1 p2:Prop}(h0:p0)(h1:p1)(h2:p2):Aside0 p0∧Aside0 p1∧Aside0 p2:=⟨⟨h0⟩,⟨h1⟩,⟨h2⟩⟩
theorem as4_{p0 p1 p2 p3:Prop}(h0:p0)(h1:p1)(h2:p2)(h3:p3):Aside0 p0∧Aside0 p1∧Aside0 p2∧Aside0 p3:=⟨⟨h0⟩,⟨h1⟩,⟨h2⟩,⟨h3⟩⟩
theorem as5_{p0 p1 p2 p3 p4:Prop}(h0:p0)(h1:p1)(h2:p2)(h3:p3)(h4:p4):Aside0 p0∧Aside0 p1∧Aside0 p2∧Aside0 p3∧Aside0 p4:=⟨⟨h0⟩,⟨h1⟩,⟨h2⟩,⟨h3⟩,⟨h4⟩⟩
theorem as6_{p0 p1 p2 p3 p4 p5:Prop}(h0:p0)(h1:p1)(h2:p2)(h3:p3)(h4:p4)(h5:p5):Aside0 p0∧Aside0 p1∧Aside0 p2∧Aside0 p3∧Aside0 p4∧Aside0 p5:=⟨⟨h0⟩,⟨h1⟩,⟨h2⟩,⟨h3⟩,⟨h4⟩,⟨h5⟩⟩
theorem as7_{p0 p1 p2 p3 p4 p5 p6:Prop}(h0:p0)(h1:p1)(h2:p2)(h3:p3)(h4:p4)(h5:p5)(h6:p6):Aside0 p0∧Aside0 p1∧Aside0 p2∧Aside0 p3∧Aside0 p4∧Aside0 p5∧Aside0 p6:=⟨⟨h0⟩,⟨h1⟩,⟨h2⟩,⟨h3⟩,⟨h4⟩,⟨h5⟩,⟨h6⟩⟩
theorem as8_{p0 p1 p2 p3 p4 p5 p6 p7:Prop}(h0:p0)(h1:p1)(h2:p2)(h3:p3)(h4:p4)(h5:p5)(h6:p6)(h7:p7):Aside0 p0∧Aside0 p1∧Aside0 p2∧Aside0 p3∧Aside0 p4∧Aside0 p5∧Aside0 p6∧Aside0 p7:=⟨⟨h0⟩,⟨h1⟩,⟨h2⟩,⟨h3⟩,⟨h4⟩,⟨h5⟩,⟨h6⟩,⟨h7⟩⟩
theorem as9_{p0 p1 p2 p3 p4 p5 p6 p7 p8:Prop}(h0:p0)(h1:p1)(h2:p2)(h3:p3)(h4:p4)(h5:p5)(h6:p6)(h7:p7)(h8:p8):Aside0 p0∧Aside0 p1∧Aside0 p2∧Aside0 p3∧Aside0 p4∧Aside0 p5∧Aside0 p6∧Aside0 p7∧Aside0 p8:=⟨⟨h0⟩,⟨h1⟩,⟨h2⟩,⟨h3⟩,⟨h4⟩,⟨h5⟩,⟨h6⟩,⟨h7⟩,⟨h8⟩⟩
theorem as10_{p0 p1 p2 p3 p4 p5 p6 p7 p8 p9:Prop}(h0:p0)(h1:p1)(h2:p2)(h3:p3)(h4:p4)(h5:p5)(h6:p6)(h7:p7)(h8:p8)(h9:p9):Aside0 p0∧Aside0 p1∧Aside0 p2∧Aside0 p3∧Aside0 p4∧Aside0 p5∧Aside0 p6∧Aside0 p7∧Aside0 p8∧Aside0 p9:=⟨⟨h0⟩,⟨h1⟩,⟨h2⟩,⟨h3⟩,⟨h4⟩,⟨h5⟩,⟨h6⟩,⟨h7⟩,⟨h8⟩,⟨h9⟩⟩
theorem as11_{p0 p1 p2 p3 p4 p5 p6 p7 p8 p9 p10:Prop}(h0:p0)(h1:p1)(h2:p2)(h3:p3)(h4:p4)(h5:p5)(h6:p6)(h7:p7)(h8:p8)(h9:p9)(h10:p10):Aside0 p0∧Aside0 p1∧Aside0 p2∧Aside0 p3∧Aside0 p4∧Aside0 p5∧Aside0 p6∧Aside0 p7∧Aside0 p8∧Aside0 p9∧Aside0 p10:=⟨⟨h0⟩,⟨h1⟩,⟨h2⟩,⟨h3⟩,⟨h4⟩,⟨h5⟩,⟨h6⟩,⟨h7⟩,⟨h8⟩,⟨h9⟩,⟨h10⟩⟩
theorem as12_{p0 p1 p2 p3 p4 p5 p6 p7 p8 p9 p10 p11:Prop}(h0:p0)(h1:p1)(h2:p2)(h3:p3)(h4:p4)(h5:p5)(h6:p6)(h7:p7)(h8:p8)(h9:p9)(h10:p10)(h11:p11):Aside0 p0∧Aside0 p1∧Aside0 p2∧Aside0 p3∧Aside0 p4∧Aside0 p5∧Aside0 p6∧Aside0 p7∧Aside0 p8∧Aside0 p9∧Aside0 p10∧Aside0 p11:=⟨⟨h0⟩,⟨h1⟩,⟨h2⟩,⟨h3⟩,⟨h4⟩,⟨h5⟩,⟨h6⟩,⟨h7⟩,⟨h8⟩,⟨h9⟩,⟨h10⟩,⟨h11⟩⟩
theorem as13_{p0 p1 p2 p3 p4 p5 p6 p7 p8 p9 p10 p11 p12:Prop}(h0:p0)(h1:p1)(h2:p2)(h3:p3)(h4:p4)(h5:p5)(h6:p6)(h7:p7)(h8:p8)(h9:p9)(h10:p10)(h11:p11)(h12:p12):Aside0 p0∧Aside0 p1∧Aside0 p2∧Aside0 p3∧Aside0 p4∧Aside0 p5∧Aside0 p6∧Aside0 p7∧Aside0 p8∧Aside0 p9∧Aside0 p10∧Aside0 p11∧Aside0 p12:=⟨⟨h0⟩,⟨h1⟩,⟨h2⟩,⟨h3⟩,⟨h4⟩,⟨h5⟩,⟨h6⟩,⟨h7⟩,⟨h8⟩,⟨h9⟩,⟨h10⟩,⟨h11⟩,⟨h12⟩⟩
theorem as14_{p0 p1 p2 p3 p4 p5 p6 p7 p8 p9 p10 p11 p12 p13:Prop}(h0:p0)(h1:p1)(h2:p2)(h3:p3)(h4:p4)(h5:p5)(h6:p6)(h7:p7)(h8:p8)(h9:p9)(h10:p10)(h11:p11)(h12:p12)(h13:p13):Aside0 p0∧Aside0 p1∧Aside0 p2∧Aside0 p3∧Aside0 p4∧Aside0 p5∧Aside0 p6∧Aside0 p7∧Aside0 p8∧Aside0 p9∧Aside0 p10∧Aside0 p11∧Aside0 p12∧Aside0 p13:=⟨⟨h0⟩,⟨h1⟩,⟨h2⟩,⟨h3⟩,⟨h4⟩,⟨h5⟩,⟨h6⟩,⟨h7⟩,⟨h8⟩,⟨h9⟩,⟨h10⟩,⟨h11⟩,⟨h12⟩,⟨h13⟩⟩
theorem as15_{p0 p1 p2 p3 p4 p5 p6 p7 p8 p9 p10 p11 p12 p13 p14:Prop}(h0:p0)(h1:p1)(h2:p2)(h3:p3)(h4:p4)(h5:p5)(h6:p6)(h7:p7)(h8:p8)(h9:p9)(h10:p10)(h11:p11)(h12:p12)(h13:p13)(h14:p14):Aside0 p0∧Aside0 p1∧Aside0 p2∧Aside0 p3∧Aside0 p4∧Aside0 p5∧Aside0 p6∧Aside0 p7∧Aside0 p8∧Aside0 p9∧Aside0 p10∧Aside0 p11∧Aside0 p12∧Aside0 p13∧Aside0 p14:=⟨⟨h0⟩,⟨h1⟩,⟨h2⟩,⟨h3⟩,⟨h4⟩,⟨h5⟩,⟨h6⟩,⟨h7⟩,⟨h8⟩,⟨h9⟩,⟨h10⟩,⟨h11⟩,⟨h12⟩,⟨h13⟩,⟨h14⟩⟩
theorem as16_{p0 p1 p2 p3 p4 p5 p6 p7 p8 p9 p10 p11 p12 p13 p14 p15:Prop}(h0:p0)(h1:p1)(h2:p2)(h3:p3)(h4:p4)(h5:p5)(h6:p6)(h7:p7)(h8:p8)(h9:p9)(h10:p10)(h11:p11)(h12:p12)(h13:p13)(h14:p14)(h15:p15):Aside0 p0∧Aside0 p1∧Aside0 p2∧Aside0 p3∧Aside0 p4∧Aside0 p5∧Aside0 p6∧Aside0 p7∧Aside0 p8∧Aside0 p9∧Aside0 p10∧Aside0 p11∧Aside0 p12∧Aside0 p13∧Aside0 p14∧Aside0 p15:=⟨⟨h0⟩,⟨h1⟩,⟨h2⟩,⟨h3⟩,⟨h4⟩,⟨h5⟩,⟨h6⟩,⟨h7⟩,⟨h8⟩,⟨h9⟩,⟨h10⟩,⟨h11⟩,⟨h12⟩,⟨h13⟩,⟨h14⟩,⟨h15⟩⟩
-- the steps of a region in one line
theorem bl_{p:Prop}(h:p:=by repeat(first|(with_reducible first|exact HB.out|apply below_alloc|apply pw_below_drewN|apply below_drew1)|exact HB.out)):p:=h
theorem mp_{p:Prop}(h:p:=by(try simp only [List.map_toArray,List.map_cons,List.map_nil]);first|done|rfl|(simp only [List.length_drop,List.length_take];rfl)):p:=h
theorem as_{p:Prop}(h:p:=by first|(with_reducible assumption)|assumption):p:=h
theorem er_{p:Prop}(h:p:=by first|rfl|(simp [errW_none,errW_some] <;> rfl)|(simp [*,errW_none,errW_some] <;> rfl)):p:=h
theorem cz1_{w:World}{g:Nat}{t:TypeId}{a0:Value}(h:w.heap[g]?=some (.cells #[a0] t (0,0))):w.cell? ⟨g,0,none⟩=some a0∧w.frozen? ⟨g,0,none⟩=false:=⟨(blk_cell h 0).trans rfl,blk_frozen h 0⟩
theorem cz2_{w:World}{g:Nat}{t:TypeId}{a0 a1:Value}(h:w.heap[g]?=some (.cells #[a0,a1] t (0,0))):w.cell? ⟨g,0,none⟩=some a0∧w.cell? ⟨g,1,none⟩=some a1∧w.frozen? ⟨g,0,none⟩=false∧w.frozen? ⟨g,1,none⟩=false:=⟨(blk_cell h 0).trans rfl,(blk_cell h 1).trans rfl,blk_frozen h 0,blk_frozen h 1⟩
theorem cz3_{w:World}{g:Nat}{t:TypeId}{a0 a1 a2:Value}(h:w.heap[g]?=some (.cells #[a0,a1,a2] t (0,0))):w.cell? ⟨g,0,none⟩=some a0∧w.cell? ⟨g,1,none⟩=some a1∧w.cell? ⟨g,2,none⟩=some a2∧w.frozen? ⟨g,0,none⟩=false∧w.frozen? ⟨g,1,none⟩=false∧w.frozen? ⟨g,2,none⟩=false:=⟨(blk_cell h 0).trans rfl,(blk_cell h 1).trans rfl,(blk_cell h 2).trans rfl,blk_frozen h 0,blk_frozen h 1,blk_frozen h 2⟩
theorem cz4_{w:World}{g:Nat}{t:TypeId}{a0 a1 a2 a3:Value}(h:w.heap[g]?=some (.cells #[a0,a1,a2,a3] t (0,0))):w.cell? ⟨g,0,none⟩=some a0∧w.cell? ⟨g,1,none⟩=some a1∧w.cell? ⟨g,2,none⟩=some a2∧w.cell? ⟨g,3,none⟩=some a3∧w.frozen? ⟨g,0,none⟩=false∧w.frozen? ⟨g,1,none⟩=false∧w.frozen? ⟨g,2,none⟩=false∧w.frozen? ⟨g,3,none⟩=false:=⟨(blk_cell h 0).trans rfl,(blk_cell h 1).trans rfl,(blk_cell h 2).trans rfl,(blk_cell h 3).trans rfl,blk_frozen h 0,blk_frozen h 1,blk_frozen h 2,blk_frozen h 3⟩
theorem cz5_{w:World}{g:Nat}{t:TypeId}{a0 a1 a2 a3 a4:Value}(h:w.heap[g]?=some (.cells #[a0,a1,a2,a3,a4] t (0,0))):w.cell? ⟨g,0,none⟩=some a0∧w.cell? ⟨g,1,none⟩=some a1∧w.cell? ⟨g,2,none⟩=some a2∧w.cell? ⟨g,3,none⟩=some a3∧w.cell? ⟨g,4,none⟩=some a4∧w.frozen? ⟨g,0,none⟩=false∧w.frozen? ⟨g,1,none⟩=false∧w.frozen? ⟨g,2,none⟩=false∧w.frozen? ⟨g,3,none⟩=false∧w.frozen? ⟨g,4,none⟩=false:=⟨(blk_cell h 0).trans rfl,(blk_cell h 1).trans rfl,(blk_cell h 2).trans rfl,(blk_cell h 3).trans rfl,(blk_cell h 4).trans rfl,blk_frozen h 0,blk_frozen h 1,blk_frozen h 2,blk_frozen h 3,blk_frozen h 4⟩
theorem cz6_{w:World}{g:Nat}{t:TypeId}{a0 a1 a2 a3 a4 a5:Value}(h:w.heap[g]?=some (.cells #[a0,a1,a2,a3,a4,a5] t (0,0))):w.cell? ⟨g,0,none⟩=some a0∧w.cell? ⟨g,1,none⟩=some a1∧w.cell? ⟨g,2,none⟩=some a2∧w.cell? ⟨g,3,none⟩=some a3∧w.cell? ⟨g,4,none⟩=some a4∧w.cell? ⟨g,5,none⟩=some a5∧w.frozen? ⟨g,0,none⟩=false∧w.frozen? ⟨g,1,none⟩=false∧w.frozen? ⟨g,2,none⟩=false∧w.frozen? ⟨g,3,none⟩=false∧w.frozen? ⟨g,4,none⟩=false∧w.frozen? ⟨g,5,none⟩=false:=⟨(blk_cell h 0).trans rfl,(blk_cell h 1).trans rfl,(blk_cell h 2).trans rfl,(blk_cell h 3).trans rfl,(blk_cell h 4).trans rfl,(blk_cell h 5).trans rfl,blk_frozen h 0,blk_frozen h 1,blk_frozen h 2,blk_frozen h 3,blk_frozen h 4,blk_frozen h 5⟩
theorem cz7_{w:World}{g:Nat}{t:TypeId}{a0 a1 a2 a3 a4 a5 a6:Value}(h:w.heap[g]?=some (.cells #[a0,a1,a2,a3,a4,a5,a6] t (0,0))):w.cell? ⟨g,0,none⟩=some a0∧w.cell? ⟨g,1,none⟩=some a1∧w.cell? ⟨g,2,none⟩=some a2∧w.cell? ⟨g,3,none⟩=some a3∧w.cell? ⟨g,4,none⟩=some a4∧w.cell? ⟨g,5,none⟩=some a5∧w.cell? ⟨g,6,none⟩=some a6∧w.frozen? ⟨g,0,none⟩=false∧w.frozen? ⟨g,1,none⟩=false∧w.frozen? ⟨g,2,none⟩=false∧w.frozen? ⟨g,3,none⟩=false∧w.frozen? ⟨g,4,none⟩=false∧w.frozen? ⟨g,5,none⟩=false∧w.frozen? ⟨g,6,none⟩=false:=⟨(blk_cell h 0).trans rfl,(blk_cell h 1).trans rfl,(blk_cell h 2).trans rfl,(blk_cell h 3).trans rfl,(blk_cell h 4).trans rfl,(blk_cell h 5).trans rfl,(blk_cell h 6).trans rfl,blk_frozen h 0,blk_frozen h 1,blk_frozen h 2,blk_frozen h 3,blk_frozen h 4,blk_frozen h 5,blk_frozen h 6⟩
theorem fr_{p:Prop}(h:p:=by first|rfl|(simp;done)|(simp [*];done)):p:=h
section
variable {P:Program} {ops:Array Oper} {Q:Exit→Act→World→Prop} {md:Region.Mode} {S:World→Prop} {ds:List Nat}
theorem pu_(i d:Nat){oi:Oper}{v:Value}{fuel:Nat}{l l':Array Bool}{a a':Act}{w:World}(h:wpAnyLast P md ops Q S ds fuel l' a' w)(hi:ops[i]?=some oi:=by exact rfl)(hN:oi.dst=some d:=by exact rfl)
    (hl:l.setIfInBounds i true=l':=by(simp only [List.setIfInBounds_toArray,List.set_cons_zero,List.set_cons_succ];rfl)) (hc:anyB md ops l l' i=true:=by exact any_of HT_.out (by kernel_rfl)) (hy:Yields P ops oi v a:=by exact Or.inl ⟨by rfl,by(intro w';go_simp;with_reducible rfl)⟩)
    (ha:a.put (some d) v=a':=by(simp only [Act.put,List.setIfInBounds_toArray,List.set_cons_zero,List.set_cons_succ,i64_w,i32_w];rfl)) (hQ:∀ c a w,Q (.panic c) (a.put oi.dst v) w→Q (.panic c) a w:=by exact fun _ _ _ h=>h):wpAnyLast P md ops Q S ds (fuel+1) l a w:=pure_ l' hi hN hc hQ hy ha h
theorem pn_(i d:Nat){oi:Oper}{fuel:Nat}{l l':Array Bool}{a a':Act}{w:World}(h:wpAnyLast P md ops Q S ds fuel l' a' w)(hi:ops[i]?=some oi:=by exact rfl)(hN:oi.dst=some d:=by exact rfl)
    (hl:l.setIfInBounds i true=l':=by(simp only [List.setIfInBounds_toArray,List.set_cons_zero,List.set_cons_succ];rfl)) (hc:anyB md ops l l' i=true:=by exact any_of HT_.out (by kernel_rfl)) (hy:Yields P ops oi undef a:=by exact Or.inr ⟨by rfl,rfl⟩)
    (ha:a.put (some d) undef=a':=by(simp only [Act.put,List.setIfInBounds_toArray,List.set_cons_zero,List.set_cons_succ,i64_w,i32_w];rfl)) (hQ:∀ c a w,Q (.panic c) (a.put oi.dst undef) w→Q (.panic c) a w:=by exact fun _ _ _ h=>h):wpAnyLast P md ops Q S ds (fuel+1) l a w:=pure_ l' hi hN hc hQ hy ha h
theorem tk_(i d:Nat){oi:Oper}{v:Value}{fuel:Nat}{l l':Array Bool}{a a':Act}{w:World}(h:wpAnyLast P md ops Q S ds fuel l' a' w)(hi:ops[i]?=some oi:=by exact rfl)(hN:oi.dst=some d:=by exact rfl)
    (hl:l.setIfInBounds i true=l':=by(simp only [List.setIfInBounds_toArray,List.set_cons_zero,List.set_cons_succ];rfl)) (hc:takeB md ops ds l l' i=true:=by exact take_ofW HT_.out HW_.out (by kernel_rfl)) (hy:YieldsIf P ops S oi v a:=by exact Or.inl ⟨by rfl,by(intro w' s_;(repeat(have r_:=And.left s_;replace s_:=And.right s_));go_simp;with_reducible rfl)⟩)
    (ha:a.put (some d) v=a':=by(simp only [Act.put,List.setIfInBounds_toArray,List.set_cons_zero,List.set_cons_succ,i64_w,i32_w];rfl)) (hQ:∀ c a w,Q (.panic c) (a.put oi.dst v) w→Q (.panic c) a w:=by exact fun _ _ _ h=>h) (hS:S w:=by exact hHeld):wpAnyLast P md ops Q S ds (fuel+1) l a w:=take_ l' hi hN hc hQ hy hS ha h
end
-- rows that begin inside their block, by the other rows' words (dataflowref39.move's text is told of such a row)
namespace QQ.Kd
section
variable {α:Type} {d:Kd α} {e e':Nat} {w w1 W:World} {base:Nat} {ok ok':Nat→Prop} {u v:Value} {xs:List α}
theorem R_below(h:d.Q e w base ok v xs)(hb:Below w.heap.size w w1):d.Q e w1 base ok v xs:=Kd.Q_below h hb
theorem R_alloc(h:d.Q e w base ok v xs)(o:Obj):d.Q e (w.alloc o) base ok v xs:=Kd.Q_alloc h o
theorem R_drew(h:d.Q e w base ok v xs):d.Q e w.drew base ok v xs:=Kd.Q_drew h
theorem R_drewN(h:d.Q e w base ok v xs)(m:Nat):d.Q e (w.drewN m) base ok v xs:=Kd.Q_drewN h m
theorem R_mono(h:d.Q e w base ok v xs)(hok:∀ k,ok k→ok' k):d.Q e w base ok' v xs:=Kd.Q_mono h hok
theorem R_far(h:d.Q e w base ok v xs){p:Addr}(hok:∀ k,ok k→k≠p.block)(u:Value):d.Q e (w.setCell p u) base ok v xs:=Kd.Q_far h hok u
theorem R_types(h:d.Q e w base ok v xs){g t:Nat}{cells:Array Value}(hb:w.heap[g]?=some (.cells cells t (0,0)))(ht:∀ q,q∈e::d.E→q≠t):d.Q e w base (fun k=>ok k∧k≠g) v xs:=Kd.Q_types h hb ht
theorem R_slice(h:d.Q e w base ok v xs):∃ A c,v=.slice A xs.length c:=(Kd.Q_slice h).elim fun A hA=>hA.elim fun c hc=>⟨A,c,hc.1⟩
theorem R_reads'{A:Option Addr}{n c:Nat}(h:d.Q e w base ok (.slice A n c) xs):n=xs.length∧n≤c∧d.C w A xs.length xs:=Kd.Q_reads' h
theorem R_elderB(h:d.Q e w base ok v xs)(a:Nat)(ha:w.heap.size≤a):d.Q e w base (fun k=>ok k∧k≠a) v xs:=Kd.Q_elderB h a ha
theorem R_over'(h:d.Q e W base ok u xs)(hty:∀ k,v.ownBlock=some k→∃ cells,W.heap[k]?=some (.cells cells e' (0,0)))(ht:∀ q,q∈e::d.E→q≠e')(hg:W.grownBy w1 v.ownBlock):d.Q e w1 base ok u xs:=Kd.Q_over' h hty ht hg
theorem R_lt(h:d.Q e w base ok v xs):∀ k,v.ownBlock=some k→k<w.heap.size:=Kd.Q_lt h
theorem R_base(h:d.Q e w base ok v xs):∀ k,v.ownBlock=some k→base≤k:=Kd.Q_base h
end
end QQ.Kd
end Go.Proofs.YthfhbdncphkdaaaDoor.H

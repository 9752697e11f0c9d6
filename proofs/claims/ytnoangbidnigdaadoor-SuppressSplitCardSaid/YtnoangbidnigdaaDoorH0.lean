/- Printed (xprint.py): Go functions as Lean functions, each with the proof that its call does what the Lean function says. -/
import Derived.Test.YtnoangbidnigdaaDoorProg
import Derived.Below
import Derived.Deep.Draws
import Derived.Deep.AppendLies
import Derived.Maps.AppendAt
import Derived.OwnWalk
import Derived.Laws.BytesArg
import Derived.Laws.MakeOwn
import Derived.Laws.OwnMore
import Derived.Deep.OwnRows
import Derived.Tactics
import Derived.Lib.ConvBytes
import Derived.Laws.Slices
import Derived.WalkKit
import Derived.KernelRfl
import Derived.RowKit3
import Derived.Deep.LoopGhost
import Derived.Deep.QuietTactic
import Derived.BigQuiet
import Derived.WideLaws
import Derived.Deep.DeepCutAuto
import Derived.Deep.CutBlock
import Derived.Deep.RegionHeld3
import Derived.Laws.Rows
import Derived.Lib.AppendStr
import Derived.ArgAppend
import Derived.Laws.IdiomCopy
import Derived.OrdersHeld
import Derived.Laws.BitsLemmas
import Derived.RowKit
import Derived.Test.YtnoangbidnigdaaDoorSlWGuardMore
namespace Go.Proofs.YtnoangbidnigdaaDoor.H
open Go.RowKit Go.Proofs.YtnoangbidnigdaaDoorW.PrintWords Go.Proofs.YtnoangbidnigdaaDoorW.PrintLast Go.Proofs.YtnoangbidnigdaaDoorW.PrintMore
set_option linter.unusedVariables false
set_option linter.unusedSimpArgs false

def errW:Option Int→Value
  |none=>.nilIface
  |some c=>.iface 29 (.int .i64 c)
theorem errW_none:errW none=.nilIface:=rfl
theorem errW_some(c:Int):errW (some c)=.iface 29 (.int .i64 c):=rfl
theorem info3:(Tryd.prog.info? 3).map (fun i=>(i.zero,i.size,i.bytes))=some (some (.int .i64 0),1,8):=by kernel_rfl
theorem info4:(Tryd.prog.info? 4).map (fun i=>(i.zero,i.size,i.bytes))=some (some (.bool false),1,1):=by kernel_rfl
theorem info9:(Tryd.prog.info? 9).map (fun i=>(i.zero,i.size,i.bytes))=some (some (.string ⟨#[]⟩),1,16):=by kernel_rfl
theorem info23:(Tryd.prog.info? 23).map (fun i=>(i.zero,i.size,i.bytes))=some (some (.agg #[(.int .i64 0),(.string ⟨#[]⟩),(.string ⟨#[]⟩),(.string ⟨#[]⟩),(.string ⟨#[]⟩)]),5,72):=by kernel_rfl
theorem info28:(Tryd.prog.info? 28).map (fun i=>(i.zero,i.size,i.bytes))=some (some (.agg #[(.int .i64 0),(.string ⟨#[]⟩),(.string ⟨#[]⟩),(.int .i64 0),(.string ⟨#[]⟩),(.slice none 0 0)]),6,88):=by kernel_rfl
theorem info53:(Tryd.prog.info? 53).map (fun i=>(i.zero,i.size,i.bytes))=some (some (.agg #[(.int .i64 0),(.string ⟨#[]⟩),(.string ⟨#[]⟩),(.int .i64 0),(.string ⟨#[]⟩),(.slice none 0 0),(.int .i64 0)]),7,96):=by kernel_rfl
-- the values' own types
def rd_L3(xs:List (List ByteArray))(i:Int):(List ByteArray):=xs.getD i.toNat ([]:List ByteArray)
theorem at_L3{w:World}{A:Option Addr}{n:Nat}{xs:List (List ByteArray)}(h:Kd.C (Kd.slice 9 Kd.string) w A n xs)(i:Int)(h0:0≤i)(h1:i<n):∃ ad A0 c0,A=some ad∧w.cell? (ad.add i.toNat)=some (.slice A0 (rd_L3 xs i).length c0)∧(rd_L3 xs i).length≤c0∧Kd.string.C w A0 (rd_L3 xs i).length (rd_L3 xs i):=by
  obtain⟨ad,c,e,_,hK,hc0⟩:=Kd.C_get h ([]:List ByteArray) i h0 h1;have hc:∀ j u,c[j]?=some u→w.cell? (ad.add (i.toNat*1+j))=some u:=hc0;obtain⟨A0,c0,rfl,l0,g0⟩:=hK;exact⟨ad,A0,c0,e,by have hq:=hc 0 _ rfl;rwa [Nat.mul_one,Nat.add_zero] at hq,l0,g0⟩
/-! #### struct type 23 -/
structure S23 where
  f0:Int
  f1:ByteArray
  f2:ByteArray
  f3:ByteArray
  f4:ByteArray
def z23:S23:=⟨(0:Int),(⟨#[]⟩:ByteArray),(⟨#[]⟩:ByteArray),(⟨#[]⟩:ByteArray),(⟨#[]⟩:ByteArray)⟩
def k23:Kd S23:=Kd.iso (Kd.pair (Kd.int .i64) (Kd.pair Kd.string (Kd.pair Kd.string (Kd.pair Kd.string Kd.string)))) (fun x:S23=>(x.f0,x.f1,x.f2,x.f3,x.f4))
theorem k23_heap:Kd.Heap k23:=Kd.heap_iso _ (Kd.heap_pair (Kd.heap_int .i64) (Kd.heap_pair Kd.heap_string (Kd.heap_pair Kd.heap_string (Kd.heap_pair Kd.heap_string Kd.heap_string))))
theorem k23_open{w:World}{x:S23}{cs:List Value}(h:k23.K w x cs):cs=[.int .i64 x.f0,.string x.f1,.string x.f2,.string x.f3,.string x.f4]:=by
  obtain⟨_,_,rfl,rfl,⟨_,_,rfl,rfl,⟨_,_,rfl,rfl,⟨_,_,rfl,rfl,rfl⟩⟩⟩⟩:=h;exact rfl
theorem k23_openM{w:World}{base:Nat}{ok:Nat→Prop}{x:S23}{cs:List Value}(h:k23.M w base ok x cs):cs=[.int .i64 x.f0,.string x.f1,.string x.f2,.string x.f3,.string x.f4]:=by
  obtain⟨_,_,rfl,rfl,⟨_,_,rfl,rfl,⟨_,_,rfl,rfl,⟨_,_,rfl,rfl,rfl⟩⟩⟩⟩:=h;exact rfl
theorem k23_mk(w:World)(x:S23) :k23.K w x [.int .i64 x.f0,.string x.f1,.string x.f2,.string x.f3,.string x.f4]:=⟨[.int .i64 x.f0],[.string x.f1,.string x.f2,.string x.f3,.string x.f4],rfl,rfl,⟨[.string x.f1],[.string x.f2,.string x.f3,.string x.f4],rfl,rfl,⟨[.string x.f2],[.string x.f3,.string x.f4],rfl,rfl,⟨[.string x.f3],[.string x.f4],rfl,rfl,rfl⟩⟩⟩⟩
theorem k23_mkM(w:World)(base:Nat)(ok:Nat→Prop)(x:S23) :k23.M w base ok x [.int .i64 x.f0,.string x.f1,.string x.f2,.string x.f3,.string x.f4]:=⟨[.int .i64 x.f0],[.string x.f1,.string x.f2,.string x.f3,.string x.f4],rfl,rfl,⟨[.string x.f1],[.string x.f2,.string x.f3,.string x.f4],rfl,rfl,⟨[.string x.f2],[.string x.f3,.string x.f4],rfl,rfl,⟨[.string x.f3],[.string x.f4],rfl,rfl,rfl⟩⟩⟩⟩
theorem k23_mkF(W:World)(ok:Nat→Prop)(x:S23):Kd.FK k23 W ok x [.int .i64 x.f0,.string x.f1,.string x.f2,.string x.f3,.string x.f4]:=fun W2 _=>k23_mk W2 x
def rd_T23(xs:List S23)(i:Int):S23:=xs.getD i.toNat z23
theorem at_T23{w:World}{A:Option Addr}{n:Nat}{xs:List S23}(h:Kd.C k23 w A n xs)(i:Int)(h0:0≤i)(h1:i<n):∃ ad,A=some ad∧w.cell? (ad.add (i.toNat*5))=some (.int .i64 (rd_T23 xs i).f0)∧w.cell? ⟨(ad.add (i.toNat*5)).block,(ad.add (i.toNat*5)).off+1,none⟩=some (.string (rd_T23 xs i).f1)∧w.cell? ⟨(ad.add (i.toNat*5)).block,(ad.add (i.toNat*5)).off+2,none⟩=some (.string (rd_T23 xs i).f2)∧w.cell? ⟨(ad.add (i.toNat*5)).block,(ad.add (i.toNat*5)).off+3,none⟩=some (.string (rd_T23 xs i).f3)∧w.cell? ⟨(ad.add (i.toNat*5)).block,(ad.add (i.toNat*5)).off+4,none⟩=some (.string (rd_T23 xs i).f4):=by
  obtain⟨ad,c,e,_,hK,hc0⟩:=Kd.C_get h z23 i h0 h1;have hc:∀ j u,c[j]?=some u→w.cell? (ad.add (i.toNat*5+j))=some u:=hc0;obtain rfl:=k23_open hK;exact⟨ad,e,hc 0 _ rfl,by rw [← add_field _ _ 1 (by omega)];exact hc 1 _ rfl,by rw [← add_field _ _ 2 (by omega)];exact hc 2 _ rfl,by rw [← add_field _ _ 3 (by omega)];exact hc 3 _ rfl,by rw [← add_field _ _ 4 (by omega)];exact hc 4 _ rfl⟩
/-! #### struct type 25 -/
structure S25 where
  f0:ByteArray
  f1:ByteArray
  f2:Int
def z25:S25:=⟨(⟨#[]⟩:ByteArray),(⟨#[]⟩:ByteArray),(0:Int)⟩
def k25:Kd S25:=Kd.iso (Kd.pair Kd.string (Kd.pair Kd.string (Kd.int .i64))) (fun x:S25=>(x.f0,x.f1,x.f2))
theorem k25_heap:Kd.Heap k25:=Kd.heap_iso _ (Kd.heap_pair Kd.heap_string (Kd.heap_pair Kd.heap_string (Kd.heap_int .i64)))
theorem k25_open{w:World}{x:S25}{cs:List Value}(h:k25.K w x cs):cs=[.string x.f0,.string x.f1,.int .i64 x.f2]:=by
  obtain⟨_,_,rfl,rfl,⟨_,_,rfl,rfl,rfl⟩⟩:=h;exact rfl
theorem k25_openM{w:World}{base:Nat}{ok:Nat→Prop}{x:S25}{cs:List Value}(h:k25.M w base ok x cs):cs=[.string x.f0,.string x.f1,.int .i64 x.f2]:=by
  obtain⟨_,_,rfl,rfl,⟨_,_,rfl,rfl,rfl⟩⟩:=h;exact rfl
theorem k25_mk(w:World)(x:S25) :k25.K w x [.string x.f0,.string x.f1,.int .i64 x.f2]:=⟨[.string x.f0],[.string x.f1,.int .i64 x.f2],rfl,rfl,⟨[.string x.f1],[.int .i64 x.f2],rfl,rfl,rfl⟩⟩
theorem k25_mkM(w:World)(base:Nat)(ok:Nat→Prop)(x:S25) :k25.M w base ok x [.string x.f0,.string x.f1,.int .i64 x.f2]:=⟨[.string x.f0],[.string x.f1,.int .i64 x.f2],rfl,rfl,⟨[.string x.f1],[.int .i64 x.f2],rfl,rfl,rfl⟩⟩
theorem k25_mkF(W:World)(ok:Nat→Prop)(x:S25):Kd.FK k25 W ok x [.string x.f0,.string x.f1,.int .i64 x.f2]:=fun W2 _=>k25_mk W2 x
def rd_T25(xs:List S25)(i:Int):S25:=xs.getD i.toNat z25
theorem at_T25{w:World}{A:Option Addr}{n:Nat}{xs:List S25}(h:Kd.C k25 w A n xs)(i:Int)(h0:0≤i)(h1:i<n):∃ ad,A=some ad∧w.cell? (ad.add (i.toNat*3))=some (.string (rd_T25 xs i).f0)∧w.cell? ⟨(ad.add (i.toNat*3)).block,(ad.add (i.toNat*3)).off+1,none⟩=some (.string (rd_T25 xs i).f1)∧w.cell? ⟨(ad.add (i.toNat*3)).block,(ad.add (i.toNat*3)).off+2,none⟩=some (.int .i64 (rd_T25 xs i).f2):=by
  obtain⟨ad,c,e,_,hK,hc0⟩:=Kd.C_get h z25 i h0 h1;have hc:∀ j u,c[j]?=some u→w.cell? (ad.add (i.toNat*3+j))=some u:=hc0;obtain rfl:=k25_open hK;exact⟨ad,e,hc 0 _ rfl,by rw [← add_field _ _ 1 (by omega)];exact hc 1 _ rfl,by rw [← add_field _ _ 2 (by omega)];exact hc 2 _ rfl⟩
def rd_L6(xs:List (List S25))(i:Int):(List S25):=xs.getD i.toNat ([]:List S25)
theorem at_L6{w:World}{A:Option Addr}{n:Nat}{xs:List (List S25)}(h:Kd.C (Kd.slice 25 k25) w A n xs)(i:Int)(h0:0≤i)(h1:i<n):∃ ad A0 c0,A=some ad∧w.cell? (ad.add i.toNat)=some (.slice A0 (rd_L6 xs i).length c0)∧(rd_L6 xs i).length≤c0∧k25.C w A0 (rd_L6 xs i).length (rd_L6 xs i):=by
  obtain⟨ad,c,e,_,hK,hc0⟩:=Kd.C_get h ([]:List S25) i h0 h1;have hc:∀ j u,c[j]?=some u→w.cell? (ad.add (i.toNat*1+j))=some u:=hc0;obtain⟨A0,c0,rfl,l0,g0⟩:=hK;exact⟨ad,A0,c0,e,by have hq:=hc 0 _ rfl;rwa [Nat.mul_one,Nat.add_zero] at hq,l0,g0⟩
/-! #### struct type 28 -/
structure S28 where
  f0:Int
  f1:S25
  f2:ByteArray
  f3:(List S25)
def z28:S28:=⟨(0:Int),z25,(⟨#[]⟩:ByteArray),([]:List S25)⟩
def k28:Kd S28:=Kd.iso (Kd.pair (Kd.int .i64) (Kd.pair k25 (Kd.pair Kd.string (Kd.slice 25 k25)))) (fun x:S28=>(x.f0,x.f1,x.f2,x.f3))
theorem k28_heap:Kd.Heap k28:=Kd.heap_iso _ (Kd.heap_pair (Kd.heap_int .i64) (Kd.heap_pair k25_heap (Kd.heap_pair Kd.heap_string (Kd.heap_slice 25 k25_heap))))
theorem k28_open{w:World}{x:S28}{cs:List Value}(h:k28.K w x cs):∃ A5 c5,cs=[.int .i64 x.f0,.string x.f1.f0,.string x.f1.f1,.int .i64 x.f1.f2,.string x.f2,.slice A5 x.f3.length c5]∧x.f3.length≤c5∧k25.C w A5 x.f3.length x.f3:=by
  obtain⟨_,_,rfl,rfl,⟨_,_,rfl,s1,⟨_,_,rfl,rfl,⟨A5,c5,rfl,l5,g5⟩⟩⟩⟩:=h;obtain rfl:=k25_open s1;exact⟨A5,c5,rfl,l5,g5⟩
theorem k28_openM{w:World}{base:Nat}{ok:Nat→Prop}{x:S28}{cs:List Value}(h:k28.M w base ok x cs):∃ v5,cs=[.int .i64 x.f0,.string x.f1.f0,.string x.f1.f1,.int .i64 x.f1.f2,.string x.f2,v5]∧k25.R 25 w base ok v5 x.f3:=by
  obtain⟨_,_,rfl,rfl,⟨_,_,rfl,s1,⟨_,_,rfl,rfl,⟨v5,rfl,g5⟩⟩⟩⟩:=h;obtain rfl:=k25_openM s1;exact⟨v5,rfl,g5⟩
theorem k28_mk(w:World)(x:S28){A5:Option Addr}{c5:Nat}(l5:x.f3.length≤c5)(g5:k25.C w A5 x.f3.length x.f3):k28.K w x [.int .i64 x.f0,.string x.f1.f0,.string x.f1.f1,.int .i64 x.f1.f2,.string x.f2,.slice A5 x.f3.length c5]:=⟨[.int .i64 x.f0],[.string x.f1.f0,.string x.f1.f1,.int .i64 x.f1.f2,.string x.f2,.slice A5 x.f3.length c5],rfl,rfl,⟨[.string x.f1.f0,.string x.f1.f1,.int .i64 x.f1.f2],[.string x.f2,.slice A5 x.f3.length c5],rfl,(k25_mk w x.f1 ),⟨[.string x.f2],[.slice A5 x.f3.length c5],rfl,rfl,⟨A5,c5,rfl,l5,g5⟩⟩⟩⟩
theorem k28_mkM(w:World)(base:Nat)(ok:Nat→Prop)(x:S28){v5:Value}(g5:k25.R 25 w base ok v5 x.f3):k28.M w base ok x [.int .i64 x.f0,.string x.f1.f0,.string x.f1.f1,.int .i64 x.f1.f2,.string x.f2,v5]:=⟨[.int .i64 x.f0],[.string x.f1.f0,.string x.f1.f1,.int .i64 x.f1.f2,.string x.f2,v5],rfl,rfl,⟨[.string x.f1.f0,.string x.f1.f1,.int .i64 x.f1.f2],[.string x.f2,v5],rfl,(k25_mkM w base ok x.f1 ),⟨[.string x.f2],[v5],rfl,rfl,⟨v5,rfl,g5⟩⟩⟩⟩
theorem k28_openF{W:World}{ok:Nat→Prop}{x:S28}{cs:List Value}(h:Kd.FK k28 W ok x cs):∃ A5 c5,cs=[.int .i64 x.f0,.string x.f1.f0,.string x.f1.f1,.int .i64 x.f1.f2,.string x.f2,.slice A5 x.f3.length c5]∧x.f3.length≤c5∧Kd.F k25 W ok A5 x.f3.length x.f3:=by
  obtain⟨A5,c5,rfl,l5,_⟩:=k28_open (Kd.FK_now h);exact⟨A5,c5,rfl,l5,(fun W' hW=>by obtain⟨A5_,c5_,he,l5_,g5_⟩:=k28_open (h W' hW);injection (Option.some.inj (show some (Value.slice A5 x.f3.length c5)=some (Value.slice A5_ x.f3.length c5_) from congrArg (fun l=>l[5]?) he)) with ha_ _ _;rw [ha_];exact g5_)⟩
theorem k28_mkF(W:World)(ok:Nat→Prop)(x:S28){A5:Option Addr}{c5:Nat}(l5:x.f3.length≤c5)(g5:Kd.F k25 W ok A5 x.f3.length x.f3):Kd.FK k28 W ok x [.int .i64 x.f0,.string x.f1.f0,.string x.f1.f1,.int .i64 x.f1.f2,.string x.f2,.slice A5 x.f3.length c5]:=fun W2 hW=>k28_mk W2 x l5 (g5 W2 hW)
def rd_T28(xs:List S28)(i:Int):S28:=xs.getD i.toNat z28
theorem at_T28{w:World}{A:Option Addr}{n:Nat}{xs:List S28}(h:Kd.C k28 w A n xs)(i:Int)(h0:0≤i)(h1:i<n):∃ ad A5 c5,A=some ad∧w.cell? (ad.add (i.toNat*6))=some (.int .i64 (rd_T28 xs i).f0)∧w.cell? ⟨(ad.add (i.toNat*6)).block,(ad.add (i.toNat*6)).off+1,none⟩=some (.string (rd_T28 xs i).f1.f0)∧w.cell? ⟨(ad.add (i.toNat*6)).block,(ad.add (i.toNat*6)).off+2,none⟩=some (.string (rd_T28 xs i).f1.f1)∧w.cell? ⟨(ad.add (i.toNat*6)).block,(ad.add (i.toNat*6)).off+3,none⟩=some (.int .i64 (rd_T28 xs i).f1.f2)∧w.cell? ⟨(ad.add (i.toNat*6)).block,(ad.add (i.toNat*6)).off+4,none⟩=some (.string (rd_T28 xs i).f2)∧w.cell? ⟨(ad.add (i.toNat*6)).block,(ad.add (i.toNat*6)).off+5,none⟩=some (.slice A5 (rd_T28 xs i).f3.length c5)∧(rd_T28 xs i).f3.length≤c5∧k25.C w A5 (rd_T28 xs i).f3.length (rd_T28 xs i).f3:=by
  obtain⟨ad,c,e,_,hK,hc0⟩:=Kd.C_get h z28 i h0 h1;have hc:∀ j u,c[j]?=some u→w.cell? (ad.add (i.toNat*6+j))=some u:=hc0;obtain⟨A5,c5,rfl,l5,g5⟩:=k28_open hK;exact⟨ad,A5,c5,e,hc 0 _ rfl,by rw [← add_field _ _ 1 (by omega)];exact hc 1 _ rfl,by rw [← add_field _ _ 2 (by omega)];exact hc 2 _ rfl,by rw [← add_field _ _ 3 (by omega)];exact hc 3 _ rfl,by rw [← add_field _ _ 4 (by omega)];exact hc 4 _ rfl,by rw [← add_field _ _ 5 (by omega)];exact hc 5 _ rfl,l5,g5⟩
def rd_L8(xs:List (List S23))(i:Int):(List S23):=xs.getD i.toNat ([]:List S23)
theorem at_L8{w:World}{A:Option Addr}{n:Nat}{xs:List (List S23)}(h:Kd.C (Kd.slice 23 k23) w A n xs)(i:Int)(h0:0≤i)(h1:i<n):∃ ad A0 c0,A=some ad∧w.cell? (ad.add i.toNat)=some (.slice A0 (rd_L8 xs i).length c0)∧(rd_L8 xs i).length≤c0∧k23.C w A0 (rd_L8 xs i).length (rd_L8 xs i):=by
  obtain⟨ad,c,e,_,hK,hc0⟩:=Kd.C_get h ([]:List S23) i h0 h1;have hc:∀ j u,c[j]?=some u→w.cell? (ad.add (i.toNat*1+j))=some u:=hc0;obtain⟨A0,c0,rfl,l0,g0⟩:=hK;exact⟨ad,A0,c0,e,by have hq:=hc 0 _ rfl;rwa [Nat.mul_one,Nat.add_zero] at hq,l0,g0⟩
/-! #### struct type 53 -/
structure S53 where
  f0:S28
  f1:Int
def z53:S53:=⟨z28,(0:Int)⟩
def k53:Kd S53:=Kd.iso (Kd.pair k28 (Kd.int .i64)) (fun x:S53=>(x.f0,x.f1))
theorem k53_heap:Kd.Heap k53:=Kd.heap_iso _ (Kd.heap_pair k28_heap (Kd.heap_int .i64))
theorem k53_open{w:World}{x:S53}{cs:List Value}(h:k53.K w x cs):∃ A5 c5,cs=[.int .i64 x.f0.f0,.string x.f0.f1.f0,.string x.f0.f1.f1,.int .i64 x.f0.f1.f2,.string x.f0.f2,.slice A5 x.f0.f3.length c5,.int .i64 x.f1]∧x.f0.f3.length≤c5∧k25.C w A5 x.f0.f3.length x.f0.f3:=by
  obtain⟨_,_,rfl,s0,rfl⟩:=h;obtain⟨A5,c5,rfl,l5,g5⟩:=k28_open s0;exact⟨A5,c5,rfl,l5,g5⟩
theorem k53_openM{w:World}{base:Nat}{ok:Nat→Prop}{x:S53}{cs:List Value}(h:k53.M w base ok x cs):∃ v5,cs=[.int .i64 x.f0.f0,.string x.f0.f1.f0,.string x.f0.f1.f1,.int .i64 x.f0.f1.f2,.string x.f0.f2,v5,.int .i64 x.f1]∧k25.R 25 w base ok v5 x.f0.f3:=by
  obtain⟨_,_,rfl,s0,rfl⟩:=h;obtain⟨v5,rfl,g5⟩:=k28_openM s0;exact⟨v5,rfl,g5⟩
theorem k53_mk(w:World)(x:S53){A5:Option Addr}{c5:Nat}(l5:x.f0.f3.length≤c5)(g5:k25.C w A5 x.f0.f3.length x.f0.f3):k53.K w x [.int .i64 x.f0.f0,.string x.f0.f1.f0,.string x.f0.f1.f1,.int .i64 x.f0.f1.f2,.string x.f0.f2,.slice A5 x.f0.f3.length c5,.int .i64 x.f1]:=⟨[.int .i64 x.f0.f0,.string x.f0.f1.f0,.string x.f0.f1.f1,.int .i64 x.f0.f1.f2,.string x.f0.f2,.slice A5 x.f0.f3.length c5],[.int .i64 x.f1],rfl,(k28_mk w x.f0 l5 g5),rfl⟩
theorem k53_mkM(w:World)(base:Nat)(ok:Nat→Prop)(x:S53){v5:Value}(g5:k25.R 25 w base ok v5 x.f0.f3):k53.M w base ok x [.int .i64 x.f0.f0,.string x.f0.f1.f0,.string x.f0.f1.f1,.int .i64 x.f0.f1.f2,.string x.f0.f2,v5,.int .i64 x.f1]:=⟨[.int .i64 x.f0.f0,.string x.f0.f1.f0,.string x.f0.f1.f1,.int .i64 x.f0.f1.f2,.string x.f0.f2,v5],[.int .i64 x.f1],rfl,(k28_mkM w base ok x.f0 g5),rfl⟩
theorem k53_openF{W:World}{ok:Nat→Prop}{x:S53}{cs:List Value}(h:Kd.FK k53 W ok x cs):∃ A5 c5,cs=[.int .i64 x.f0.f0,.string x.f0.f1.f0,.string x.f0.f1.f1,.int .i64 x.f0.f1.f2,.string x.f0.f2,.slice A5 x.f0.f3.length c5,.int .i64 x.f1]∧x.f0.f3.length≤c5∧Kd.F k25 W ok A5 x.f0.f3.length x.f0.f3:=by
  obtain⟨A5,c5,rfl,l5,_⟩:=k53_open (Kd.FK_now h);exact⟨A5,c5,rfl,l5,(fun W' hW=>by obtain⟨A5_,c5_,he,l5_,g5_⟩:=k53_open (h W' hW);injection (Option.some.inj (show some (Value.slice A5 x.f0.f3.length c5)=some (Value.slice A5_ x.f0.f3.length c5_) from congrArg (fun l=>l[5]?) he)) with ha_ _ _;rw [ha_];exact g5_)⟩
theorem k53_mkF(W:World)(ok:Nat→Prop)(x:S53){A5:Option Addr}{c5:Nat}(l5:x.f0.f3.length≤c5)(g5:Kd.F k25 W ok A5 x.f0.f3.length x.f0.f3):Kd.FK k53 W ok x [.int .i64 x.f0.f0,.string x.f0.f1.f0,.string x.f0.f1.f1,.int .i64 x.f0.f1.f2,.string x.f0.f2,.slice A5 x.f0.f3.length c5,.int .i64 x.f1]:=fun W2 hW=>k53_mk W2 x l5 (g5 W2 hW)
def rd_T53(xs:List S53)(i:Int):S53:=xs.getD i.toNat z53
theorem at_T53{w:World}{A:Option Addr}{n:Nat}{xs:List S53}(h:Kd.C k53 w A n xs)(i:Int)(h0:0≤i)(h1:i<n):∃ ad A5 c5,A=some ad∧w.cell? (ad.add (i.toNat*7))=some (.int .i64 (rd_T53 xs i).f0.f0)∧w.cell? ⟨(ad.add (i.toNat*7)).block,(ad.add (i.toNat*7)).off+1,none⟩=some (.string (rd_T53 xs i).f0.f1.f0)∧w.cell? ⟨(ad.add (i.toNat*7)).block,(ad.add (i.toNat*7)).off+2,none⟩=some (.string (rd_T53 xs i).f0.f1.f1)∧w.cell? ⟨(ad.add (i.toNat*7)).block,(ad.add (i.toNat*7)).off+3,none⟩=some (.int .i64 (rd_T53 xs i).f0.f1.f2)∧w.cell? ⟨(ad.add (i.toNat*7)).block,(ad.add (i.toNat*7)).off+4,none⟩=some (.string (rd_T53 xs i).f0.f2)∧w.cell? ⟨(ad.add (i.toNat*7)).block,(ad.add (i.toNat*7)).off+5,none⟩=some (.slice A5 (rd_T53 xs i).f0.f3.length c5)∧w.cell? ⟨(ad.add (i.toNat*7)).block,(ad.add (i.toNat*7)).off+6,none⟩=some (.int .i64 (rd_T53 xs i).f1)∧(rd_T53 xs i).f0.f3.length≤c5∧k25.C w A5 (rd_T53 xs i).f0.f3.length (rd_T53 xs i).f0.f3:=by
  obtain⟨ad,c,e,_,hK,hc0⟩:=Kd.C_get h z53 i h0 h1;have hc:∀ j u,c[j]?=some u→w.cell? (ad.add (i.toNat*7+j))=some u:=hc0;obtain⟨A5,c5,rfl,l5,g5⟩:=k53_open hK;exact⟨ad,A5,c5,e,hc 0 _ rfl,by rw [← add_field _ _ 1 (by omega)];exact hc 1 _ rfl,by rw [← add_field _ _ 2 (by omega)];exact hc 2 _ rfl,by rw [← add_field _ _ 3 (by omega)];exact hc 3 _ rfl,by rw [← add_field _ _ 4 (by omega)];exact hc 4 _ rfl,by rw [← add_field _ _ 5 (by omega)];exact hc 5 _ rfl,by rw [← add_field _ _ 6 (by omega)];exact hc 6 _ rfl,l5,g5⟩
-- what the walks ask of the program's variables
/-- The block holds the row. -/
def RowAt(g:Nat)(l:List ByteArray)(w:World):Prop:=∃ t fr,w.heap[g]?=some (.cells (l.map Value.string).toArray t fr)
def kwL:List ByteArray:=[⟨#[99,108,97,115,115]⟩,⟨#[101,120,116,101,110,100,115]⟩,⟨#[118,97,114]⟩,⟨#[100,101,102]⟩,⟨#[115,116,97,116,105,99]⟩,⟨#[105,102]⟩,⟨#[101,108,115,101]⟩,⟨#[119,104,105,108,101]⟩,⟨#[116,114,121]⟩,⟨#[99,97,116,99,104]⟩,⟨#[116,104,114,111,119]⟩,⟨#[114,101,116,117,114,110]⟩,⟨#[110,101,119]⟩,⟨#[110,117,108,108]⟩,⟨#[116,104,105,115]⟩,⟨#[105,110,112,117,116]⟩,⟨#[105,110,116]⟩]
theorem RowAt.below{g:Nat}{l:List ByteArray}{w w':World}(h:RowAt g l w)(hb:Below w.heap.size w w'):RowAt g l w':=by
  obtain⟨t,fr,e⟩:=h;exact⟨t,fr,by rw [hb.block g (Array.getElem?_eq_some_iff.1 e).1];exact e⟩
def wordsL:List ByteArray:=[⟨#[42]⟩,⟨#[117,110,115,101,116]⟩,⟨#[115,116,97,116,101]⟩,⟨#[116,97,105,110,116]⟩,⟨#[98,114,97,110,99,104]⟩]
/-- The keywords of package lex, the words of the kinds and the handle of the type error lie in their variables; bytealg's MaxLen is a whole number. -/
structure Gh(w:World):Prop where
  kw:RowAt 2 kwL w
  wd:RowAt 0 wordsL w
  et:w.cell? ⟨1,0,none⟩=some (.iface 114 (.agg #[.pointer (some ⟨6,61,none⟩)]))
  mx:∃ m:Int,w.cell? ⟨3,0,none⟩=some (.int .i64 m)
theorem Gh.below{w w':World}(h:Gh w)(hb:Below w.heap.size w w'):Gh w':=⟨h.kw.below hb,h.wd.below hb,(hb.cell (World.block_lt_of_cell? w _ h.et)).trans h.et,by obtain⟨m,e⟩:=h.mx;exact⟨m,(hb.cell (World.block_lt_of_cell? w _ e)).trans e⟩⟩
theorem Gh.drew{w:World}(h:Gh w):Gh w.drew:=h.below (Below.drew (Below.refl _ _))
theorem Gh.drewN{w:World}(h:Gh w)(n:Nat):Gh (w.drewN n):=h.below (pw_below_drewN (Below.refl _ _) n)
theorem Gh.alloc{w:World}(h:Gh w)(o:Obj):Gh (w.alloc o):=h.below ((Below.refl _ _).alloc (Nat.le_refl _) o)
theorem RowAt.C{g:Nat}{l:List ByteArray}{w:World}(h:RowAt g l w)(hl:l.length≤1000):Kd.C Kd.string w (some ⟨g,0,none⟩) l.length l:=by
  obtain⟨t,fr,e⟩:=h;refine⟨rfl,by omega,fun _=>⟨_,rfl,fun j p hj=>⟨[.string p],rfl,rfl,fun i u hu=>?_⟩⟩⟩
  cases i with
  |zero =>
    obtain rfl:Value.string p=u:=by simpa using hu
    rw [show Kd.string.sz=1 from rfl,Nat.mul_one,Nat.add_zero,Go.WideShapes.add_plain,Nat.zero_add];simp [World.cell?,e,hj]
  |succ i=>simp at hu
theorem Gh.wd_C{w:World}(h:Gh w):Kd.C Kd.string w (some ⟨0,0,none⟩) wordsL.length wordsL:=h.wd.C (by decide)
-- strings held against each other, as the print spells it
theorem xs_tri:∀ (a b:List UInt8),Op.bytesLess b a=!(Op.bytesLess a b||a==b)
  |[],[]=>rfl
  |[],b::y=>by simp [Op.bytesLess]
  |a::x,[]=>by simp [Op.bytesLess]
  |a::x,b::y=>by
    have ih:=xs_tri x y;simp only [Op.bytesLess,List.cons_beq_cons]
    rcases Nat.lt_trichotomy a.toNat b.toNat with h|h|h
    · have h1:a<b:=UInt8.lt_iff_toNat_lt.2 h
      have h2:¬ b<a:=fun h'=>by have:=UInt8.lt_iff_toNat_lt.1 h';omega
      have h3:¬ b=a:=fun e=>by subst e;omega
      simp [h1,h2,h3]
    · have h1:a=b:=UInt8.toNat_inj.1 h
      subst h1
      have h2:¬ a<a:=fun h'=>by have:=UInt8.lt_iff_toNat_lt.1 h';omega
      simp [h2,ih]
    · have h1:¬ a<b:=fun h'=>by have:=UInt8.lt_iff_toNat_lt.1 h';omega
      have h2:b<a:=UInt8.lt_iff_toNat_lt.2 h
      have h3:¬ a=b:=fun e=>by subst e;omega
      simp [h1,h2,h3]
theorem xs_gtr(t:TypeId)(a b:ByteArray):binOp .gtr t (.string a) (.string b)=pure (.bool (Op.bytesLess b.toList a.toList)):=by
  rw [xs_tri a.toList b.toList];simp [binOp,Op.stringOp]
theorem xs_leq(t:TypeId)(a b:ByteArray):binOp .leq t (.string a) (.string b)=pure (.bool (!Op.bytesLess b.toList a.toList)):=by
  rw [xs_tri a.toList b.toList];simp [binOp,Op.stringOp]
theorem xs_geq(t:TypeId)(a b:ByteArray):binOp .geq t (.string a) (.string b)=pure (.bool (!Op.bytesLess a.toList b.toList)):=by
  simp [binOp,Op.stringOp]
/-- A call of a function that a slot holds, as a step of a region. -/
theorem goesV_ {P : Program} {ops : Array Oper} {Q : Exit → Act → World → Prop} {oi : Oper} {N : Option Tmp} {a : Act} {w : World} {K : Act → World → Prop} {f : FuncId} {fn : Func} {as_ : Array Operand} {ts : Array TypeId} {t : Tmp} (hf : P.funcs[f]? = some fn) (hname : (fn.name == "runtime.NumGoroutine") = false) (hb : fn.body.isSome = true) (args : Array Value)
    (hw:Region.wanted oi (yielded ops a.tmps)=true) (hN:oi.dst=N) (hop:oi.op=.call { callee:=.value (.tmp t),args:=as_,argTypes:=ts }) (hv:a.eval (.tmp t)=.func (.func f) #[] #[]) (hargs:as_.map a.eval=args)
    (h:Calls P f args w fun e w'=>∃ v,e=.returned v∧K (a.put N v) w'):if Region.wanted oi (yielded ops a.tmps)=true then Oper.wp P oi a w K Q else K (a.put N undef) w:=by
  refine call_ f args hw hN ?_ h;have he:=enters_ hf hname hb args w;unfold execOp;simp [hop,resolve,Deferred.ofValue,invoke,hv,hargs,he]
/-- The same in a plain region, as an arm of go_wp2_with. -/
theorem goesLV_ {P : Program} {ops : Array Oper} {Q : Exit → Act → World → Prop} {rest : List Oper} {oi : Oper} {a : Act} {w : World} (N : Option Tmp) (hd : oi.dst = N) (hg : oi.guard = none) {f : FuncId} {fn : Func} {as_ : Array Operand} {ts : Array TypeId} {t : Tmp} (hf : P.funcs[f]? = some fn) (hname : (fn.name == "runtime.NumGoroutine") = false) (hb : fn.body.isSome = true) (args : Array Value)
    (hop:oi.op=.call { callee:=.value (.tmp t),args:=as_,argTypes:=ts }) (hv:a.eval (.tmp t)=.func (.func f) #[] #[]) (hargs:as_.map a.eval=args)
    (h:Calls P f args w fun e w'=>∃ v,e=.returned v∧wpList P ops Q rest (a.put N v) w'):wpList P ops Q (oi::rest) a w:=by
  refine wpList_plain hg fun K hK=>?_
  have he:=enters_ hf hname hb args w
  have hrun:(execOp a.eval oi).run P w=.ok (.enter f args) w:=by
    unfold execOp;simp [hop,resolve,Deferred.ofValue,invoke,hv,hargs,he]
  unfold Oper.wp;rw [hrun,Oper.upon_enter]
  refine h.mono fun e w'' hh=>?_
  obtain⟨v,rfl,hk⟩:=hh;subst hd;exact hK _ _ hk
theorem nf_:¬ (false=true):=by decide
theorem eqT_{α:Type}[BEq α][LawfulBEq α]{a b:α}(h:a=b):(a==b)=true∧(a !=b)=false:=⟨beq_iff_eq.mpr h,bne_eq_false_iff_eq.mpr h⟩
theorem eqF_{α:Type}[BEq α][LawfulBEq α]{a b:α}(h:¬ a=b):(a==b)=false∧(a !=b)=true:=⟨beq_eq_false_iff_ne.mpr h,bne_iff_ne.mpr h⟩
theorem as2_{p0 p1:Prop}(h0:p0)(h1:p1):Aside0 p0∧Aside0 p1:=⟨⟨h0⟩,⟨h1⟩⟩
theorem as3_{p0 p1 p2:Prop}(h0:p0)(h1:p1)(h2:p2):Aside0 p0∧Aside0 p1∧Aside0 p2:=⟨⟨h0⟩,⟨h1⟩,⟨h2⟩⟩
theorem as4_{p0 p1 p2 p3:Prop}(h0:p0)(h1:p1)(h2:p2)(h3:p3):Aside0 p0∧Aside0 p1∧Aside0 p2∧Aside0 p3:=⟨⟨h0⟩,⟨h1⟩,⟨h2⟩,⟨h3⟩⟩
theorem as5_{p0 p1 p2 p3 p4:Prop}(h0:p0)(h1:p1)(h2:p2)(h3:p3)(h4:p4):Aside0 p0∧Aside0 p1∧Aside0 p2∧Aside0 p3∧Aside0 p4:=⟨⟨h0⟩,⟨h1⟩,⟨h2⟩,⟨h3⟩,⟨h4⟩⟩
theorem as6_{p0 p1 p2 p3 p4 p5:Prop}(h0:p0)(h1:p1)(h2:p2)(h3:p3)(h4:p4)(h5:p5):Aside0 p0∧Aside0 p1∧Aside0 p2∧Aside0 p3∧Aside0 p4∧Aside0 p5:=⟨⟨h0⟩,⟨h1⟩,⟨h2⟩,⟨h3⟩,⟨h4⟩,⟨h5⟩⟩
theorem as7_{p0 p1 p2 p3 p4 p5 p6:Prop}(h0:p0)(h1:p1)(h2:p2)(h3:p3)(h4:p4)(h5:p5)(h6:p6):Aside0 p0∧Aside0 p1∧Aside0 p2∧Aside0 p3∧Aside0 p4∧Aside0 p5∧Aside0 p6:=⟨⟨h0⟩,⟨h1⟩,⟨h2⟩,⟨h3⟩,⟨h4⟩,⟨h5⟩,⟨h6⟩⟩
theorem as8_{p0 p1 p2 p3 p4 p5 p6 p7:Prop}(h0:p0)(h1:p1)(h2:p2)(h3:p3)(h4:p4)(h5:p5)(h6:p6)(h7:p7):Aside0 p0∧Aside0 p1∧Aside0 p2∧Aside0 p3∧Aside0 p4∧Aside0 p5∧Aside0 p6∧Aside0 p7:=⟨⟨h0⟩,⟨h1⟩,⟨h2⟩,⟨h3⟩,⟨h4⟩,⟨h5⟩,⟨h6⟩,⟨h7⟩⟩
theorem as9_{p0 p1 p2 p3 p4 p5 p6 p7 p8:Prop}(h0:p0)(h1:p1)(h2:p2)(h3:p3)(h4:p4)(h5:p5)(h6:p6)(h7:p7)(h8:p8):Aside0 p0∧Aside0 p1∧Aside0 p2∧Aside0 p3∧Aside0 p4∧Aside0 p5∧Aside0 p6∧Aside0 p7∧Aside0 p8:=⟨⟨h0⟩,⟨h1⟩,⟨h2⟩,⟨h3⟩,⟨h4⟩,⟨h5⟩,⟨h6⟩,⟨h7⟩,⟨h8⟩⟩
theorem as10_{p0 p1 p2 p3 p4 p5 p6 p7 p8 p9:Prop}(h0:p0)(h1:p1)(h2:p2)(h3:p3)(h4:p4)(h5:p5)(h6:p6)(h7:p7)(h8:p8)(h9:p9):Aside0 p0∧Aside0 p1∧Aside0 p2∧Aside0 p3∧Aside0 p4∧Aside0 p5∧Aside0 p6∧Aside0 p7∧Aside0 p8∧Aside0 p9:=⟨⟨h0⟩,⟨h1⟩,⟨h2⟩,⟨h3⟩,⟨h4⟩,⟨h5⟩,⟨h6⟩,⟨h7⟩,⟨h8⟩,⟨h9⟩⟩
theorem as11_{p0 p1 p2 p3 p4 p5 p6 p7 p8 p9 p10:Prop}(h0:p0)(h1:p1)(h2:p2)(h3:p3)(h4:p4)(h5:p5)(h6:p6)(h7:p7)(h8:p8)(h9:p9)(h10:p10):Aside0 p0∧Aside0 p1∧Aside0 p2∧Aside0 p3∧Aside0 p4∧Aside0 p5∧Aside0 p6∧Aside0 p7∧Aside0 p8∧Aside0 p9∧Aside0 p10:=⟨⟨h0⟩,⟨h1⟩,⟨h2⟩,⟨h3⟩,⟨h4⟩,⟨h5⟩,⟨h6⟩,⟨h7⟩,⟨h8⟩,⟨h9⟩,⟨h10⟩⟩
theorem as12_{p0 p1 p2 p3 p4 p5 p6 p7 p8 p9 p10 p11:Prop}(h0:p0)(h1:p1)(h2:p2)(h3:p3)(h4:p4)(h5:p5)(h6:p6)(h7:p7)(h8:p8)(h9:p9)(h10:p10)(h11:p11):Aside0 p0∧Aside0 p1∧Aside0 p2∧Aside0 p3∧Aside0 p4∧Aside0 p5∧Aside0 p6∧Aside0 p7∧Aside0 p8∧Aside0 p9∧Aside0 p10∧Aside0 p11:=⟨⟨h0⟩,⟨h1⟩,⟨h2⟩,⟨h3⟩,⟨h4⟩,⟨h5⟩,⟨h6⟩,⟨h7⟩,⟨h8⟩,⟨h9⟩,⟨h10⟩,⟨h11⟩⟩
theorem as13_{p0 p1 p2 p3 p4 p5 p6 p7 p8 p9 p10 p11 p12:Prop}(h0:p0)(h1:p1)(h2:p2)(h3:p3)(h4:p4)(h5:p5)(h6:p6)(h7:p7)(h8:p8)(h9:p9)(h10:p10)(h11:p11)(h12:p12):Aside0 p0∧Aside0 p1∧Aside0 p2∧Aside0 p3∧Aside0 p4∧Aside0 p5∧Aside0 p6∧Aside0 p7∧Aside0 p8∧Aside0 p9∧Aside0 p10∧Aside0 p11∧Aside0 p12:=⟨⟨h0⟩,⟨h1⟩,⟨h2⟩,⟨h3⟩,⟨h4⟩,⟨h5⟩,⟨h6⟩,⟨h7⟩,⟨h8⟩,⟨h9⟩,⟨h10⟩,⟨h11⟩,⟨h12⟩⟩
theorem as14_{p0 p1 p2 p3 p4 p5 p6 p7 p8 p9 p10 p11 p12 p13:Prop}(h0:p0)(h1:p1)(h2:p2)(h3:p3)(h4:p4)(h5:p5)(h6:p6)(h7:p7)(h8:p8)(h9:p9)(h10:p10)(h11:p11)(h12:p12)(h13:p13):Aside0 p0∧Aside0 p1∧Aside0 p2∧Aside0 p3∧Aside0 p4∧Aside0 p5∧Aside0 p6∧Aside0 p7∧Aside0 p8∧Aside0 p9∧Aside0 p10∧Aside0 p11∧Aside0 p12∧Aside0 p13:=⟨⟨h0⟩,⟨h1⟩,⟨h2⟩,⟨h3⟩,⟨h4⟩,⟨h5⟩,⟨h6⟩,⟨h7⟩,⟨h8⟩,⟨h9⟩,⟨h10⟩,⟨h11⟩,⟨h12⟩,⟨h13⟩⟩
theorem as15_{p0 p1 p2 p3 p4 p5 p6 p7 p8 p9 p10 p11 p12 p13 p14:Prop}(h0:p0)(h1:p1)(h2:p2)(h3:p3)(h4:p4)(h5:p5)(h6:p6)(h7:p7)(h8:p8)(h9:p9)(h10:p10)(h11:p11)(h12:p12)(h13:p13)(h14:p14):Aside0 p0∧Aside0 p1∧Aside0 p2∧Aside0 p3∧Aside0 p4∧Aside0 p5∧Aside0 p6∧Aside0 p7∧Aside0 p8∧Aside0 p9∧Aside0 p10∧Aside0 p11∧Aside0 p12∧Aside0 p13∧Aside0 p14:=⟨⟨h0⟩,⟨h1⟩,⟨h2⟩,⟨h3⟩,⟨h4⟩,⟨h5⟩,⟨h6⟩,⟨h7⟩,⟨h8⟩,⟨h9⟩,⟨h10⟩,⟨h11⟩,⟨h12⟩,⟨h13⟩,⟨h14⟩⟩
theorem as16_{p0 p1 p2 p3 p4 p5 p6 p7 p8 p9 p10 p11 p12 p13 p14 p15:Prop}(h0:p0)(h1:p1)(h2:p2)(h3:p3)(h4:p4)(h5:p5)(h6:p6)(h7:p7)(h8:p8)(h9:p9)(h10:p10)(h11:p11)(h12:p12)(h13:p13)(h14:p14)(h15:p15):Aside0 p0∧Aside0 p1∧Aside0 p2∧Aside0 p3∧Aside0 p4∧Aside0 p5∧Aside0 p6∧Aside0 p7∧Aside0 p8∧Aside0 p9∧Aside0 p10∧Aside0 p11∧Aside0 p12∧Aside0 p13∧Aside0 p14∧Aside0 p15:=⟨⟨h0⟩,⟨h1⟩,⟨h2⟩,⟨h3⟩,⟨h4⟩,⟨h5⟩,⟨h6⟩,⟨h7⟩,⟨h8⟩,⟨h9⟩,⟨h10⟩,⟨h11⟩,⟨h12⟩,⟨h13⟩,⟨h14⟩,⟨h15⟩⟩
-- the steps of a region in one line
theorem bl_{p:Prop}(h:p:=by repeat(first|(with_reducible first|exact HB.out|apply below_alloc|apply pw_below_drewN|apply below_drew1)|exact HB.out)):p:=h
theorem mp_{p:Prop}(h:p:=by(try simp only [List.map_toArray,List.map_cons,List.map_nil]);first|done|rfl|(simp only [List.length_drop,List.length_take];rfl)):p:=h
theorem as_{p:Prop}(h:p:=by first|(with_reducible assumption)|assumption):p:=h
theorem er_{p:Prop}(h:p:=by first|rfl|(simp [errW_none,errW_some] <;> rfl)|(simp [*,errW_none,errW_some] <;> rfl)):p:=h
theorem cz1_{w:World}{g:Nat}{t:TypeId}{a0:Value}(h:w.heap[g]?=some (.cells #[a0] t (0,0))):w.cell? ⟨g,0,none⟩=some a0∧w.frozen? ⟨g,0,none⟩=false:=⟨(blk_cell h 0).trans rfl,blk_frozen h 0⟩
theorem cz2_{w:World}{g:Nat}{t:TypeId}{a0 a1:Value}(h:w.heap[g]?=some (.cells #[a0,a1] t (0,0))):w.cell? ⟨g,0,none⟩=some a0∧w.cell? ⟨g,1,none⟩=some a1∧w.frozen? ⟨g,0,none⟩=false∧w.frozen? ⟨g,1,none⟩=false:=⟨(blk_cell h 0).trans rfl,(blk_cell h 1).trans rfl,blk_frozen h 0,blk_frozen h 1⟩
theorem cz3_{w:World}{g:Nat}{t:TypeId}{a0 a1 a2:Value}(h:w.heap[g]?=some (.cells #[a0,a1,a2] t (0,0))):w.cell? ⟨g,0,none⟩=some a0∧w.cell? ⟨g,1,none⟩=some a1∧w.cell? ⟨g,2,none⟩=some a2∧w.frozen? ⟨g,0,none⟩=false∧w.frozen? ⟨g,1,none⟩=false∧w.frozen? ⟨g,2,none⟩=false:=⟨(blk_cell h 0).trans rfl,(blk_cell h 1).trans rfl,(blk_cell h 2).trans rfl,blk_frozen h 0,blk_frozen h 1,blk_frozen h 2⟩
theorem cz4_{w:World}{g:Nat}{t:TypeId}{a0 a1 a2 a3:Value}(h:w.heap[g]?=some (.cells #[a0,a1,a2,a3] t (0,0))):w.cell? ⟨g,0,none⟩=some a0∧w.cell? ⟨g,1,none⟩=some a1∧w.cell? ⟨g,2,none⟩=some a2∧w.cell? ⟨g,3,none⟩=some a3∧w.frozen? ⟨g,0,none⟩=false∧w.frozen? ⟨g,1,none⟩=false∧w.frozen? ⟨g,2,none⟩=false∧w.frozen? ⟨g,3,none⟩=false:=⟨(blk_cell h 0).trans rfl,(blk_cell h 1).trans rfl,(blk_cell h 2).trans rfl,(blk_cell h 3).trans rfl,blk_frozen h 0,blk_frozen h 1,blk_frozen h 2,blk_frozen h 3⟩
theorem cz5_{w:World}{g:Nat}{t:TypeId}{a0 a1 a2 a3 a4:Value}(h:w.heap[g]?=some (.cells #[a0,a1,a2,a3,a4] t (0,0))):w.cell? ⟨g,0,none⟩=some a0∧w.cell? ⟨g,1,none⟩=some a1∧w.cell? ⟨g,2,none⟩=some a2∧w.cell? ⟨g,3,none⟩=some a3∧w.cell? ⟨g,4,none⟩=some a4∧w.frozen? ⟨g,0,none⟩=false∧w.frozen? ⟨g,1,none⟩=false∧w.frozen? ⟨g,2,none⟩=false∧w.frozen? ⟨g,3,none⟩=false∧w.frozen? ⟨g,4,none⟩=false:=⟨(blk_cell h 0).trans rfl,(blk_cell h 1).trans rfl,(blk_cell h 2).trans rfl,(blk_cell h 3).trans rfl,(blk_cell h 4).trans rfl,blk_frozen h 0,blk_frozen h 1,blk_frozen h 2,blk_frozen h 3,blk_frozen h 4⟩
theorem cz6_{w:World}{g:Nat}{t:TypeId}{a0 a1 a2 a3 a4 a5:Value}(h:w.heap[g]?=some (.cells #[a0,a1,a2,a3,a4,a5] t (0,0))):w.cell? ⟨g,0,none⟩=some a0∧w.cell? ⟨g,1,none⟩=some a1∧w.cell? ⟨g,2,none⟩=some a2∧w.cell? ⟨g,3,none⟩=some a3∧w.cell? ⟨g,4,none⟩=some a4∧w.cell? ⟨g,5,none⟩=some a5∧w.frozen? ⟨g,0,none⟩=false∧w.frozen? ⟨g,1,none⟩=false∧w.frozen? ⟨g,2,none⟩=false∧w.frozen? ⟨g,3,none⟩=false∧w.frozen? ⟨g,4,none⟩=false∧w.frozen? ⟨g,5,none⟩=false:=⟨(blk_cell h 0).trans rfl,(blk_cell h 1).trans rfl,(blk_cell h 2).trans rfl,(blk_cell h 3).trans rfl,(blk_cell h 4).trans rfl,(blk_cell h 5).trans rfl,blk_frozen h 0,blk_frozen h 1,blk_frozen h 2,blk_frozen h 3,blk_frozen h 4,blk_frozen h 5⟩
theorem cz7_{w:World}{g:Nat}{t:TypeId}{a0 a1 a2 a3 a4 a5 a6:Value}(h:w.heap[g]?=some (.cells #[a0,a1,a2,a3,a4,a5,a6] t (0,0))):w.cell? ⟨g,0,none⟩=some a0∧w.cell? ⟨g,1,none⟩=some a1∧w.cell? ⟨g,2,none⟩=some a2∧w.cell? ⟨g,3,none⟩=some a3∧w.cell? ⟨g,4,none⟩=some a4∧w.cell? ⟨g,5,none⟩=some a5∧w.cell? ⟨g,6,none⟩=some a6∧w.frozen? ⟨g,0,none⟩=false∧w.frozen? ⟨g,1,none⟩=false∧w.frozen? ⟨g,2,none⟩=false∧w.frozen? ⟨g,3,none⟩=false∧w.frozen? ⟨g,4,none⟩=false∧w.frozen? ⟨g,5,none⟩=false∧w.frozen? ⟨g,6,none⟩=false:=⟨(blk_cell h 0).trans rfl,(blk_cell h 1).trans rfl,(blk_cell h 2).trans rfl,(blk_cell h 3).trans rfl,(blk_cell h 4).trans rfl,(blk_cell h 5).trans rfl,(blk_cell h 6).trans rfl,blk_frozen h 0,blk_frozen h 1,blk_frozen h 2,blk_frozen h 3,blk_frozen h 4,blk_frozen h 5,blk_frozen h 6⟩
theorem fr_{p:Prop}(h:p:=by first|rfl|(simp;done)|(simp [*];done)):p:=h
section
variable {P:Program} {ops:Array Oper} {Q:Exit→Act→World→Prop} {md:Region.Mode} {S:World→Prop} {ds:List Nat}
theorem pu_(i d:Nat){oi:Oper}{v:Value}{fuel:Nat}{l l':Array Bool}{a a':Act}{w:World}(h:wpAnyLast P md ops Q S ds fuel l' a' w)(hi:ops[i]?=some oi:=by exact rfl)(hN:oi.dst=some d:=by exact rfl)
    (hl:l.setIfInBounds i true=l':=by(simp only [List.setIfInBounds_toArray,List.set_cons_zero,List.set_cons_succ];rfl)) (hc:anyB md ops l l' i=true:=by exact any_of HT_.out (by kernel_rfl)) (hy:Yields P ops oi v a:=by exact Or.inl ⟨by rfl,by(intro w';go_simp;with_reducible rfl)⟩)
    (ha:a.put (some d) v=a':=by(simp only [Act.put,List.setIfInBounds_toArray,List.set_cons_zero,List.set_cons_succ,i64_w,i32_w];rfl)) (hQ:∀ c a w,Q (.panic c) (a.put oi.dst v) w→Q (.panic c) a w:=by exact fun _ _ _ h=>h):wpAnyLast P md ops Q S ds (fuel+1) l a w:=pure_ l' hi hN hc hQ hy ha h
theorem pn_(i d:Nat){oi:Oper}{fuel:Nat}{l l':Array Bool}{a a':Act}{w:World}(h:wpAnyLast P md ops Q S ds fuel l' a' w)(hi:ops[i]?=some oi:=by exact rfl)(hN:oi.dst=some d:=by exact rfl)
    (hl:l.setIfInBounds i true=l':=by(simp only [List.setIfInBounds_toArray,List.set_cons_zero,List.set_cons_succ];rfl)) (hc:anyB md ops l l' i=true:=by exact any_of HT_.out (by kernel_rfl)) (hy:Yields P ops oi undef a:=by exact Or.inr ⟨by rfl,rfl⟩)
    (ha:a.put (some d) undef=a':=by(simp only [Act.put,List.setIfInBounds_toArray,List.set_cons_zero,List.set_cons_succ,i64_w,i32_w];rfl)) (hQ:∀ c a w,Q (.panic c) (a.put oi.dst undef) w→Q (.panic c) a w:=by exact fun _ _ _ h=>h):wpAnyLast P md ops Q S ds (fuel+1) l a w:=pure_ l' hi hN hc hQ hy ha h
theorem tk_(i d:Nat){oi:Oper}{v:Value}{fuel:Nat}{l l':Array Bool}{a a':Act}{w:World}(h:wpAnyLast P md ops Q S ds fuel l' a' w)(hi:ops[i]?=some oi:=by exact rfl)(hN:oi.dst=some d:=by exact rfl)
    (hl:l.setIfInBounds i true=l':=by(simp only [List.setIfInBounds_toArray,List.set_cons_zero,List.set_cons_succ];rfl)) (hc:takeB md ops ds l l' i=true:=by exact take_ofW HT_.out HW_.out (by kernel_rfl)) (hy:YieldsIf P ops S oi v a:=by exact Or.inl ⟨by rfl,by(intro w' s_;(repeat(have r_:=And.left s_;replace s_:=And.right s_));go_simp;with_reducible rfl)⟩)
    (ha:a.put (some d) v=a':=by(simp only [Act.put,List.setIfInBounds_toArray,List.set_cons_zero,List.set_cons_succ,i64_w,i32_w];rfl)) (hQ:∀ c a w,Q (.panic c) (a.put oi.dst v) w→Q (.panic c) a w:=by exact fun _ _ _ h=>h) (hS:S w:=by exact hHeld):wpAnyLast P md ops Q S ds (fuel+1) l a w:=take_ l' hi hN hc hQ hy hS ha h
end
end Go.Proofs.YtnoangbidnigdaaDoor.H

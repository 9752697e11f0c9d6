/- Printed (xprint.py): Go functions as Lean functions, each with the proof that its call does what the Lean function says. -/
import Derived.Test.YtnoangbidnigdaaDoorH0
import Derived.Stop.Asserts
namespace Go.Proofs.YtnoangbidnigdaaDoor.H
open Go.RowKit Go.Proofs.YtnoangbidnigdaaDoorW.PrintWords Go.Proofs.YtnoangbidnigdaaDoorW.PrintLast Go.Proofs.YtnoangbidnigdaaDoorW.PrintMore
attribute [local go_sem] max2_int min2_int max_two min_two max_three min_three max_four min_four   -- for this text's walks alone
set_option linter.unusedVariables false
set_option linter.unusedSimpArgs false
/-! ### errors_As: function 38 -/
--EXT errors_As
def errors_As.f(a0:Option Int)(a1:Int):Option Int:=a0
/-! What package reflectlite's entries give at this program's types: Errno, *Errno, error, reflectlite's handle. -/
theorem as_valueOfP(t:Addr)(w:World):(Extern.ReflectliteValue.unpack (.iface 74 (.pointer (some t)))).run Tryd.prog w
    = .ok (.agg #[.pointer (some ⟨6,74,none⟩),.pointer (some ⟨w.heap.size,0,none⟩),.int .u64 150]) (w.alloc (.cells #[.pointer (some t)] 74)):=by kernel_rfl
theorem as_typeP (a : Addr) (w : World) : (Extern.ReflectliteValue.methodAny (Extern.ReflectliteValue.valueError "reflectlite.Value.Type" 0) (fun t _ _ _ => Extern.ReflectliteType.toType t) #[.agg #[.pointer (some ⟨6, 74, none⟩), .pointer (some a), .int .u64 150]]).run Tryd.prog w
    = .ok (.iface 114 (.agg #[.pointer (some ⟨6,74,none⟩)])) w:=by kernel_rfl
theorem as_methodKind (h : Value) (w : World) : (Go.method 275 114 (.agg #[h]) "Kind").run Tryd.prog w = .ok (117, h) w := by kernel_rfl
def asKind:TypeId→Sem Value:=fun t=>do pure (.int .u8 (← Extern.Rtype.kind t))
theorem as_kindP(w:World):((Extern.ReflectliteType.abiMethod asKind) #[.pointer (some ⟨6,74,none⟩)]).run Tryd.prog w=.ok (.int .u8 22) w:=by kernel_rfl
theorem as_kindE(w:World):((Extern.ReflectliteType.abiMethod asKind) #[.pointer (some ⟨6,29,none⟩)]).run Tryd.prog w=.ok (.int .u8 2) w:=by kernel_rfl
theorem as_method(z:Sem Value)(f:TypeId→Addr→Nat→Nat→Sem Value)(v:Value) :
    Extern.ReflectliteValue.method z f #[v]=(do match ← Extern.ReflectliteValue.parts v with|none=>z|some (t,a,fl)=>f t a fl (fl % 32)):=rfl
theorem as_partsP(a:Addr)(w:World):(Extern.ReflectliteValue.parts (.agg #[.pointer (some ⟨6,74,none⟩),.pointer (some a),.int .u64 150])).run Tryd.prog w=.ok (some (74,a,150)) w:=by kernel_rfl
theorem as_isNilP(a p:Addr)(W:World)(ha:W.cell? a=some (.pointer (some p))) :
    (Extern.ReflectliteValue.method (Extern.ReflectliteValue.valueError "reflectlite.Value.IsNil" 0) Extern.ReflectliteValue.isNil #[.agg #[.pointer (some ⟨6, 74, none⟩), .pointer (some a), .int .u64 150]]).run Tryd.prog W = .ok (.bool false) W := by
  rw [as_method];simp only [Sem.run_bind,as_partsP,Result.andThen];simp [Extern.ReflectliteValue.isNil,loadVar,isAgg,underlying,Tryd.underlying74,ha,Result.andThen]
theorem as_methodElem (h : Value) (w : World) : (Go.method 275 114 (.agg #[h]) "Elem").run Tryd.prog w = .ok (128, .agg #[h]) w := by kernel_rfl
theorem as_methodImplements (h : Value) (w : World) : (Go.method 275 114 (.agg #[h]) "Implements").run Tryd.prog w = .ok (129, .agg #[h]) w := by kernel_rfl
theorem as_methodAssignableTo (h : Value) (w : World) : (Go.method 275 114 (.agg #[h]) "AssignableTo").run Tryd.prog w = .ok (126, .agg #[h]) w := by kernel_rfl
theorem as_elemP(w:World):(Extern.ReflectliteType.method Extern.ReflectliteType.elem #[.agg #[.pointer (some ⟨6,74,none⟩)]]).run Tryd.prog w=.ok (.iface 114 (.agg #[.pointer (some ⟨6,29,none⟩)])) w:=by kernel_rfl
theorem as_implementsE (w : World) : (Extern.ReflectliteType.relation "Implements" Extern.ReflectliteType.implements_ #[.agg #[.pointer (some ⟨6, 29, none⟩)], .iface 114 (.agg #[.pointer (some ⟨6, 61, none⟩)])]).run Tryd.prog w = .ok (.bool true) w := by kernel_rfl
theorem as_typeOfE(v:Value)(w:World):(Extern.ReflectliteType.typeOf #[.iface 29 v]).run Tryd.prog w=.ok (.iface 114 (.agg #[.pointer (some ⟨6,29,none⟩)])) w:=by kernel_rfl
theorem as_assignableE (w : World) : (Extern.ReflectliteType.relation "AssignableTo" Extern.ReflectliteType.assignableTo #[.agg #[.pointer (some ⟨6, 29, none⟩)], .iface 114 (.agg #[.pointer (some ⟨6, 29, none⟩)])]).run Tryd.prog w = .ok (.bool true) w := by kernel_rfl
theorem as_valueOfE(c:Int)(w:World):(Extern.ReflectliteValue.unpack (.iface 29 (.int .i64 c))).run Tryd.prog w
    = .ok (.agg #[.pointer (some ⟨6,29,none⟩),.pointer (some ⟨w.heap.size,0,none⟩),.int .u64 130]) (w.alloc (.cells #[.int .i64 c] 29)):=by kernel_rfl
theorem as_elemOfP(w:World):(Extern.Rtype.elem? 74).run Tryd.prog w=.ok (some 29) w:=by kernel_rfl
theorem as_mkE(p:Addr)(w:World):(Extern.ReflectliteValue.mk 29 p Extern.ReflectliteValue.flagAddr).run Tryd.prog w=.ok (.agg #[.pointer (some ⟨6,29,none⟩),.pointer (some p),.int .u64 386]) w:=by kernel_rfl
theorem as_elemVP(a p:Addr)(W:World)(ha:W.cell? a=some (.pointer (some p))) :
    (Extern.ReflectliteValue.method (Extern.ReflectliteValue.valueError "reflectlite.Value.Elem" 0) Extern.ReflectliteValue.elem #[.agg #[.pointer (some ⟨6, 74, none⟩), .pointer (some a), .int .u64 150]]).run Tryd.prog W
      = .ok (.agg #[.pointer (some ⟨6,29,none⟩),.pointer (some p),.int .u64 386]) W:=by
  rw [as_method];simp only [Sem.run_bind,as_partsP,Result.andThen];simp [Extern.ReflectliteValue.elem,loadVar,isAgg,underlying,Tryd.underlying74,ha,Result.andThen,as_elemOfP,as_mkE]
theorem as_set(v x:Value):Extern.ReflectliteValue.set #[v,x]=(do
    let (some (dst,a,fl),some (src,b,_)):=(← Extern.ReflectliteValue.parts v,← Extern.ReflectliteValue.parts x)
      | unsupported (.noEntry "extern/(internal/reflectlite.Value).Set.zeroValue")
    if fl / Extern.ReflectliteValue.flagAddr % 2 == 0 then unsupported (.noEntry "extern/(internal/reflectlite.Value).Set.unaddressable")
    let val ← loadVar src b
    if ← Extern.Rtype.directlyAssignable dst src then storeVar dst a val
    else if ← Extern.Rtype.implements dst src then
      if (← Extern.Rtype.kind src)==20 then
        match val with
        | .nilIface => unsupported (.noEntry "extern/reflectlite: a nil value of one interface type handed on as a value of another")
        |_=>storeVar dst a val
      else storeVar dst a (.iface src val)
    else panicString ("reflectlite.Set: value of type " ++ (← Extern.Rtype.spelt src) ++ " is not assignable to type " ++ (← Extern.Rtype.spelt dst))
    pure (.tuple #[])):=rfl
theorem as_partsA(a:Addr)(w:World):(Extern.ReflectliteValue.parts (.agg #[.pointer (some ⟨6,29,none⟩),.pointer (some a),.int .u64 386])).run Tryd.prog w=.ok (some (29,a,386)) w:=by kernel_rfl
theorem as_partsE(a:Addr)(w:World):(Extern.ReflectliteValue.parts (.agg #[.pointer (some ⟨6,29,none⟩),.pointer (some a),.int .u64 130])).run Tryd.prog w=.ok (some (29,a,130)) w:=by kernel_rfl
theorem as_direct(w:World):(Extern.Rtype.directlyAssignable 29 29).run Tryd.prog w=.ok true w:=by kernel_rfl
theorem as_setE(ta b:Addr)(c:Int)(old:Value)(W:World)(hb:W.cell? b=some (.int .i64 c))(ht:W.cell? ta=some old)(hf:W.frozen? ta=false) :
    (Extern.ReflectliteValue.set #[.agg #[.pointer (some ⟨6,29,none⟩),.pointer (some ta),.int .u64 386],.agg #[.pointer (some ⟨6,29,none⟩),.pointer (some b),.int .u64 130]]).run Tryd.prog W
      = .ok (.tuple #[]) (W.setCell ta (.int .i64 c)):=by
  rw [as_set];simp only [Sem.run_bind,as_partsA,as_partsE,Result.andThen];simp [Extern.ReflectliteValue.flagAddr,loadVar,isAgg,underlying,Tryd.underlying29,hb,Result.andThen,as_direct,storeVar,Value.cells,storeCells,Addr.add];rw [run_store Tryd.prog W ta _ _ (by rfl)];simp [ht,hf]
set_option maxHeartbeats 4000000 in
set_option maxRecDepth 100000 in
/-- errors.As, a number of type Errno into a variable of that type. -/
theorem errors_As.hit(c:Int)(t:Addr)(old:Value)(w:World)(hg:w.cell? ⟨1,0,none⟩=some (.iface 114 (.agg #[.pointer (some ⟨6,61,none⟩)])))(ht0:w.cell? t=some old)(hf0:w.frozen? t=false) :
    Calls Tryd.prog 38 #[.iface 29 (.int .i64 c),.iface 74 (.pointer (some t))] w fun ev w'=>ev=.returned (.bool true)∧w'=((((w.alloc (.cells #[.pointer (some t)] 74)).alloc (.cells #[.pointer (some ⟨6,74,none⟩),.pointer (some ⟨w.heap.size,0,none⟩),.int .u64 150] 99)).alloc (.cells #[.pointer (some ⟨6,74,none⟩),.pointer (some ⟨w.heap.size,0,none⟩),.int .u64 150] 99)).alloc (.cells #[.int .i64 c] 29)).setCell t (.int .i64 c):=by
  have h60 := @run_callFunc_extern Tryd.prog 60 _ (fun args => Extern.ReflectliteValue.unpack (args.getD 0 (.tuple #[]))) Tryd.func60 (by kernel_rfl) (by kernel_rfl) (by kernel_rfl) (by kernel_rfl);have h61 := @run_callFunc_extern Tryd.prog 61 _ (Extern.ReflectliteValue.methodAny (Extern.ReflectliteValue.valueError "reflectlite.Value.Type" 0) (fun t _ _ _ => Extern.ReflectliteType.toType t)) Tryd.func61 (by kernel_rfl) (by kernel_rfl) (by kernel_rfl) (by kernel_rfl);have h62 := @run_callFunc_extern Tryd.prog 62 _ (Extern.ReflectliteValue.method (Extern.ReflectliteValue.valueError "reflectlite.Value.IsNil" 0) Extern.ReflectliteValue.isNil) Tryd.func62 (by kernel_rfl) (by kernel_rfl) (by kernel_rfl) (by kernel_rfl);have h117 := @run_callFunc_extern Tryd.prog 117 _ (Extern.ReflectliteType.abiMethod asKind) Tryd.func117 (by kernel_rfl) (by kernel_rfl) (by kernel_rfl) (by kernel_rfl);have h128 := @run_callFunc_extern Tryd.prog 128 _ (Extern.ReflectliteType.method Extern.ReflectliteType.elem) Tryd.func128 (by kernel_rfl) (by kernel_rfl) (by kernel_rfl) (by kernel_rfl);have h129 := @run_callFunc_extern Tryd.prog 129 _ (Extern.ReflectliteType.relation "Implements" Extern.ReflectliteType.implements_) Tryd.func129 (by kernel_rfl) (by kernel_rfl) (by kernel_rfl) (by kernel_rfl);have h58 := @run_callFunc_extern Tryd.prog 58 _ Extern.ReflectliteType.typeOf Tryd.func58 (by kernel_rfl) (by kernel_rfl) (by kernel_rfl) (by kernel_rfl);have h126 := @run_callFunc_extern Tryd.prog 126 _ (Extern.ReflectliteType.relation "AssignableTo" Extern.ReflectliteType.assignableTo) Tryd.func126 (by kernel_rfl) (by kernel_rfl) (by kernel_rfl) (by kernel_rfl);have h78 := @run_callFunc_extern Tryd.prog 78 _ (Extern.ReflectliteValue.method (Extern.ReflectliteValue.valueError "reflectlite.Value.Elem" 0) Extern.ReflectliteValue.elem) Tryd.func78 (by kernel_rfl) (by kernel_rfl) (by kernel_rfl) (by kernel_rfl);have h79 := @run_callFunc_extern Tryd.prog 79 _ Extern.ReflectliteValue.set Tryd.func79 (by kernel_rfl) (by kernel_rfl) (by kernel_rfl) (by kernel_rfl);have tO := as_typeOfE;have mA := as_methodAssignableTo;have aE := as_assignableE;have vE := as_valueOfE;have f6 := as_valueOfP;have f7 := as_typeP;have mK := as_methodKind;have mE := as_methodElem;have mI := as_methodImplements;have kP := as_kindP;have kE := as_kindE;have eP := as_elemP;have iE := as_implementsE;have n8 := as_isNilP ⟨w.heap.size, 0, none⟩ t ((w.alloc (.cells #[.pointer (some t)] 74)).alloc (.cells #[.pointer (some ⟨6, 74, none⟩), .pointer (some ⟨w.heap.size, 0, none⟩), .int .u64 150] 99)) (by simp);have hlt : 1 < w.heap.size := World.block_lt_of_cell? w _ hg
  have hg2:((w.alloc (.cells #[.pointer (some t)] 74)).alloc (.cells #[.pointer (some ⟨6,74,none⟩),.pointer (some ⟨w.heap.size,0,none⟩),.int .u64 150] 99)).cell? ⟨1,0,none⟩=some (.iface 114 (.agg #[.pointer (some ⟨6,61,none⟩)])):=by
    rw [World.cell?_alloc_lt _ _ ⟨1,0,none⟩ (by simp;omega),World.cell?_alloc_lt _ _ ⟨1,0,none⟩ hlt];exact hg
  have htl:t.block<w.heap.size:=World.block_lt_of_cell? w _ ht0;have el:=as_elemVP ⟨w.heap.size,0,none⟩ t (((w.alloc (.cells #[.pointer (some t)] 74)).alloc (.cells #[.pointer (some ⟨6,74,none⟩),.pointer (some ⟨w.heap.size,0,none⟩),.int .u64 150] 99)).alloc (.cells #[.pointer (some ⟨6,74,none⟩),.pointer (some ⟨w.heap.size,0,none⟩),.int .u64 150] 99)) (by rw [World.cell?_alloc_lt _ _ ⟨w.heap.size,0,none⟩ (by simp;omega)];simp)
  have st:=as_setE t ⟨w.heap.size+1+1+1,0,none⟩ c old ((((w.alloc (.cells #[.pointer (some t)] 74)).alloc (.cells #[.pointer (some ⟨6,74,none⟩),.pointer (some ⟨w.heap.size,0,none⟩),.int .u64 150] 99)).alloc (.cells #[.pointer (some ⟨6,74,none⟩),.pointer (some ⟨w.heap.size,0,none⟩),.int .u64 150] 99)).alloc (.cells #[.int .i64 c] 29))
    (by rw [World.cell?_alloc_at _ _ _ _ (by simp)];rfl)
    (by rw [World.cell?_alloc_lt _ _ t (by simp;omega),World.cell?_alloc_lt _ _ t (by simp;omega),World.cell?_alloc_lt _ _ t (by simp;omega),World.cell?_alloc_lt _ _ t htl];exact ht0)
    (by rw [World.frozen?_alloc_old _ _ t (by simp;omega),World.frozen?_alloc_old _ _ t (by simp;omega),World.frozen?_alloc_old _ _ t (by simp;omega),World.frozen?_alloc_old _ _ t (Nat.ne_of_lt htl)];exact hf0)
  go_enter Tryd.func38,Tryd.ntmps38;go_wp2;refine wp_loop_rounds 1 ?_;rw [rounds_succ];go_wp2;go_ret;exact⟨rfl,rfl⟩
theorem errors_As.calls(a0:Option Int)(a1:Int)(r:Int)(w:World)(h:errors_As.f a0 a1=some r)(t:Nat)(hgh:Gh w)(hc:w.cell? ⟨t,0,none⟩=some (.int .i64 a1))(hf:w.frozen? ⟨t,0,none⟩=false) :
    Calls Tryd.prog 38 #[errW a0,.iface 74 (.pointer (some ⟨t,0,none⟩))] w fun e w'=>e=.returned (.bool true)∧w'.cell? ⟨t,0,none⟩=some (.int .i64 r)∧∀ N,N≤t→N≤w.heap.size→Below N w w':=by
  cases a0 with
  |none=>cases h
  |some c =>
    obtain rfl:c=r:=Option.some.inj h;refine(errors_As.hit c ⟨t,0,none⟩ (.int .i64 a1) w hgh.et hc hf).mono ?_;rintro e w' ⟨rfl,rfl⟩;have htl:t<w.heap.size:=World.block_lt_of_cell? w _ hc;refine⟨rfl,?_,fun N h1 h2=>?_⟩
    · refine World.cell?_setCell_same _ _ _ (u:=.int .i64 a1) ?_
      rw [World.cell?_alloc_lt _ _ _ (by simp;omega),World.cell?_alloc_lt _ _ _ (by simp;omega),World.cell?_alloc_lt _ _ _ (by simp;omega),World.cell?_alloc_lt _ _ _ htl];exact hc
    · exact Below.setCell (Below.alloc (Below.alloc (Below.alloc (Below.alloc (Below.refl N w) h2 _) (by simp;omega) _) (by simp;omega) _) (by simp;omega) _) h1 _

end Go.Proofs.YtnoangbidnigdaaDoor.H

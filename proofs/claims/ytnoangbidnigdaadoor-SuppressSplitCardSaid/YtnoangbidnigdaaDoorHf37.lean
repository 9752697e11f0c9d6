/- Printed (xprint.py): Go functions as Lean functions, each with the proof that its call does what the Lean function says. -/
import Derived.Test.YtnoangbidnigdaaDoorH0
import Derived.Lib.IfaceEq
import Derived.Stop.Asserts
namespace Go.Proofs.YtnoangbidnigdaaDoor.H
open Go.RowKit Go.Proofs.YtnoangbidnigdaaDoorW.PrintWords Go.Proofs.YtnoangbidnigdaaDoorW.PrintLast Go.Proofs.YtnoangbidnigdaaDoorW.PrintMore
attribute [local go_sem] max2_int min2_int max_two min_two max_three min_three max_four min_four   -- for this text's walks alone
set_option linter.unusedVariables false
set_option linter.unusedSimpArgs false
/-! ### errors_Is: function 37 -/
--EXT errors_Is
theorem is_typeOf(v:Value)(w:World):(Extern.ReflectliteType.typeOf #[.iface 29 v]).run Tryd.prog w=.ok (.iface 114 (.agg #[.pointer (some ⟨6,29,none⟩)])) w:=by kernel_rfl
/-- What the handle's method Comparable does. -/
def isCmp : TypeId → Sem Value := fun t => do Extern.Rtype.noPackHeld "Comparable" t; pure (.bool (← typeInfo t).comparable)
theorem is_comparable(w:World):((Extern.ReflectliteType.method isCmp) #[.agg #[.pointer (some ⟨6,29,none⟩)]]).run Tryd.prog w=.ok (.bool true) w:=by kernel_rfl
theorem is_methodComparable (v : Value) (w : World) : (Go.method 275 114 v "Comparable").run Tryd.prog w = .ok (127, v) w := by kernel_rfl
theorem is_noIs(v:Value)(xT:TypeId)(w:World):(Instr.typeAssert (.iface 29 v) xT 116 true).run Tryd.prog w=.ok (.tuple #[.nilIface,.bool false]) w:=run_typeAssert_lacksB Tryd.underlying116 (by kernel_rfl) (by kernel_rfl) v xT w
theorem is_noUnwrap(v:Value)(xT:TypeId)(w:World):(Instr.typeAssert (.iface 29 v) xT 119 true).run Tryd.prog w=.ok (.tuple #[.nilIface,.bool false]) w:=run_typeAssert_lacksB Tryd.underlying119 (by kernel_rfl) (by kernel_rfl) v xT w
theorem is_noUnwraps(v:Value)(xT:TypeId)(w:World):(Instr.typeAssert (.iface 29 v) xT 121 true).run Tryd.prog w=.ok (.tuple #[.nilIface,.bool false]) w:=run_typeAssert_lacksB Tryd.underlying121 (by kernel_rfl) (by kernel_rfl) v xT w
def errors_Is.f(a0:Option Int)(a1:Option Int):Option Bool:=match a1 with|none=>none|some c=>some (a0==some c)
set_option maxHeartbeats 4000000 in
set_option maxRecDepth 100000 in
theorem errors_Is.calls(a0:Option Int)(a1:Option Int)(r:Bool)(w:World)(h:errors_Is.f a0 a1=some r) :
    Calls Tryd.prog 37 #[errW a0,errW a1] w fun e w'=>e=.returned (.bool r)∧Drawn0 w w':=by
  cases a1 with
  |none=>cases h
  |some c =>
    obtain rfl:=Option.some.inj h;clear h
    cases a0 with
    |none =>
      simp only [errW];have hn:=run_eql_iface_nil_left (P:=Tryd.prog) w 29 (.int .i64 c) Tryd.underlying61;go_enter Tryd.func37,Tryd.ntmps37;go_wp2;go_ret;exact⟨rfl,Drawn0.refl _⟩
    |some a =>
      simp only [errW];have h8:=@run_callFunc_extern Tryd.prog 58 _ Extern.ReflectliteType.typeOf Tryd.func58 (by kernel_rfl) (by kernel_rfl) (by kernel_rfl) (by kernel_rfl);have h32:=@run_callFunc_extern Tryd.prog 127 _ (Extern.ReflectliteType.method isCmp) Tryd.func127 (by kernel_rfl) (by kernel_rfl) (by kernel_rfl) (by kernel_rfl);have tT:=is_typeOf;have cT:=is_comparable;have mR:=is_methodComparable;have nE:=is_noIs;have uE:=is_noUnwrap;have vE:=is_noUnwraps
      have heq:=fun W:World=>Lib.run_eql_iface_int (P:=Tryd.prog) W (k:=.i64) a c Tryd.underlying61 (by kernel_rfl) Tryd.underlying29
      have hs:(some a==some c)=(a==c):=rfl;rw [hs];obtain⟨b,hb⟩:∃ b,(a==c)=b:=⟨_,rfl⟩;rw [hb];simp only [hb] at heq;cases b <;>
      · go_enter Tryd.func37,Tryd.ntmps37
        go_wp2;refine wp_loop_rounds 1 ?_;rw [rounds_succ];go_wp2;go_ret;exact⟨rfl,Drawn0.refl _⟩

end Go.Proofs.YtnoangbidnigdaaDoor.H

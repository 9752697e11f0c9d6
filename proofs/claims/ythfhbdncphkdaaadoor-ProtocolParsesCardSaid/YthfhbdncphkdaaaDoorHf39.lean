/- Printed (xprint.py): Go functions as Lean functions, each with the proof that its call does what the Lean function says. -/
import Derived.Test.YthfhbdncphkdaaaDoorH0
import Derived.Test.YthfhbdncphkdaaaDoorHe
import Derived.Test.YthfhbdncphkdaaaDoorHf65
import Derived.Test.YthfhbdncphkdaaaDoorHf66
import Derived.Test.YthfhbdncphkdaaaDoorHf68
import Derived.Test.YthfhbdncphkdaaaDoorHf69
import Derived.Test.YthfhbdncphkdaaaDoorRefParse
namespace Go.Proofs.YthfhbdncphkdaaaDoor.H
open Go.RowKit Go.Proofs.YthfhbdncphkdaaaDoorW.PrintWords Go.Proofs.YthfhbdncphkdaaaDoorW.PrintLast Go.Proofs.YthfhbdncphkdaaaDoorW.PrintMore
set_option linter.unusedVariables false
set_option linter.unusedSimpArgs false
/-! ### dataflowref39_Parse: function 39 -/
--EXT dataflowref39_Parse
def dataflowref39_Parse.f(k:Nat)(a0:ByteArray):Option (ByteArray × (List ByteArray) × Int × Int × (List (S64)) × Int × Int):=(rparP k a0).map fun x=>(x.1.1,x.1.2.1,x.1.2.2.1,x.1.2.2.2.1,x.1.2.2.2.2,x.2.1,x.2.2)
theorem headP_mono(k i:Nat)(ws:List ByteArray)(p:Pr):LeO (headP k i ws p) (headP (k+1) i ws p) :=
  LeO.bind (dataflowref39_form.mono _ _ _ _) (fun b=>LeO.ite (LeO.ite (LeO.bind (dataflowref39_at.mono _ _ _) (fun _=>LeO.refl _)) (LeO.refl _)) (LeO.refl _))
theorem rlineP_mono(k i:Nat)(e:Bool)(p:Pr)(ws:List ByteArray):LeO (rlineP k i e p ws) (rlineP (k+1) i e p ws) :=
  LeO.ite (LeO.refl _) (LeO.ite (LeO.map _ (headP_mono _ _ _ _)) (LeO.bind (dataflowref39_form.mono _ _ _ _) (fun b=>LeO.ite (LeO.refl _) (LeO.map _ (LeO.map _ (dataflowref39_move.mono _ _ _ _ _ _ _))))))
theorem rparG_mono(k:Nat):∀ (ls:List ByteArray) (i:Nat) (e:Bool) (p:Pr),LeO (rparG k ls i e p) (rparG (k+1) ls i e p):=by
  intro ls
  induction ls with
  |nil=>intro i e p;exact LeO.refl _
  |cons l r ih=>intro i e p;exact LeO.bind (dataflowref39_Words.mono _ _) (fun ws=>LeO.bind (rlineP_mono _ _ _ _ _) (fun x=>LeO.ite (ih _ _ _) (LeO.refl _)))
theorem rparP_mono(k:Nat)(s:ByteArray):LeO (rparP k s) (rparP (k+1) s) :=
  LeO.ite (LeO.refl _) (LeO.bind (dataflowref39_Lines.mono _ _) (fun y=>LeO.ite (LeO.bind (rparG_mono _ _ _ _ _) (fun x=>LeO.ite (LeO.ite (LeO.refl _) (LeO.ite (LeO.refl _) (LeO.bind (dataflowref39_Check.mono _ _ _ _ _ _) (fun _=>LeO.refl _)))) (LeO.refl _))) (LeO.refl _)))
theorem dataflowref39_Parse.mono:∀ a0 k,LeO (dataflowref39_Parse.f k a0) (dataflowref39_Parse.f (k+1) a0):=fun a0 k=>LeO.map _ (rparP_mono k a0)
theorem dataflowref39_Parse.calls(k:Nat)(a0:ByteArray)(r1:ByteArray)(r2:List ByteArray)(r3 r4:Int)(r5:List (S64))(r6 r7:Int)(w:World)(h:dataflowref39_Parse.f k a0=some (r1,r2,r3,r4,r5,r6,r7)) :
    Calls Tryd.prog 39 #[.string a0] w fun e w'=>∃ v1_ v4_:Value,e=.returned (.tuple #[.agg #[.string r1,v1_,.int .i64 r3,.int .i64 r4,v4_],.int .i64 r6,.int .i64 r7])∧Kd.Q Kd.string 9 w' w.heap.size (fun _=>True) v1_ r2∧Kd.R k64 64 w' w.heap.size (fun _=>True) v4_ r5∧Below w.heap.size w w':=by
  obtain⟨⟨⟨x1,x2,x3,x4,x5⟩,x6,x7⟩,hx,hy⟩:=Option.map_eq_some_iff.mp h;simp only [Prod.mk.injEq] at hy;obtain⟨rfl,rfl,rfl,rfl,rfl,rfl,rfl⟩:=hy;exact rparse_calls k a0 _ _ _ w hx

end Go.Proofs.YthfhbdncphkdaaaDoor.H

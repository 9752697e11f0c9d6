/- Printed (xprint.py): Go functions as Lean functions, each with the proof that its call does what the Lean function says. -/
import Derived.Test.YthfhbdncphkdaaaDoorH0
import Derived.Test.YthfhbdncphkdaaaDoorHc
import Derived.Test.YthfhbdncphkdaaaDoorHb
import Derived.Test.YthfhbdncphkdaaaDoorProParse
namespace Go.Proofs.YthfhbdncphkdaaaDoor.H
open Go.RowKit Go.Proofs.YthfhbdncphkdaaaDoorW.PrintWords Go.Proofs.YthfhbdncphkdaaaDoorW.PrintLast Go.Proofs.YthfhbdncphkdaaaDoorW.PrintMore
set_option linter.unusedVariables false
set_option linter.unusedSimpArgs false
/-! ### protocol_Parse: function 37 -/
--EXT protocol_Parse
theorem takeP_mono(k i:Nat)(ws:List ByteArray)(p:Pr):LeO (takeP k i ws p) (takeP (k+1) i ws p):=by
  rcases i with _|_|_|_|i
  · exact LeO.refl _
  · exact LeO.refl _
  · exact LeO.bind (slices_Index_string_string.mono _ _ _) (fun _=>LeO.refl _)
  · exact LeO.bind (slices_Index_string_string.mono _ _ _) (fun _=>LeO.refl _)
  · exact LeO.bind (slices_Index_string_string.mono _ _ _) (fun _=>LeO.bind (slices_Index_string_string.mono _ _ _) (fun _=>LeO.bind (api_Errno.mono _ _) (fun _=>LeO.refl _)))
theorem lineP_mono(k i:Nat)(e:Bool)(p:Pr)(l:ByteArray):LeO (lineP k i e p l) (lineP (k+1) i e p l):=by
  unfold lineP;refine LeO.ite (LeO.refl _) (LeO.ite (LeO.refl _) (LeO.bind (slices_Contains_string_string.mono _ _ _) (fun b=>LeO.ite (LeO.refl _) (LeO.bind (takeP_mono _ _ _ _) (fun _=>LeO.refl _)))))
theorem parG_mono(k:Nat):∀ (ls:List ByteArray) (i:Nat) (e:Bool) (p:Pr),LeO (parG k ls i e p) (parG (k+1) ls i e p):=by
  intro ls
  induction ls with
  |nil=>intro i e p;exact LeO.refl _
  |cons l r ih=>intro i e p;exact LeO.bind (lineP_mono _ _ _ _ _) (fun x=>LeO.ite (ih _ _ _) (LeO.refl _))
theorem parP_mono(k:Nat)(s:ByteArray):LeO (parP k s) (parP (k+1) s):=by
  unfold parP;exact LeO.ite (LeO.refl _) (LeO.bind (parG_mono _ _ _ _ _) (fun x=>LeO.ite (LeO.ite (LeO.refl _) (LeO.ite (LeO.bind (protocol_Check.mono _ _ _ _ _ _) (fun _=>LeO.refl _)) (LeO.refl _))) (LeO.refl _)))
def protocol_Parse.f(k:Nat)(a0:ByteArray):Option (ByteArray × (List ByteArray) × Int × Int × (List (S64)) × Int × Int):=(parP k a0).map fun x=>(x.1.1,x.1.2.1,x.1.2.2.1,x.1.2.2.2.1,x.1.2.2.2.2,x.2.1,x.2.2)
theorem protocol_Parse.mono:∀ a0 k,LeO (protocol_Parse.f k a0) (protocol_Parse.f (k+1) a0):=fun a0 k=>LeO.map _ (parP_mono k a0)
theorem protocol_Parse.calls(k:Nat)(a0:ByteArray)(r1:ByteArray)(r2:List ByteArray)(r3 r4:Int)(r5:List (S64))(r6 r7:Int)(w:World)(hgh:Gh w)(h:protocol_Parse.f k a0=some (r1,r2,r3,r4,r5,r6,r7)) :
    Calls Tryd.prog 37 #[.string a0] w fun e w'=>∃ v1_ v4_:Value,e=.returned (.tuple #[.agg #[.string r1,v1_,.int .i64 r3,.int .i64 r4,v4_],.int .i64 r6,.int .i64 r7])∧Kd.Q Kd.string 9 w' w.heap.size (fun _=>True) v1_ r2∧Kd.R k64 64 w' w.heap.size (fun _=>True) v4_ r5∧Below w.heap.size w w':=by
  obtain⟨⟨⟨x1,x2,x3,x4,x5⟩,x6,x7⟩,hx,hy⟩:=Option.map_eq_some_iff.mp h;simp only [Prod.mk.injEq] at hy;obtain⟨rfl,rfl,rfl,rfl,rfl,rfl,rfl⟩:=hy;exact parse_calls k a0 _ _ _ w hgh hx

end Go.Proofs.YthfhbdncphkdaaaDoor.H

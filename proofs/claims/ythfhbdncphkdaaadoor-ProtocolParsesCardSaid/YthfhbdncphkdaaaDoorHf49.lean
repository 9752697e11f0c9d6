/- Printed (xprint.py): Go functions as Lean functions, each with the proof that its call does what the Lean function says. -/
import Derived.Test.YthfhbdncphkdaaaDoorH0
import Derived.Test.YthfhbdncphkdaaaDoorShelf
import Derived.OpenShut
namespace Go.Proofs.YthfhbdncphkdaaaDoor.H
open Go.RowKit Go.Proofs.YthfhbdncphkdaaaDoorW.PrintWords Go.Proofs.YthfhbdncphkdaaaDoorW.PrintLast Go.Proofs.YthfhbdncphkdaaaDoorW.PrintMore
set_option linter.unusedVariables false
set_option linter.unusedSimpArgs false
/-! ### strings_Join: function 49 -/
--EXT strings_Join
def strings_Join.f(l0:List ByteArray)(a1:ByteArray):Option (ByteArray) :=
  if l0.length≤140737488355328∧(Lib.join (l0.map (·.data.toList)) a1.data.toList).length≤140737488355328 then some ⟨(Lib.join (l0.map (·.data.toList)) a1.data.toList).toArray⟩ else none
theorem strings_Join.calls(A0:Option Addr)(c0:Nat)(l0:List ByteArray)(a1:ByteArray)(r:ByteArray)(w:World)(hr0:Kd.C Kd.string w A0 l0.length l0)(hc0:l0.length≤c0)(h:strings_Join.f l0 a1=some r) :
    Calls Tryd.prog 49 #[.slice A0 l0.length c0,.string a1] w fun e w'=>e=.returned (.string r)∧Below w.heap.size w w':=by
  unfold strings_Join.f at h
  split at h
  · rename_i hlen
    obtain⟨hbound,hlen⟩:=hlen;obtain rfl:=Option.some.inj h
    cases l0 with
    |nil =>
      refine(Tryd.strings_Join_none A0 c0 a1 w).mono ?_;rintro e w' ⟨rfl,rfl⟩;exact⟨rfl,Below.refl _ _⟩
    |cons x l =>
      have hr:=Kd.reads_of_C (enc:=Value.string) (d:=ByteArray.empty) (h1:=fun _=>rfl) hr0;obtain⟨hn,hm,hc⟩:=hr;obtain⟨⟨b,o,sp⟩,rfl,hcell⟩:=hc (by simp)
      have hsp:sp=none:=by simpa [Addr.add] using World.cell?_spot (hcell 0 (by simp))
      subst hsp
      have hcells:∀ (j:Nat) y,(x::l)[j]?=some y→w.cell? ⟨b,o+j,none⟩=some (.string y):=by
        intro j y hj;have hlt:j<(x::l).length:=(List.getElem?_eq_some_iff.1 hj).1;rw [← Go.WideShapes.add_plain,hcell j hlt];simp [List.getD_eq_getElem?_getD,hj]
      have hb:b<w.heap.size:=by
        have h0:=hcells 0 x rfl;exact World.block_lt_of_cell? w _ h0
      exact(Tryd.strings_Join b o c0 (x::l) a1 w hcells hb hbound hc0 hlen).mono fun e w' h=>h
  · cases h

end Go.Proofs.YthfhbdncphkdaaaDoor.H

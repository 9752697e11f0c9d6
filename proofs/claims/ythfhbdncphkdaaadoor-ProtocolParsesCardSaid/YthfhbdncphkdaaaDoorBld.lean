/- A strings.Builder that a function has made itself: what it holds; written to; read. -/
import Derived.Test.YthfhbdncphkdaaaDoorShelf
import Derived.Shelf.Strings.BuilderK
namespace Go.Proofs.YthfhbdncphkdaaaDoor.B
open Go.RowKit Go.Shelf
/-- The builder in block b holds the text acc; what it owns lies at B or above. -/
def Bld (B b : Nat) (acc : ByteArray) (w : World) : Prop := Lib.IsBuilderF 72 5 B b (Lib.byteCells acc.data.toList) w
theorem Bld.fresh (w : World) : Bld w.heap.size w.heap.size ⟨#[]⟩ (w.alloc (.cells #[.pointer none, .slice none 0 0] 72 (0, 0))) :=
  Lib.IsBuilderF.of (Lib.fresh_isBuilder 72 5 w)
theorem Bld.of_block {b : Nat} {w : World} (h : w.heap[b]? = some (.cells #[.pointer none, .slice none 0 0] 72 (0, 0))) : Bld b b ⟨#[]⟩ w :=
  .inl ⟨Nat.le_refl _, _, h, World.ownsRowF_nil _ _ _ _, by simp [Value.ownBlock]⟩
theorem row_lt {w : World} {base : Nat} {e : TypeId} {v : Value} {n : Nat} {xs : List Value} (h : World.ownsRowF w base e 1 v n xs) {w' : World} (hb : ∀ k, k < w.heap.size → w'.heap[k]? = w.heap[k]?) : World.ownsRowF w' base e 1 v n xs := by
  obtain ⟨h1, h2 | ⟨g, cap, cur, fz, h3, h4, h5, h6⟩⟩ := h
  · exact ⟨h1, .inl h2⟩
  · exact ⟨h1, .inr ⟨g, cap, cur, fz, h3, h4, by rw [hb g (Array.getElem?_eq_some_iff.1 h5).1]; exact h5, h6⟩⟩
theorem at_kept {B b : Nat} {p : Value} {bs : List Value} {w w' : World} (h : Lib.BuilderAtF 72 5 B b p bs w) (hb : ∀ k, k < w.heap.size → w'.heap[k]? = w.heap[k]?) : Lib.BuilderAtF 72 5 B b p bs w' := by
  obtain ⟨h1, v, h2, h3, h4⟩ := h
  exact ⟨h1, v, by rw [hb b (Array.getElem?_eq_some_iff.1 h2).1]; exact h2, row_lt h3 hb, h4⟩
theorem Bld.below {B b : Nat} {acc : ByteArray} {w w' : World} (h : Bld B b acc w) (hb : Below w.heap.size w w') : Bld B b acc w' :=
  h.elim (fun h => .inl (at_kept h hb.block)) (fun h => .inr (at_kept h hb.block))
theorem Bld.alloc {B b : Nat} {acc : ByteArray} {w : World} (h : Bld B b acc w) (o : Obj) : Bld B b acc (w.alloc o) := h.below ((Below.refl _ _).alloc (Nat.le_refl _) o)
theorem Bld.drewN {B b : Nat} {acc : ByteArray} {w : World} (h : Bld B b acc w) (n : Nat) : Bld B b acc (w.drewN n) := h
theorem Bld.drew {B b : Nat} {acc : ByteArray} {w : World} (h : Bld B b acc w) : Bld B b acc w.drew := h
theorem Bld.lt {B b : Nat} {acc : ByteArray} {w : World} (h : Bld B b acc w) : b < w.heap.size := h.elim (fun h => h.lt) (fun h => h.lt)
theorem Bld.le {B b : Nat} {acc : ByteArray} {w : World} (h : Bld B b acc w) : B ≤ w.heap.size := h.elim (fun h => Nat.le_trans h.1 (Nat.le_of_lt h.lt)) (fun h => Nat.le_trans h.1 (Nat.le_of_lt h.lt))
theorem Bld.write {B b : Nat} {acc : ByteArray} {w : World} (h : Bld B b acc w) (s : ByteArray) (hs : acc.size + s.size ≤ 140737488355328) :
    Calls Tryd.prog 59 #[.pointer (some ⟨b, 0, none⟩), .string s] w fun e w' => e = .returned (.tuple #[.int .i64 s.size, .nilIface]) ∧ Bld B b (acc ++ s) w' ∧ Below B w w' ∧ Lib.OthersKept 5 (some b) w w' := by
  refine (Any.Builder_WriteString_k { Tryd.lays156 with } Tryd.Builder_Extra_156 B b (Lib.byteCells acc.data.toList) s w h (by rw [Lib.byteCells_length, Array.length_toList]; exact hs) h.le).mono ?_
  rintro e w' ⟨rfl, hat, hb, ho⟩
  refine ⟨rfl, .inr ?_, hb, ho⟩
  have e1 : Lib.byteCells (acc ++ s).data.toList = Lib.byteCells acc.data.toList ++ Lib.strCells s := by
    rw [Lib.strCells_eq, ByteArray.data_append, Array.toList_append]
    unfold Lib.byteCells
    exact List.map_append
  rw [e1]
  exact hat
theorem Bld.string {B b : Nat} {acc : ByteArray} {w : World} (h : Bld B b acc w) :
    Calls Tryd.prog 60 #[.pointer (some ⟨b, 0, none⟩)] w fun e w' => e = .returned (.string acc) ∧ Below B w w' := by
  refine (Any.Builder_String_any_k { Tryd.lays156 with } Tryd.Builder_Extra_156 B b acc.data.toList w h h.le).mono ?_
  rintro e w' ⟨rfl, _, hb, _⟩
  exact ⟨by simp, hb⟩
end Go.Proofs.YthfhbdncphkdaaaDoor.B

/- A strings.Builder that a function has made itself: what it holds; written to; read. -/
import Derived.Test.YtnoangbidnigdaaDoorProg
import Derived.Shelf.Strings.BuilderK
namespace Go.Proofs
def Tryd.bld_ren : Go.Shelf.Ren := ⟨fun | 166 => 30 | 169 => 32 | 240 => 53 | 276 => 75 | n => n, fun | 0 => 0 | 3 => 3 | 4 => 4 | 5 => 5 | 9 => 9 | 20 => 20 | 37 => 57 | 70 => 56 | 72 => 59 | 75 => 61 | 127 => 88 | 164 => 96 | 76 => 62 | 80 => 66 | n => n, fun | n => n⟩
theorem Tryd.bld166 : Go.Proofs.Lays.n166 Tryd.prog Tryd.bld_ren := {
  mixed := by kernel_rfl
  f166 := Tryd.func30.trans (congrArg some (by kernel_rfl))
  f240 := Tryd.func53.trans (congrArg some (by kernel_rfl))
  f276 := Tryd.func75.trans (congrArg some (by kernel_rfl))
  t0 := Tryd.underlying0
  a0 := Tryd.isAgg0
  z0 := Tryd.sizeOf0
  v0 := Tryd.zeroValue0
  t3 := Tryd.underlying3
  a3 := Tryd.isAgg3
  z3 := Tryd.sizeOf3
  v3 := Tryd.zeroValue3
  t4 := Tryd.underlying4
  a4 := Tryd.isAgg4
  z4 := Tryd.sizeOf4
  v4 := Tryd.zeroValue4
  t9 := Tryd.underlying9
  a9 := Tryd.isAgg9
  z9 := Tryd.sizeOf9
  v9 := Tryd.zeroValue9
  t20 := Tryd.underlying20
  a20 := Tryd.isAgg20
  z20 := Tryd.sizeOf20
  v20 := Tryd.zeroValue20
  t37 := Tryd.underlying57
  a37 := Tryd.isAgg57
  z37 := Tryd.sizeOf57
  v37 := Tryd.zeroValue57
  t70 := Tryd.underlying56
  a70 := Tryd.isAgg56
  z70 := Tryd.sizeOf56
  v70 := Tryd.zeroValue56
  t72 := Tryd.underlying59
  a72 := Tryd.isAgg59
  z72 := Tryd.sizeOf59
  v72 := Tryd.zeroValue59
  t75 := Tryd.underlying61
  a75 := Tryd.isAgg61
  z75 := Tryd.sizeOf61
  v75 := Tryd.zeroValue61
  t164 := Tryd.underlying96
  a164 := Tryd.isAgg96
  z164 := Tryd.sizeOf96
  v164 := Tryd.zeroValue96 }
theorem Tryd.bld169 : Go.Proofs.Lays.n169 Tryd.prog Tryd.bld_ren := {
  mixed := by kernel_rfl
  f169 := Tryd.func32.trans (congrArg some (by kernel_rfl))
  t0 := Tryd.underlying0
  a0 := Tryd.isAgg0
  z0 := Tryd.sizeOf0
  v0 := Tryd.zeroValue0
  t3 := Tryd.underlying3
  a3 := Tryd.isAgg3
  z3 := Tryd.sizeOf3
  v3 := Tryd.zeroValue3
  t9 := Tryd.underlying9
  a9 := Tryd.isAgg9
  z9 := Tryd.sizeOf9
  v9 := Tryd.zeroValue9
  t37 := Tryd.underlying57
  a37 := Tryd.isAgg57
  z37 := Tryd.sizeOf57
  v37 := Tryd.zeroValue57
  t70 := Tryd.underlying56
  a70 := Tryd.isAgg56
  z70 := Tryd.sizeOf56
  v70 := Tryd.zeroValue56
  t72 := Tryd.underlying59
  a72 := Tryd.isAgg59
  z72 := Tryd.sizeOf59
  v72 := Tryd.zeroValue59
  t127 := Tryd.underlying88
  a127 := Tryd.isAgg88
  z127 := Tryd.sizeOf88
  v127 := Tryd.zeroValue88 }
theorem Tryd.bldExtra : Builder.Extra Tryd.prog Tryd.bld_ren := {
  sizeBuilder := by kernel_rfl
  liesBuilder := by kernel_rfl
  t5 := Tryd.underlying5
  a5 := Tryd.isAgg5
  z5 := Tryd.sizeOf5
  v5 := Tryd.zeroValue5
  infoByte := by kernel_rfl
  cellsByte := by kernel_rfl
  sizeByte := by kernel_rfl
  neB5 := by decide }
end Go.Proofs
namespace Go.Proofs.YtnoangbidnigdaaDoor.B
open Go.RowKit Go.Shelf
/-- The builder in block b holds the text acc; what it owns lies at B or above. -/
def Bld (B b : Nat) (acc : ByteArray) (w : World) : Prop := Lib.IsBuilderF 59 5 B b (Lib.byteCells acc.data.toList) w
theorem Bld.fresh (w : World) : Bld w.heap.size w.heap.size ⟨#[]⟩ (w.alloc (.cells #[.pointer none, .slice none 0 0] 59 (0, 0))) :=
  Lib.IsBuilderF.of (Lib.fresh_isBuilder 59 5 w)
theorem Bld.of_block {b : Nat} {w : World} (h : w.heap[b]? = some (.cells #[.pointer none, .slice none 0 0] 59 (0, 0))) : Bld b b ⟨#[]⟩ w :=
  .inl ⟨Nat.le_refl _, _, h, World.ownsRowF_nil _ _ _ _, by simp [Value.ownBlock]⟩
theorem row_lt {w : World} {base : Nat} {e : TypeId} {v : Value} {n : Nat} {xs : List Value} (h : World.ownsRowF w base e 1 v n xs) {w' : World} (hb : ∀ k, k < w.heap.size → w'.heap[k]? = w.heap[k]?) : World.ownsRowF w' base e 1 v n xs := by
  obtain ⟨h1, h2 | ⟨g, cap, cur, fz, h3, h4, h5, h6⟩⟩ := h
  · exact ⟨h1, .inl h2⟩
  · exact ⟨h1, .inr ⟨g, cap, cur, fz, h3, h4, by rw [hb g (Array.getElem?_eq_some_iff.1 h5).1]; exact h5, h6⟩⟩
theorem at_kept {B b : Nat} {p : Value} {bs : List Value} {w w' : World} (h : Lib.BuilderAtF 59 5 B b p bs w) (hb : ∀ k, k < w.heap.size → w'.heap[k]? = w.heap[k]?) : Lib.BuilderAtF 59 5 B b p bs w' := by
  obtain ⟨h1, v, h2, h3, h4⟩ := h
  exact ⟨h1, v, by rw [hb b (Array.getElem?_eq_some_iff.1 h2).1]; exact h2, row_lt h3 hb, h4⟩
theorem Bld.below {B b : Nat} {acc : ByteArray} {w w' : World} (h : Bld B b acc w) (hb : Below w.heap.size w w') : Bld B b acc w' :=
  h.elim (fun h => .inl (at_kept h hb.block)) (fun h => .inr (at_kept h hb.block))
theorem Bld.alloc {B b : Nat} {acc : ByteArray} {w : World} (h : Bld B b acc w) (o : Obj) : Bld B b acc (w.alloc o) := h.below ((Below.refl _ _).alloc (Nat.le_refl _) o)
theorem Bld.drewN {B b : Nat} {acc : ByteArray} {w : World} (h : Bld B b acc w) (n : Nat) : Bld B b acc (w.drewN n) := h
theorem Bld.drew {B b : Nat} {acc : ByteArray} {w : World} (h : Bld B b acc w) : Bld B b acc w.drew := h
theorem Bld.lt {B b : Nat} {acc : ByteArray} {w : World} (h : Bld B b acc w) : b < w.heap.size := h.elim (fun h => h.lt) (fun h => h.lt)
theorem Bld.le {B b : Nat} {acc : ByteArray} {w : World} (h : Bld B b acc w) : B ≤ w.heap.size := h.elim (fun h => Nat.le_trans h.1 (Nat.le_of_lt h.lt)) (fun h => Nat.le_trans h.1 (Nat.le_of_lt h.lt))
theorem Bld.write {B b : Nat} {acc : ByteArray} {w : World} (h : Bld B b acc w) (s : ByteArray) (hs : acc.size + s.size ≤ 140737488355328) :
    Calls Tryd.prog 30 #[.pointer (some ⟨b, 0, none⟩), .string s] w fun e w' => e = .returned (.tuple #[.int .i64 s.size, .nilIface]) ∧ Bld B b (acc ++ s) w' ∧ Below B w w' ∧ Lib.OthersKept 5 (some b) w w' := by
  refine (Any.Builder_WriteString_k Tryd.bld166 Tryd.bldExtra B b (Lib.byteCells acc.data.toList) s w h (by rw [Lib.byteCells_length, Array.length_toList]; exact hs) h.le).mono ?_
  rintro e w' ⟨rfl, hat, hb, ho⟩
  refine ⟨rfl, .inr ?_, hb, ho⟩
  have e1 : Lib.byteCells (acc ++ s).data.toList = Lib.byteCells acc.data.toList ++ Lib.strCells s := by
    rw [Lib.strCells_eq, ByteArray.data_append, Array.toList_append]
    unfold Lib.byteCells
    exact List.map_append
  rw [e1]
  exact hat
theorem Bld.string {B b : Nat} {acc : ByteArray} {w : World} (h : Bld B b acc w) :
    Calls Tryd.prog 32 #[.pointer (some ⟨b, 0, none⟩)] w fun e w' => e = .returned (.string acc) ∧ Below B w w' := by
  refine (Any.Builder_String_any_k Tryd.bld169 Tryd.bldExtra B b acc.data.toList w h h.le).mono ?_
  rintro e w' ⟨rfl, _, hb, _⟩
  exact ⟨by simp, hb⟩
end Go.Proofs.YtnoangbidnigdaaDoor.B

/- What the condition tells of an argument of any readable type: Lean values, and where they lie. -/
import Derived.Test.YthfhbdncphkdaaaDoorSlWGuardMore
import Derived.ChangeOld
import Derived.LaidMore
namespace Go.Proofs.YthfhbdncphkdaaaDoor.O
open Go.ChangeShapes Go.WideShapes Go.RowKit Go.Proofs.YthfhbdncphkdaaaDoorW.PrintWords
variable {H : Type} {enc : TypeId × Value → H} {P : Program} {W : World}
/-- Cells of type t that the condition reads hold a value of the kind d, of which Q is told. -/
def Opens {α : Type} (enc : TypeId × Value → H) (P : Program) (W : World) (d : Kd α) (t : TypeId) (Q : α → Prop) : Prop :=
  ∀ (fuel : Nat) (cs : List Value) (x : DataW H × List MemPlace), DataW.trod enc P W 0 (fun _ => true) true fuel t cs = some x → ∃ a : α, d.K W a cs ∧ Q a
theorem opens_int {t : TypeId} {k : IntKind} (ht : P.underlying t = some (.int k)) : Opens enc P W (Kd.int k) t (fun n => (Lit.int k n).wf = true) := by
  intro fuel cs x h
  obtain ⟨n, rfl, _, hw⟩ := DataW.trod_int ht h
  exact ⟨n, rfl, hw⟩
theorem opens_bool {t : TypeId} (ht : P.underlying t = some .bool) : Opens enc P W Kd.bool t (fun _ => True) := by
  intro fuel cs x h
  obtain ⟨n, rfl, _⟩ := DataW.trod_bool ht h
  exact ⟨n, rfl, trivial⟩
theorem opens_string {t : TypeId} (ht : P.underlying t = some .string) : Opens enc P W Kd.string t (fun s => s.size ≤ 9223372036854775807) := by
  intro fuel cs x h
  obtain ⟨s, rfl, _, hs⟩ := DataW.trod_string ht h
  exact ⟨s, rfl, hs⟩
theorem cells?_get {w : World} {base : Nat} {a : Addr} {n : Nat} {cs : List Value} (h : w.cells? base a n = some cs) : cs.length = n ∧ ∀ i u, cs[i]? = some u → w.cell? (a.add i) = some u := by
  obtain ⟨h1, h2, h3⟩ := World.cells?_some h
  refine ⟨h2, fun i u hu => ?_⟩
  rw [h3 i (by rw [← h2]; exact (List.getElem?_eq_some_iff.1 hu).1)]
  exact hu
theorem opens_slice {α : Type} {d : Kd α} {t e : TypeId} {Q : α → Prop} (ht : P.underlying t = some (.slice e)) (hc : P.cellsOf e = d.sz) (hd : Opens enc P W d e Q) : Opens enc P W (Kd.slice e d) t (fun l => ∀ x ∈ l, Q x) := by
  intro fuel cs x h
  rcases DataW.trod_slice ht h with ⟨rfl, _⟩ | ⟨a, len, cap, elems, rest, n, _, rfl, _, _, hl, hm, hlen, hel, _, _⟩
  · exact ⟨[], ⟨none, 0, rfl, Nat.le_refl _, rfl, Nat.zero_le _, fun h => absurd h (Nat.lt_irrefl _)⟩, fun _ h => by cases h⟩
  · have each : ∀ i, i < len → ∃ y, ∃ c, c.length = d.sz ∧ d.K W y c ∧ Q y ∧ ∀ j u, c[j]? = some u → W.cell? (a.add (i * d.sz + j)) = some u := by
      intro i hi
      have h1 := hel i hi
      rw [List.getElem?_eq_getElem (by omega), Option.bind_eq_some_iff] at h1
      obtain ⟨c, h2, h3⟩ := h1
      obtain ⟨h4, h5⟩ := cells?_get h2
      obtain ⟨y, hK, hQ⟩ := hd n c _ h3
      refine ⟨y, c, by rw [h4, hc], hK, hQ, fun j u hu => ?_⟩
      have := h5 j u hu
      rw [hc] at this
      rw [← Addr.add_add]
      exact this
    have list : ∀ m, m ≤ len → ∃ l : List α, l.length = m ∧ ∀ j p, l[j]? = some p → ∃ c, c.length = d.sz ∧ d.K W p c ∧ Q p ∧ ∀ i u, c[i]? = some u → W.cell? (a.add (j * d.sz + i)) = some u := by
      intro m
      induction m with
      | zero => intro _; exact ⟨[], rfl, fun j p h => by simp at h⟩
      | succ m ih =>
        intro hm
        obtain ⟨l, h1, h2⟩ := ih (by omega)
        obtain ⟨y, c, hy⟩ := each m (by omega)
        refine ⟨l ++ [y], by simp [h1], fun j p hj => ?_⟩
        by_cases hjm : j < m
        · rw [List.getElem?_append_left (by omega)] at hj; exact h2 j p hj
        · have hjl := (List.getElem?_eq_some_iff.1 hj).1
          obtain rfl : j = m := by simp [h1] at hjl; omega
          rw [List.getElem?_append_right (by omega), h1] at hj
          simp at hj
          subst hj
          exact ⟨c, hy⟩
    obtain ⟨l, h1, h2⟩ := list len (Nat.le_refl _)
    subst h1
    refine ⟨l, ⟨some a, cap, rfl, hl, rfl, by have : cap ≤ maxLen := hm; unfold maxLen at this; omega, fun _ => ⟨a, rfl, fun j p hj => ?_⟩⟩, fun x hx => ?_⟩
    · obtain ⟨c, a1, a2, _, a3⟩ := h2 j p hj
      exact ⟨c, a1, a2, a3⟩
    · obtain ⟨i, hi⟩ := List.getElem?_of_mem hx
      obtain ⟨c, _, _, a3, _⟩ := h2 i x hi
      exact a3
/-- A struct's fields from the cell o on. -/
def OpensF {α : Type} (enc : TypeId × Value → H) (P : Program) (W : World) (o : Nat) (fs : List Field) (d : Kd α) (Q : α → Prop) : Prop :=
  ∀ (n : Nat) (cs : List Value), cs.length = o + d.sz → (∀ f ∈ fs, ∃ y, DataW.trod enc P W 0 (fun _ => true) true n f.type ((cs.drop f.offset).take (P.cellsOf f.type)) = some y) → ∃ a : α, d.K W a (cs.drop o) ∧ Q a
theorem opensF_one {α : Type} {d : Kd α} {f : Field} {o : Nat} {Q : α → Prop} (hd : Opens enc P W d f.type Q) (ho : f.offset = o) (hc : P.cellsOf f.type = d.sz) : OpensF enc P W o [f] d Q := by
  intro n cs hl hf
  obtain ⟨y, hy⟩ := hf f (List.mem_singleton.2 rfl)
  rw [ho, hc, List.take_of_length_le (by rw [List.length_drop]; omega)] at hy
  exact hd n _ _ hy
theorem opensF_pair {α β : Type} {d1 : Kd α} {d2 : Kd β} {f : Field} {fs : List Field} {o : Nat} {Q1 : α → Prop} {Q2 : β → Prop} (hd : Opens enc P W d1 f.type Q1) (ho : f.offset = o) (hc : P.cellsOf f.type = d1.sz) (h2 : OpensF enc P W (o + d1.sz) fs d2 Q2) :
    OpensF enc P W o (f :: fs) (Kd.pair d1 d2) (fun a => Q1 a.1 ∧ Q2 a.2) := by
  intro n cs hl hf
  have hl' : cs.length = o + (d1.sz + d2.sz) := hl
  obtain ⟨y, hy⟩ := hf f List.mem_cons_self
  rw [ho, hc] at hy
  obtain ⟨a, ha, qa⟩ := hd n _ _ hy
  obtain ⟨b, hb, qb⟩ := h2 n cs (by omega) (fun f' h' => hf f' (List.mem_cons_of_mem _ h'))
  refine ⟨(a, b), ⟨(cs.drop o).take d1.sz, cs.drop (o + d1.sz), ?_, ha, hb⟩, qa, qb⟩
  rw [← List.drop_drop, List.take_append_drop]
theorem opens_struct {α : Type} {d : Kd α} {t : TypeId} {fs : Array Field} {Q : α → Prop} (ht : P.underlying t = some (.struct fs)) (hc : P.cellsOf t = d.sz) (h : OpensF enc P W 0 fs.toList d Q) : Opens enc P W d t Q := by
  intro fuel cs x hx
  obtain ⟨xs, n, _, _, hl, hlen, hf⟩ := DataW.trod_struct ht hx
  refine h n cs (by omega) (fun f hm => ?_)
  obtain ⟨i, hi⟩ := List.getElem?_of_mem hm
  have hi' : fs[i]? = some f := by rw [← Array.getElem?_toList]; exact hi
  have hlt : i < xs.length := by rw [hlen]; exact (Array.getElem?_eq_some_iff.1 hi').1
  exact ⟨_, (hf i f hi').trans (List.getElem?_eq_getElem hlt)⟩
theorem opens_iso {α β : Type} {d : Kd α} {t : TypeId} {Q : α → Prop} {f : β → α} (g : α → β) (hg : ∀ a, f (g a) = a) (h : Opens enc P W d t Q) : Opens enc P W (Kd.iso d f) t (fun x => Q (f x)) := by
  intro fuel cs x hx
  obtain ⟨a, ha, qa⟩ := h fuel cs x hx
  exact ⟨g a, by show d.K W (f (g a)) cs; rw [hg]; exact ha, by show Q (f (g a)); rw [hg]; exact qa⟩
end Go.Proofs.YthfhbdncphkdaaaDoor.O

/- Texts cut at a byte, and put together: in plain words. -/
import Derived.Test.YthfhbdncphkdaaaDoorProTake
import Derived.Test.YthfhbdncphkdaaaDoorIdent
import Derived.Lib.CutLaws
import Derived.Lib.SplitLaws
import Derived.Lib.IndexLaws
import Derived.Lib.IndexBytes
namespace Go.Proofs.YthfhbdncphkdaaaDoor.H
open Go.RowKit Go.Proofs.YthfhbdncphkdaaaDoorW.PrintWords
set_option linter.unusedVariables false
set_option linter.unusedSimpArgs false

def nb (c x : Int) : Bool := x != c
def pos (c : Int) (s : ByteArray) : Nat := scan (nb c) s 0
theorem pos_le (c : Int) (s : ByteArray) : pos c s ≤ s.size := scan_le' _ s 0 (Nat.zero_le _)
theorem bt_nat' (s : ByteArray) (i : Nat) (h : i < s.size) : bt s i = ((s[i]'h).toNat : Int) := by simp [bt, h]
theorem bt_is (s : ByteArray) (c : UInt8) (j : Nat) (h : j < s.size) : bt s j = (c.toNat : Int) ↔ s.data.toList[j]? = some c := by
  have hl : j < s.data.toList.length := by rw [Array.length_toList]; exact h
  rw [bt_nat' s j h, List.getElem?_eq_getElem hl]
  have e : s[j]'h = s.data.toList[j] := by simp [ByteArray.getElem_eq_getElem_data]
  rw [e]
  constructor
  · intro h2
    have e2 : (s.data.toList[j]).toNat = c.toNat := by omega
    rw [UInt8.toNat_inj.1 e2]
  · intro h2; rw [Option.some.inj h2]
theorem pos_at (c : UInt8) (s : ByteArray) (p : Nat) (h : p ≤ s.size) (h1 : ∀ j, j < p → s.data.toList[j]? ≠ some c) (h2 : p < s.size → s.data.toList[p]? = some c) : pos c.toNat s = p := by
  refine scan_eq _ s 0 p (Nat.zero_le _) h (fun j _ hj => ?_) (fun hp => ?_)
  · have := h1 j hj
    have h3 := mt (bt_is s c j (by omega)).1 this
    exact bne_iff_ne.2 h3
  · have h3 := (bt_is s c p hp).2 (h2 hp)
    unfold nb; rw [h3]; simp
theorem idx_pos (c : UInt8) (s : ByteArray) : Lib.indexB s ⟨#[c]⟩ = if pos c.toNat s < s.size then ((pos c.toNat s : Nat) : Int) else -1 := by
  have e : Lib.indexB s ⟨#[c]⟩ = Lib.indexByte s.data.toList c := Lib.index_one _ _
  rw [e]
  have hge := Lib.indexByte_ge s.data.toList c
  by_cases h : Lib.indexByte s.data.toList c = -1
  · have hn := Lib.indexByte_none h
    rw [pos_at c s s.size (Nat.le_refl _) (fun j _ => hn j) (fun h => absurd h (Nat.lt_irrefl _)), if_neg (Nat.lt_irrefl _), h]
  · obtain ⟨o, ho⟩ : ∃ o : Nat, Lib.indexByte s.data.toList c = o := ⟨(Lib.indexByte s.data.toList c).toNat, by omega⟩
    obtain ⟨h1, h2⟩ := Lib.indexByte_some ho
    have hlt : o < s.size := by have := (List.getElem?_eq_some_iff.1 h1).1; rw [Array.length_toList] at this; exact this
    rw [pos_at c s o (Nat.le_of_lt hlt) h2 (fun _ => h1), if_pos hlt, ho]
def headB (c : Int) (s : ByteArray) : ByteArray := s.extract 0 (pos c s)
def restB (c : Int) (s : ByteArray) : ByteArray := s.extract (pos c s + 1) s.size
theorem restB_size (c : Int) (s : ByteArray) (h : pos c s < s.size) : (restB c s).size = s.size - (pos c s + 1) := by
  unfold restB; rw [ByteArray.size_extract]; omega
theorem cut_join (c : UInt8) (s : ByteArray) (h : pos c.toNat s < s.size) : s = headB c.toNat s ++ ((⟨#[c]⟩ : ByteArray) ++ restB c.toNat s) := by
  apply ByteArray.ext
  apply Array.toList_inj.1
  unfold headB restB
  rw [ByteArray.data_append, ByteArray.data_append, Array.toList_append, Array.toList_append, Lib.extract_data, Lib.extract_data, List.drop_zero, Nat.sub_zero]
  have hl : pos c.toNat s < s.data.toList.length := by rw [Array.length_toList]; exact h
  have hc : s.data.toList[pos c.toNat s]? = some c := by
    rw [← bt_is s c _ h]
    have h3 : (bt s ((pos c.toNat s : Nat) : Int) != (c.toNat : Int)) = false := scan_off (nb c.toNat) s 0 h
    simpa using h3
  rw [List.getElem?_eq_getElem hl] at hc
  have hd := List.drop_eq_getElem_cons hl
  rw [Option.some.inj hc] at hd
  rw [List.take_of_length_le (i := s.size - (pos c.toNat s + 1)) (by rw [List.length_drop, Array.length_toList]; exact Nat.le_refl _)]
  show _ = List.take (pos c.toNat s) s.data.toList ++ ([c] ++ List.drop (pos c.toNat s + 1) s.data.toList)
  rw [List.singleton_append, ← hd, List.take_append_drop]
theorem head_size (c : Int) (s : ByteArray) : (headB c s).size ≤ s.size := by unfold headB; rw [ByteArray.size_extract]; omega
theorem bytes_eq {a b : ByteArray} (h : a.toList = b.toList) : a = b := by
  rw [Lib.toList_data, Lib.toList_data] at h
  exact ByteArray.ext (Array.toList_inj.1 h)
theorem bytes_of {a : ByteArray} {l : List UInt8} (h : a.toList = l) : a = ⟨l.toArray⟩ := by
  rw [Lib.toList_data] at h
  exact ByteArray.ext (Array.toList_inj.1 (by rw [h]))
def NoL (c : UInt8) (x : ByteArray) : Prop := ∀ j, j < x.size → x.data.toList[j]? ≠ some c
theorem NoL.app {c : UInt8} {x y : ByteArray} (hx : NoL c x) (hy : NoL c y) : NoL c (x ++ y) := by
  intro j hj
  rw [ByteArray.size_append] at hj
  rw [ByteArray.data_append, Array.toList_append]
  have hl : x.data.toList.length = x.size := by rw [Array.length_toList]; rfl
  by_cases h : j < x.size
  · rw [List.getElem?_append_left (by omega)]; exact hx j h
  · rw [List.getElem?_append_right (by omega), hl]; exact hy (j - x.size) (by omega)
theorem NoL.scan {c : UInt8} {x : ByteArray} {p : Int → Bool} (h : scan p x 0 = x.size) (hp : p (c.toNat : Int) = false) : NoL c x := by
  intro j hj e
  have := scan_all p x 0 j (Nat.zero_le _) (by omega)
  rw [(bt_is x c j hj).2 e, hp] at this
  cases this
theorem NoL.size0 {c : UInt8} {x : ByteArray} (h : x.size = 0) : NoL c x := fun j hj => by omega
theorem pos_app (c : UInt8) (x y : ByteArray) (h : NoL c x) : pos c.toNat (x ++ ((⟨#[c]⟩ : ByteArray) ++ y)) = x.size := by
  have hl : x.data.toList.length = x.size := by rw [Array.length_toList]; rfl
  refine pos_at c _ x.size (by rw [ByteArray.size_append]; omega) (fun j hj => ?_) (fun _ => ?_)
  · rw [ByteArray.data_append, Array.toList_append, List.getElem?_append_left (by omega)]; exact h j hj
  · rw [ByteArray.data_append, Array.toList_append, List.getElem?_append_right (by omega), hl, Nat.sub_self, ByteArray.data_append, Array.toList_append]; rfl
theorem pos_lt (c : UInt8) (x y : ByteArray) (h : NoL c x) : pos c.toNat (x ++ ((⟨#[c]⟩ : ByteArray) ++ y)) < (x ++ ((⟨#[c]⟩ : ByteArray) ++ y)).size := by
  rw [pos_app c x y h, ByteArray.size_append, ByteArray.size_append]
  have : (⟨#[c]⟩ : ByteArray).size = 1 := rfl
  omega
theorem head_app (c : UInt8) (x y : ByteArray) (h : NoL c x) : headB c.toNat (x ++ ((⟨#[c]⟩ : ByteArray) ++ y)) = x := by
  unfold headB
  rw [pos_app c x y h]
  apply ByteArray.ext
  apply Array.toList_inj.1
  have hl : x.data.toList.length = x.size := by rw [Array.length_toList]; rfl
  rw [Lib.extract_data, List.drop_zero, Nat.sub_zero, ByteArray.data_append, Array.toList_append, List.take_append_of_le_length (by omega), List.take_of_length_le (by omega)]
theorem ext_data (s : ByteArray) (a : Nat) : (s.extract a s.size).data.toList = s.data.toList.drop a := by
  rw [Lib.extract_data, List.take_of_length_le]
  rw [List.length_drop, Array.length_toList]; exact Nat.le_refl _
theorem rest_app (c : UInt8) (x y : ByteArray) (h : NoL c x) : restB c.toNat (x ++ ((⟨#[c]⟩ : ByteArray) ++ y)) = y := by
  unfold restB
  rw [pos_app c x y h]
  apply ByteArray.ext
  apply Array.toList_inj.1
  have hl : x.data.toList.length = x.size := by rw [Array.length_toList]; rfl
  rw [ext_data, ByteArray.data_append, Array.toList_append, ByteArray.data_append, Array.toList_append, List.drop_append, hl, List.drop_of_length_le (by omega), Nat.add_sub_cancel_left]
  rfl
theorem one_size (c : UInt8) : (⟨#[c]⟩ : ByteArray).size = 1 := rfl
theorem spl_hit (c : UInt8) (s : ByteArray) (h : pos c.toNat s < s.size) : spl c s = headB c.toNat s :: spl c (restB c.toNat s) := by
  have hx := idx_pos c s
  rw [if_pos h] at hx
  have hc := Lib.countB_hit s ⟨#[c]⟩ _ (Nat.le_refl 1) hx
  rw [one_size] at hc
  unfold spl
  rw [hc, Nat.add_comm, Lib.splitB_hit ⟨#[c]⟩ 0 _ s _ hx, one_size]
  rfl
theorem spl_miss (c : UInt8) (s : ByteArray) (h : ¬ pos c.toNat s < s.size) : spl c s = [s] := by
  have hx := idx_pos c s
  rw [if_neg h] at hx
  exact Lib.splitB_miss ⟨#[c]⟩ 0 _ s hx
/-- Parts put together, a byte between them. -/
def joinC (c : UInt8) : List ByteArray → ByteArray
  | [] => ⟨#[]⟩
  | [x] => x
  | x :: y :: l => x ++ ((⟨#[c]⟩ : ByteArray) ++ joinC c (y :: l))
theorem joinC_cons (c : UInt8) (x : ByteArray) (l : List ByteArray) (h : l ≠ []) : joinC c (x :: l) = x ++ ((⟨#[c]⟩ : ByteArray) ++ joinC c l) := by
  cases l with
  | nil => exact absurd rfl h
  | cons y l => rfl
theorem spl_no_end (c : UInt8) (s : ByteArray) (h : NoL c s) : ¬ pos c.toNat s < s.size := by
  have e : pos c.toNat s = s.size := pos_at c s s.size (Nat.le_refl _) (fun j hj => h j hj) (fun h => absurd h (Nat.lt_irrefl _))
  omega
theorem spl_joinC (c : UInt8) : ∀ (ps : List ByteArray), ps ≠ [] → (∀ x ∈ ps, NoL c x) → spl c (joinC c ps) = ps := by
  intro ps
  induction ps with
  | nil => intro h; exact absurd rfl h
  | cons x l ih =>
    intro _ hn
    cases l with
    | nil => exact spl_miss c x (spl_no_end c x (hn x List.mem_cons_self))
    | cons y l =>
      have hx := hn x List.mem_cons_self
      rw [joinC_cons c x (y :: l) (by simp), spl_hit c _ (pos_lt c _ _ hx), head_app c _ _ hx, rest_app c _ _ hx, ih (by simp) (fun z hz => hn z (List.mem_cons_of_mem _ hz))]
theorem spl_ne (c : UInt8) (s : ByteArray) : spl c s ≠ [] := by
  intro h
  have := spl_len c s
  rw [h] at this
  simp at this
theorem spl_spec (c : UInt8) : ∀ (n : Nat) (s : ByteArray), s.size ≤ n → joinC c (spl c s) = s ∧ ∀ x ∈ spl c s, NoL c x := by
  intro n
  induction n with
  | zero =>
    intro s hs
    rw [spl_miss c s (by omega)]
    exact ⟨rfl, fun x hx => by rw [List.mem_singleton.1 hx]; exact NoL.size0 (by omega)⟩
  | succ n ih =>
    intro s hs
    by_cases h : pos c.toNat s < s.size
    · have hz := restB_size c.toNat s h
      obtain ⟨h1, h2⟩ := ih (restB c.toNat s) (by omega)
      rw [spl_hit c s h]
      refine ⟨?_, fun x hx => ?_⟩
      · rw [joinC_cons c _ _ (spl_ne c _), h1]; exact (cut_join c s h).symm
      · rcases List.mem_cons.1 hx with rfl | hx
        · intro j hj
          have hp := head_size c.toNat s
          have hj2 : j < pos c.toNat s := by unfold headB at hj; rw [ByteArray.size_extract] at hj; omega
          have hb := scan_all (nb c.toNat) s 0 j (Nat.zero_le _) hj2
          have h3 : ¬ bt s j = (c.toNat : Int) := by unfold nb at hb; exact bne_iff_ne.1 hb
          have h4 := mt (bt_is s c j (by omega)).2 h3
          have e : (headB c.toNat s).data.toList[j]? = s.data.toList[j]? := by
            unfold headB
            rw [Lib.extract_from_zero, List.getElem?_take, if_pos hj2]
          rw [e]; exact h4
        · exact h2 x hx
    · rw [spl_miss c s h]
      refine ⟨rfl, fun x hx => ?_⟩
      rw [List.mem_singleton.1 hx]
      intro j hj
      have hl := pos_le c.toNat s
      have hb := scan_all (nb c.toNat) s 0 j (Nat.zero_le _) (show j < pos c.toNat s by omega)
      have h3 : ¬ bt s j = (c.toNat : Int) := by unfold nb at hb; exact bne_iff_ne.1 hb
      exact mt (bt_is s c j hj).2 h3
theorem joinC_spl (c : UInt8) (s : ByteArray) : joinC c (spl c s) = s := (spl_spec c _ s (Nat.le_refl _)).1
theorem spl_no (c : UInt8) (s x : ByteArray) (h : x ∈ spl c s) : NoL c x := (spl_spec c _ s (Nat.le_refl _)).2 x h
/-- A text of lines, each of words. -/
def textL (c : UInt8) : List ByteArray → ByteArray
  | [] => ⟨#[]⟩
  | x :: r => x ++ ((⟨#[c]⟩ : ByteArray) ++ textL c r)
theorem textL_join (c : UInt8) : ∀ (l : List ByteArray), textL c l = joinC c (l ++ [(⟨#[]⟩ : ByteArray)]) := by
  intro l
  induction l with
  | nil => rfl
  | cons x r ih =>
    rw [List.cons_append, joinC_cons c x _ (by simp), ← ih]; rfl
theorem textL_app (c : UInt8) : ∀ (a b : List ByteArray), textL c (a ++ b) = textL c a ++ textL c b := by
  intro a b
  induction a with
  | nil => exact ByteArray.empty_append.symm
  | cons x r ih => simp only [List.cons_append, textL, ih, ByteArray.append_assoc]
end Go.Proofs.YthfhbdncphkdaaaDoor.H

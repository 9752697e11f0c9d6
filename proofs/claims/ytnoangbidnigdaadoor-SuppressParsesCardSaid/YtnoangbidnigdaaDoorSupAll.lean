/- Lines, parsing and the text of suppressions, in plain words: what the program's and the reference's functions say of them; there and back. -/
import Derived.Test.YtnoangbidnigdaaDoorSupCheck
import Derived.Lib.CutLaws
import Derived.Lib.SplitLaws
import Derived.Lib.IndexLaws
import Derived.Lib.IndexBytes
import Derived.Test.YtnoangbidnigdaaDoorHf36
import Derived.Test.YtnoangbidnigdaaDoorHf39
import Derived.Test.YtnoangbidnigdaaDoorHf64
import Derived.Test.YtnoangbidnigdaaDoorHf65
import Derived.Test.YtnoangbidnigdaaDoorHf57
import Derived.Test.YtnoangbidnigdaaDoorHf33
import Derived.Test.YtnoangbidnigdaaDoorHf56
import Derived.Test.YtnoangbidnigdaaDoorHf55
import Derived.Test.YtnoangbidnigdaaDoorHf35
import Derived.Test.YtnoangbidnigdaaDoorHf15
import Derived.Test.YtnoangbidnigdaaDoorHf17
import Derived.Test.YtnoangbidnigdaaDoorHf16
import Derived.Test.YtnoangbidnigdaaDoorHf13
import Derived.Test.YtnoangbidnigdaaDoorHf14
import Derived.Test.YtnoangbidnigdaaDoorHf34
/-! A line of suppressions, in plain words: what the program's and the reference's say of it. -/
namespace Go.Proofs.YtnoangbidnigdaaDoor.H
open Go.RowKit Go.Proofs.YtnoangbidnigdaaDoorW.PrintWords
set_option linter.unusedVariables false
set_option linter.unusedSimpArgs false

def nb (c x : Int) : Bool := x != c
/-- Where a byte first stands. -/
def pos (c : Int) (s : ByteArray) : Nat := scan (nb c) s 0
theorem pos_le (c : Int) (s : ByteArray) : pos c s ≤ s.size := scan_le' _ s 0 (Nat.zero_le _)
theorem bt_nat' (s : ByteArray) (i : Nat) (h : i < s.size) : bt s i = ((s[i]'h).toNat : Int) := by simp [bt, h]
theorem bt_is (s : ByteArray) (c : UInt8) (j : Nat) (h : j < s.size) : bt s j = (c.toNat : Int) ↔ s.data.toList[j]? = some c := by
  have hl : j < s.data.toList.length := by rw [Array.length_toList]; exact h
  rw [bt_nat' s j h, List.getElem?_eq_getElem hl]
  have e : s[j]'h = s.data.toList[j] := by simp [ByteArray.getElem_eq_getElem_data]
  rw [e]
  constructor
  · intro h2
    have e2 : (s.data.toList[j]).toNat = c.toNat := by omega
    rw [UInt8.toNat_inj.1 e2]
  · intro h2; rw [Option.some.inj h2]
theorem pos_at (c : UInt8) (s : ByteArray) (p : Nat) (h : p ≤ s.size) (h1 : ∀ j, j < p → s.data.toList[j]? ≠ some c) (h2 : p < s.size → s.data.toList[p]? = some c) : pos c.toNat s = p := by
  refine scan_eq _ s 0 p (Nat.zero_le _) h (fun j _ hj => ?_) (fun hp => ?_)
  · have := h1 j hj
    have h3 := mt (bt_is s c j (by omega)).1 this
    exact bne_iff_ne.2 h3
  · have h3 := (bt_is s c p hp).2 (h2 hp)
    unfold nb; rw [h3]; simp
theorem idx_pos (c : UInt8) (s : ByteArray) : Lib.indexB s ⟨#[c]⟩ = if pos c.toNat s < s.size then ((pos c.toNat s : Nat) : Int) else -1 := by
  have e : Lib.indexB s ⟨#[c]⟩ = Lib.indexByte s.data.toList c := Lib.index_one _ _
  rw [e]
  have hge := Lib.indexByte_ge s.data.toList c
  by_cases h : Lib.indexByte s.data.toList c = -1
  · have hn := Lib.indexByte_none h
    rw [pos_at c s s.size (Nat.le_refl _) (fun j _ => hn j) (fun h => absurd h (Nat.lt_irrefl _)), if_neg (Nat.lt_irrefl _), h]
  · obtain ⟨o, ho⟩ : ∃ o : Nat, Lib.indexByte s.data.toList c = o := ⟨(Lib.indexByte s.data.toList c).toNat, by omega⟩
    obtain ⟨h1, h2⟩ := Lib.indexByte_some ho
    have hlt : o < s.size := by have := (List.getElem?_eq_some_iff.1 h1).1; rw [Array.length_toList] at this; exact this
    rw [pos_at c s o (Nat.le_of_lt hlt) h2 (fun _ => h1), if_pos hlt, ho]
/-- What stands before the first such byte; what stands behind it. -/
def headB (c : Int) (s : ByteArray) : ByteArray := s.extract 0 (pos c s)
def restB (c : Int) (s : ByteArray) : ByteArray := s.extract (pos c s + 1) s.size
theorem restB_size (c : Int) (s : ByteArray) (h : pos c s < s.size) : (restB c s).size = s.size - (pos c s + 1) := by
  unfold restB; rw [ByteArray.size_extract]; omega
theorem word_ev46 (s : ByteArray) (hs : s.size ≤ 1000000000) : Ev (fun k => dataflowref46_word.f k s) (if pos 32 s < s.size then (headB 32 s, restB 32 s, true) else (s, (⟨#[]⟩ : ByteArray), false)) := by
  have key : ∀ (d i : Nat), s.size - i = d → i ≤ s.size → scan (nb 32) s i = pos 32 s → Ev (fun k => dataflowref46_word.l0 k s i) (if pos 32 s < s.size then (headB 32 s, restB 32 s, true) else (s, (⟨#[]⟩ : ByteArray), false)) := by
    intro d
    induction d with
    | zero =>
      intro i h hi hp
      rw [scan_end _ s i (by omega)] at hp
      rw [if_neg (by omega)]
      refine Ev.step (f := fun _ => some (s, (⟨#[]⟩ : ByteArray), false)) (fun k => ?_) (Ev.now _)
      simp only [dataflowref46_word.l0]; rw [if_neg (by omega)]
    | succ d ih =>
      intro i h hi hp
      have hlt : i < s.size := by omega
      have e1 : wrap64 ((i : Int) + 1) = ((i + 1 : Nat) : Int) := by rw [w64 (by omega) (by omega)]; rfl
      by_cases hb : bt s i = 32
      · rw [scan_no _ s i hlt (by unfold nb; simp [hb])] at hp
        unfold headB restB
        rw [← hp, if_pos hlt]
        refine Ev.step (f := fun _ => some (s.extract 0 i, s.extract (i + 1) s.size, true)) (fun k => ?_) (Ev.now _)
        simp only [dataflowref46_word.l0]
        rw [if_pos (by omega), if_pos (by omega), if_pos hb, e1, if_pos (by omega), if_pos (by omega), if_pos (by omega), Int.toNat_natCast, Int.toNat_natCast]
      · rw [scan_at _ s i hlt (by unfold nb; simp [hb])] at hp
        refine Ev.step (fun k => ?_) (ih (i + 1) (by omega) (by omega) hp)
        simp only [dataflowref46_word.l0]
        rw [if_pos (by omega), if_pos (by omega), if_neg hb, e1]
  exact key _ 0 rfl (Nat.zero_le _) rfl
/-- So many words, parted by single spaces, and what follows them. -/
def wordsN : Nat → ByteArray → Option (List ByteArray × ByteArray)
  | 0, s => some ([], s)
  | n + 1, s => if pos 32 s < s.size then (match wordsN n (restB 32 s) with | some (l, r) => some (headB 32 s :: l, r) | none => none) else none
theorem wordsN_some : ∀ (n : Nat) (s : ByteArray) (l : List ByteArray) (r : ByteArray), wordsN n s = some (l, r) → l.length = n ∧ n ≤ s.size ∧ r.size ≤ s.size := by
  intro n
  induction n with
  | zero => intro s l r h; simp only [wordsN, Option.some.injEq, Prod.mk.injEq] at h; obtain ⟨rfl, rfl⟩ := h; exact ⟨rfl, Nat.zero_le _, Nat.le_refl _⟩
  | succ n ih =>
    intro s l r h
    unfold wordsN at h
    by_cases hp : pos 32 s < s.size
    · rw [if_pos hp] at h
      have hz := restB_size 32 s hp
      cases hw : wordsN n (restB 32 s) with
      | none => rw [hw] at h; cases h
      | some x =>
        obtain ⟨l', r'⟩ := x
        rw [hw] at h
        simp only [Option.some.injEq, Prod.mk.injEq] at h
        obtain ⟨rfl, rfl⟩ := h
        obtain ⟨h1, h2, h3⟩ := ih _ _ _ hw
        exact ⟨by rw [List.length_cons, h1], by omega, by omega⟩
    · rw [if_neg hp] at h; cases h
theorem sp_size : (⟨#[32]⟩ : ByteArray).size = 1 := rfl
theorem split_words : ∀ (n : Nat) (s : ByteArray), (∀ l r, wordsN n s = some (l, r) → Lib.splitB ⟨#[32]⟩ 0 n s = l ++ [r]) ∧ (wordsN n s = none → (Lib.splitB ⟨#[32]⟩ 0 n s).length ≤ n) := by
  intro n
  induction n with
  | zero =>
    intro s
    refine ⟨fun l r h => ?_, fun h => by cases h⟩
    simp only [wordsN, Option.some.injEq, Prod.mk.injEq] at h
    obtain ⟨rfl, rfl⟩ := h; rfl
  | succ n ih =>
    intro s
    have hx := idx_pos 32 s
    have e32 : ((32 : UInt8).toNat : Int) = 32 := rfl
    rw [e32] at hx
    by_cases hp : pos 32 s < s.size
    · rw [if_pos hp] at hx
      have hh := Lib.splitB_hit ⟨#[32]⟩ 0 n s (pos 32 s) hx
      rw [Nat.add_zero, sp_size] at hh
      rw [hh]
      obtain ⟨i1, i2⟩ := ih (restB 32 s)
      unfold wordsN
      rw [if_pos hp]
      refine ⟨fun l r h => ?_, fun h => ?_⟩
      · cases hw : wordsN n (restB 32 s) with
        | none => rw [hw] at h; cases h
        | some x =>
          obtain ⟨l', r'⟩ := x
          rw [hw] at h
          simp only [Option.some.injEq, Prod.mk.injEq] at h
          obtain ⟨rfl, rfl⟩ := h
          have := i1 _ _ hw
          unfold restB at this
          rw [this]; rfl
      · cases hw : wordsN n (restB 32 s) with
        | some x => rw [hw] at h; cases h
        | none =>
          have := i2 hw
          unfold restB at this
          rw [List.length_cons]; omega
    · rw [if_neg hp] at hx
      have hm := Lib.splitB_miss ⟨#[32]⟩ 0 (n + 1) s hx
      rw [hm]
      unfold wordsN
      rw [if_neg hp]
      exact ⟨fun l r h => (by cases h), fun _ => by rw [List.length_singleton]; omega⟩
theorem wordsN_big : ∀ (n : Nat) (s : ByteArray), s.size < n → wordsN n s = none := by
  intro n s h
  cases hw : wordsN n s with
  | none => rfl
  | some x => obtain ⟨l, r⟩ := x; have := (wordsN_some n s l r hw).2.1; omega
/-- The words' texts, parted by spaces, and what follows: the text itself. -/
def joinW : List ByteArray → ByteArray → ByteArray
  | [], r => r
  | x :: l, r => x ++ ((⟨#[32]⟩ : ByteArray) ++ joinW l r)
theorem cut_join (c : UInt8) (s : ByteArray) (h : pos c.toNat s < s.size) : s = headB c.toNat s ++ ((⟨#[c]⟩ : ByteArray) ++ restB c.toNat s) := by
  apply ByteArray.ext
  apply Array.toList_inj.1
  unfold headB restB
  rw [ByteArray.data_append, ByteArray.data_append, Array.toList_append, Array.toList_append, Lib.extract_data, Lib.extract_data, List.drop_zero, Nat.sub_zero]
  have hl : pos c.toNat s < s.data.toList.length := by rw [Array.length_toList]; exact h
  have hc : s.data.toList[pos c.toNat s]? = some c := by
    rw [← bt_is s c _ h]
    have h3 : (bt s ((pos c.toNat s : Nat) : Int) != (c.toNat : Int)) = false := scan_off (nb c.toNat) s 0 h
    simpa using h3
  rw [List.getElem?_eq_getElem hl] at hc
  have hd := List.drop_eq_getElem_cons hl
  rw [Option.some.inj hc] at hd
  rw [List.take_of_length_le (i := s.size - (pos c.toNat s + 1)) (by rw [List.length_drop, Array.length_toList]; exact Nat.le_refl _)]
  show _ = List.take (pos c.toNat s) s.data.toList ++ ([c] ++ List.drop (pos c.toNat s + 1) s.data.toList)
  rw [List.singleton_append, ← hd, List.take_append_drop]
theorem wordsN_join : ∀ (n : Nat) (s : ByteArray) (l : List ByteArray) (r : ByteArray), wordsN n s = some (l, r) → s = joinW l r := by
  intro n
  induction n with
  | zero => intro s l r h; simp only [wordsN, Option.some.injEq, Prod.mk.injEq] at h; obtain ⟨rfl, rfl⟩ := h; rfl
  | succ n ih =>
    intro s l r h
    unfold wordsN at h
    by_cases hp : pos 32 s < s.size
    · rw [if_pos hp] at h
      cases hw : wordsN n (restB 32 s) with
      | none => rw [hw] at h; cases h
      | some x =>
        obtain ⟨l', r'⟩ := x
        rw [hw] at h
        simp only [Option.some.injEq, Prod.mk.injEq] at h
        obtain ⟨rfl, rfl⟩ := h
        have := ih _ _ _ hw
        unfold joinW
        rw [← this]
        exact cut_join 32 s hp
    · rw [if_neg hp] at h; cases h
end Go.Proofs.YtnoangbidnigdaaDoor.H
/-! A line of suppressions: the program's note and the reference's line give the same. -/
namespace Go.Proofs.YtnoangbidnigdaaDoor.H
open Go.RowKit Go.Proofs.YtnoangbidnigdaaDoorW.PrintWords
set_option linter.unusedVariables false
set_option linter.unusedSimpArgs false

/-- The index of a word, counted from i, or -1. -/
def idxF (s : ByteArray) : List ByteArray → Nat → Int
  | [], _ => -1
  | x :: r, i => if x.toList = s.toList then (i : Int) else idxF s r (i + 1)
theorem rdS_drop (L : List ByteArray) (i : Nat) (t : ByteArray) (r : List ByteArray) (h : L.drop i = t :: r) : rdOf ByteArray.empty L (i : Int) = t ∧ i < L.length ∧ L.drop (i + 1) = r := by
  have hlt : i < L.length := by
    by_cases c : i < L.length
    · exact c
    · rw [List.drop_of_length_le (by omega)] at h; cases h
  rw [List.drop_eq_getElem_cons hlt] at h
  injection h with h1 h2
  refine ⟨?_, hlt, h2⟩
  unfold rdOf
  rw [Int.toNat_natCast, List.getD_eq_getElem?_getD, List.getElem?_eq_getElem hlt, h1]; rfl
theorem drop_end {α : Type} (L : List α) (i : Nat) (h : L.drop i = []) : L.length ≤ i := by
  by_cases c : i < L.length
  · rw [List.drop_eq_getElem_cons c] at h; cases h
  · omega
theorem lindex_l (s : ByteArray) (L : List ByteArray) (hL : L.length ≤ 1000000) : ∀ (l : List ByteArray) (i : Nat), L.drop i = l → Ev (fun k => slices_Index_string_string.l0 k L s L.length i) (idxF s l i) := by
  intro l
  induction l with
  | nil =>
    intro i h
    have := drop_end L i h
    refine Ev.step (f := fun _ => some (-1)) (fun k => ?_) (Ev.now _)
    simp only [slices_Index_string_string.l0]; rw [if_neg (by omega)]
  | cons x r ih =>
    intro i h
    obtain ⟨h1, h2, h3⟩ := rdS_drop L i x r h
    unfold idxF
    by_cases c : x.toList = s.toList
    · rw [if_pos c]
      refine Ev.step (f := fun _ => some (i : Int)) (fun k => ?_) (Ev.now _)
      simp only [slices_Index_string_string.l0]; rw [if_pos (by omega), if_pos (by omega), if_pos (by omega), h1, if_pos c.symm]
    · rw [if_neg c]
      refine Ev.step (fun k => ?_) (ih (i + 1) h3)
      simp only [slices_Index_string_string.l0]; rw [if_pos (by omega), if_pos (by omega), if_pos (by omega), h1, if_neg (fun e => c e.symm), w64 (by omega) (by omega)]; rfl

def supB : List UInt8 := [115, 117, 112, 112, 114, 101, 115, 115]
def unstB (s : ByteArray) : ByteArray := if s.toList = ([42] : List UInt8) then (⟨#[]⟩ : ByteArray) else s
theorem unstar_eq (s : ByteArray) : suppress_unstar.f s = some (unstB s) := by unfold suppress_unstar.f unstB; split <;> rfl
theorem none_eq (s : ByteArray) : dataflowref46_none.f s = some (unstB s) := by unfold dataflowref46_none.f unstB; split <;> rfl
/-- The number of a kind's word. -/
def kix (w : ByteArray) : Int := idxF w wordsL 0
abbrev LineR : Type := Int × ByteArray × ByteArray × ByteArray × ByteArray × Int
def synt : LineR := (0, (⟨#[]⟩ : ByteArray), (⟨#[]⟩ : ByteArray), (⟨#[]⟩ : ByteArray), (⟨#[]⟩ : ByteArray), 2)
abbrev wd (w : List ByteArray) (i : Int) : ByteArray := rdOf ByteArray.empty w i
/-- What the words of a line give. -/
def lineT (w : List ByteArray) (r : ByteArray) : LineR :=
  if (wd w 0).toList = supB ∧ 0 ≤ kix (wd w 1) ∧ ¬ (wd w 2).toList = ([] : List UInt8) ∧ ¬ (wd w 3).toList = ([] : List UInt8) ∧ ¬ (wd w 4).toList = ([] : List UInt8) then
    (kix (wd w 1), unstB (wd w 2), unstB (wd w 3), unstB (wd w 4), r, chkF (kix (wd w 1)) (unstB (wd w 2)) (unstB (wd w 3)) (unstB (wd w 4)) r) else synt
def lineF (s : ByteArray) : LineR := match wordsN 5 s with | some (l, r) => lineT l r | none => synt
theorem unstB_size (s : ByteArray) (h : s.size ≤ 1000000000) : (unstB s).size ≤ 1000000000 := by
  unfold unstB
  split
  · exact Nat.zero_le _
  · exact h
/-- The reference's number of a kind's word: the last that fits. -/
def kR (w : ByteArray) : Int := if (wd wordsL 4).toList = w.toList then 4 else if (wd wordsL 3).toList = w.toList then 3 else if (wd wordsL 2).toList = w.toList then 2 else if (wd wordsL 1).toList = w.toList then 1 else if (wd wordsL 0).toList = w.toList then 0 else -1
theorem kR_eq (w : ByteArray) : kR w = kix w := by
  unfold kR kix
  rw [show wd wordsL 0 = (⟨#[42]⟩ : ByteArray) from rfl, show wd wordsL 1 = (⟨#[117, 110, 115, 101, 116]⟩ : ByteArray) from rfl, show wd wordsL 2 = (⟨#[115, 116, 97, 116, 101]⟩ : ByteArray) from rfl, show wd wordsL 3 = (⟨#[116, 97, 105, 110, 116]⟩ : ByteArray) from rfl, show wd wordsL 4 = (⟨#[98, 114, 97, 110, 99, 104]⟩ : ByteArray) from rfl]
  unfold wordsL
  simp only [idxF, Lib.toList_data]
  generalize w.data.toList = l
  by_cases h0 : [42] = l
  · subst h0; decide
  · by_cases h1 : [117, 110, 115, 101, 116] = l
    · subst h1; decide
    · by_cases h2 : [115, 116, 97, 116, 101] = l
      · subst h2; decide
      · by_cases h3 : [116, 97, 105, 110, 116] = l
        · subst h3; decide
        · by_cases h4 : [98, 114, 97, 110, 99, 104] = l
          · subst h4; decide
          · simp [h0, h1, h2, h3, h4]
theorem rj2 (w : List ByteArray) (hw : w.length = 5) (b : Bool) (kd : Int) (c m x r : ByteArray) (hc : c.size ≤ 1000000000) (hm : m.size ≤ 1000000000) (hx : x.size ≤ 1000000000) (hr : r.size ≤ 1000000000) : Ev (fun k => dataflowref46_line.j2 k w b kd c m x r)
    (if b = false ∧ ¬ (wd w 2).toList = ([] : List UInt8) ∧ ¬ (wd w 3).toList = ([] : List UInt8) ∧ ¬ (wd w 4).toList = ([] : List UInt8) then (kd, c, m, x, r, chkF kd c m x r) else synt) := by
  cases b with
  | true =>
    rw [if_neg (by simp)]
    exact Ev.step (f := fun _ => some synt) (fun k => by simp only [dataflowref46_line.j2]; rw [if_pos trivial]; rfl) (Ev.now _)
  | false =>
    by_cases h2 : (wd w 2).toList = ([] : List UInt8)
    · rw [if_neg (by simp [h2])]
      exact Ev.step (f := fun _ => some synt) (fun k => by simp only [dataflowref46_line.j2]; rw [if_neg (by simp), if_pos (by omega), if_pos h2]; rfl) (Ev.now _)
    · by_cases h3 : (wd w 3).toList = ([] : List UInt8)
      · rw [if_neg (by simp [h3])]
        exact Ev.step (f := fun _ => some synt) (fun k => by simp only [dataflowref46_line.j2]; rw [if_neg (by simp), if_pos (by omega), if_neg h2, if_pos (by omega), if_pos h3]; rfl) (Ev.now _)
      · by_cases h4 : (wd w 4).toList = ([] : List UInt8)
        · rw [if_neg (by simp [h4])]
          exact Ev.step (f := fun _ => some synt) (fun k => by simp only [dataflowref46_line.j2]; rw [if_neg (by simp), if_pos (by omega), if_neg h2, if_pos (by omega), if_neg h3, if_pos (by omega), if_pos h4]; rfl) (Ev.now _)
        · rw [if_pos ⟨rfl, h2, h3, h4⟩]
          refine Ev.step (f := fun k => (dataflowref46_Check.f k kd c m x r).bind fun t => some (kd, c, m, x, r, t)) (fun k => by simp only [dataflowref46_line.j2]; rw [if_neg (by simp), if_pos (by omega), if_neg h2, if_pos (by omega), if_neg h3, if_pos (by omega), if_neg h4]) (Ev.bind (rCheck_ev kd c m x r (by omega) (by omega) (by omega) (by omega)) (Ev.now _))
theorem rl1_step (w : List ByteArray) (hw : w.length = 5) (j : Nat) (hj : j ≤ 4) (c : Int) (a b d r : ByteArray) (hk : dataflowref46_Kind.f (j : Int) = some (wd wordsL j)) (v : LineR) (h : Ev (fun k => dataflowref46_line.l1 k w ((j + 1 : Nat) : Int) (if (wd wordsL j).toList = (wd w 1).toList then (j : Int) else c) a b d r) v) :
    Ev (fun k => dataflowref46_line.l1 k w j c a b d r) v := by
  have e1 : wrap64 ((j : Int) + 1) = ((j + 1 : Nat) : Int) := by rw [w64 (by omega) (by omega)]; rfl
  refine Ev.step (fun k => ?_) h
  simp only [dataflowref46_line.l1]
  rw [if_pos (by omega), hk, Option.bind_some, if_pos (by omega), e1]
  by_cases hc : (wd wordsL j).toList = (wd w 1).toList
  · rw [if_pos hc, if_pos hc]
  · rw [if_neg hc, if_neg hc]
theorem rl1_ev (w : List ByteArray) (hw : w.length = 5) (c m x r : ByteArray) (hc : c.size ≤ 1000000000) (hm : m.size ≤ 1000000000) (hx : x.size ≤ 1000000000) (hr : r.size ≤ 1000000000) : Ev (fun k => dataflowref46_line.l1 k w 0 (-1) c m x r)
    (if (wd w 0).toList = supB ∧ 0 ≤ kix (wd w 1) ∧ ¬ (wd w 2).toList = ([] : List UInt8) ∧ ¬ (wd w 3).toList = ([] : List UInt8) ∧ ¬ (wd w 4).toList = ([] : List UInt8) then (kix (wd w 1), c, m, x, r, chkF (kix (wd w 1)) c m x r) else synt) := by
  have hend : ∀ kd : Int, kd = kix (wd w 1) → Ev (fun k => dataflowref46_line.l1 k w ((5 : Nat) : Int) kd c m x r) (if (wd w 0).toList = supB ∧ 0 ≤ kix (wd w 1) ∧ ¬ (wd w 2).toList = ([] : List UInt8) ∧ ¬ (wd w 3).toList = ([] : List UInt8) ∧ ¬ (wd w 4).toList = ([] : List UInt8) then (kix (wd w 1), c, m, x, r, chkF (kix (wd w 1)) c m x r) else synt) := by
    intro kd hkd
    subst hkd
    by_cases h0 : (wd w 0).toList = supB
    · have hj := rj2 w hw (decide (kix (wd w 1) < 0)) (kix (wd w 1)) c m x r hc hm hx hr
      have hg : (if (wd w 0).toList = supB ∧ 0 ≤ kix (wd w 1) ∧ ¬ (wd w 2).toList = ([] : List UInt8) ∧ ¬ (wd w 3).toList = ([] : List UInt8) ∧ ¬ (wd w 4).toList = ([] : List UInt8) then ((kix (wd w 1), c, m, x, r, chkF (kix (wd w 1)) c m x r) : LineR) else synt) = (if decide (kix (wd w 1) < 0) = false ∧ ¬ (wd w 2).toList = ([] : List UInt8) ∧ ¬ (wd w 3).toList = ([] : List UInt8) ∧ ¬ (wd w 4).toList = ([] : List UInt8) then (kix (wd w 1), c, m, x, r, chkF (kix (wd w 1)) c m x r) else synt) := by
        by_cases h : decide (kix (wd w 1) < 0) = false ∧ ¬ (wd w 2).toList = ([] : List UInt8) ∧ ¬ (wd w 3).toList = ([] : List UInt8) ∧ ¬ (wd w 4).toList = ([] : List UInt8)
        · rw [if_pos h, if_pos ⟨h0, by have := of_decide_eq_false h.1; omega, h.2⟩]
        · rw [if_neg h, if_neg (fun h2 => h ⟨decide_eq_false (by omega), h2.2.2⟩)]
      rw [hg]
      refine Ev.step (fun k => ?_) hj
      simp only [dataflowref46_line.l1]
      rw [if_neg (by omega), if_pos (by omega), if_pos (show (rdOf ByteArray.empty w 0).toList = ([115, 117, 112, 112, 114, 101, 115, 115] : List UInt8) from h0)]
    · rw [if_neg (fun h => h0 h.1)]
      have hj := rj2 w hw true (kix (wd w 1)) c m x r hc hm hx hr
      rw [if_neg (by simp)] at hj
      refine Ev.step (fun k => ?_) hj
      simp only [dataflowref46_line.l1]
      rw [if_neg (by omega), if_pos (by omega), if_neg (show ¬ (rdOf ByteArray.empty w 0).toList = ([115, 117, 112, 112, 114, 101, 115, 115] : List UInt8) from h0)]
  refine rl1_step w hw 0 (by omega) (-1) c m x r rfl _ ?_
  refine rl1_step w hw 1 (by omega) _ c m x r rfl _ ?_
  refine rl1_step w hw 2 (by omega) _ c m x r rfl _ ?_
  refine rl1_step w hw 3 (by omega) _ c m x r rfl _ ?_
  refine rl1_step w hw 4 (by omega) _ c m x r rfl _ ?_
  exact hend _ (kR_eq (wd w 1))
theorem rtail (w : List ByteArray) (hw : w.length = 5) (hz : ∀ x ∈ w, x.size ≤ 1000000000) (r : ByteArray) (hr : r.size ≤ 1000000000) : Ev (fun k => dataflowref46_line.l0 k r w ((5 : Nat) : Int)) (lineT w r) := by
  have hi : ∀ i : Nat, i < 5 → (wd w i).size ≤ 1000000000 := by
    intro i h
    have : wd w i = w[i]'(by omega) := by unfold wd rdOf; rw [Int.toNat_natCast, List.getD_eq_getElem?_getD, List.getElem?_eq_getElem (by omega)]; rfl
    rw [this]; exact hz _ (List.getElem_mem _)
  unfold lineT
  refine Ev.step (f := fun k => dataflowref46_line.l1 k w 0 (-1) (unstB (wd w 2)) (unstB (wd w 3)) (unstB (wd w 4)) r) (fun k => ?_) (rl1_ev w hw _ _ _ r (unstB_size _ (hi 2 (by omega))) (unstB_size _ (hi 3 (by omega))) (unstB_size _ (hi 4 (by omega))) hr)
  simp only [dataflowref46_line.l0]
  rw [if_neg (by omega), if_pos (by omega), none_eq, Option.bind_some, if_pos (by omega), none_eq, Option.bind_some, if_pos (by omega), none_eq, Option.bind_some]
theorem rline_l : ∀ (n : Nat) (s : ByteArray) (acc : List ByteArray), acc.length + n = 5 → s.size ≤ 1000000000 → (∀ x ∈ acc, x.size ≤ 1000000000) →
    Ev (fun k => dataflowref46_line.l0 k s acc ((acc.length : Nat) : Int)) (match wordsN n s with | some (l, r) => lineT (acc ++ l) r | none => synt) := by
  intro n
  induction n with
  | zero =>
    intro s acc ha hs hz
    have e : acc.length = 5 := by omega
    simp only [wordsN, List.append_nil]
    rw [e]
    exact rtail acc e hz s hs
  | succ n ih =>
    intro s acc ha hs hz
    unfold wordsN
    by_cases hp : pos 32 s < s.size
    · rw [if_pos hp]
      have hr := restB_size 32 s hp
      have hh : (headB 32 s).size ≤ 1000000000 := by unfold headB; rw [ByteArray.size_extract]; omega
      have hI := ih (restB 32 s) (acc ++ [headB 32 s]) (by rw [List.length_append, List.length_singleton]; omega) (by omega) (fun x hx => by
        rcases List.mem_append.1 hx with h | h
        · exact hz x h
        · rw [List.mem_singleton.1 h]; exact hh)
      have hw := word_ev46 s hs
      rw [if_pos hp] at hw
      refine Ev.step (f := fun k => (dataflowref46_word.f k s).bind fun bt => (if bt.2.2 = true then (if acc.length < 8796093022208 then (dataflowref46_line.l0 k bt.2.1 (acc ++ [bt.1]) (wrap64 ((acc.length : Int) + 1))) else none) else (some synt))) (fun k => ?_) (Ev.bind hw ?_)
      · simp only [dataflowref46_line.l0]; rw [if_pos (by omega)]; rfl
      · refine Ev.congr (fun k => ?_) (f := fun k => dataflowref46_line.l0 k (restB 32 s) (acc ++ [headB 32 s]) (((acc ++ [headB 32 s]).length : Nat) : Int)) ?_
        · rw [if_pos rfl, if_pos (by omega), w64 (by omega) (by omega), List.length_append, List.length_singleton]; rfl
        · revert hI
          cases wordsN n (restB 32 s) with
          | none => exact fun h => h
          | some x => intro h; simpa [List.append_assoc] using h
    · rw [if_neg hp]
      have hw := word_ev46 s hs
      rw [if_neg hp] at hw
      refine Ev.step (f := fun k => (dataflowref46_word.f k s).bind fun bt => (if bt.2.2 = true then (if acc.length < 8796093022208 then (dataflowref46_line.l0 k bt.2.1 (acc ++ [bt.1]) (wrap64 ((acc.length : Int) + 1))) else none) else (some synt))) (fun k => ?_) (Ev.bind hw ?_)
      · simp only [dataflowref46_line.l0]; rw [if_pos (by omega)]; rfl
      · exact Ev.congr (fun k => by rw [if_neg (by simp)]) (Ev.now _)
theorem rline_ev (s : ByteArray) (hs : s.size ≤ 1000000000) : Ev (fun k => dataflowref46_line.f k s) (lineF s) := by
  have := rline_l 5 s [] rfl hs (fun x hx => by cases hx)
  unfold lineF
  show Ev (fun k => dataflowref46_line.l0 k s [] 0) _
  simpa using this
abbrev NoteR : Type := Int × ByteArray × ByteArray × ByteArray × ByteArray × Option Int
def asNote (x : LineR) : NoteR := (x.1, x.2.1, x.2.2.1, x.2.2.2.1, x.2.2.2.2.1, some x.2.2.2.2.2)
theorem wd_app (l : List ByteArray) (r : ByteArray) (i : Nat) (h : i < l.length) : wd (l ++ [r]) i = wd l i := by
  unfold wd rdOf
  rw [Int.toNat_natCast, List.getD_eq_getElem?_getD, List.getD_eq_getElem?_getD, List.getElem?_append_left h]
theorem wd_last (l : List ByteArray) (r : ByteArray) : wd (l ++ [r]) (l.length : Nat) = r := by
  unfold wd rdOf
  rw [Int.toNat_natCast, List.getD_eq_getElem?_getD, List.getElem?_append_right (Nat.le_refl _), Nat.sub_self]; rfl
theorem note_j0 (t : List ByteArray) (ht : t.length = 6) (hz : ∀ i : Nat, i < 6 → (wd t i).size ≤ 1000000000) : Ev (fun k => suppress_note.j0 k t ((wd t 0).toList != supB) wordsL) (asNote (lineT t (wd t 5))) := by
  unfold lineT
  by_cases h0 : (wd t 0).toList = supB
  · have e0 : ((wd t 0).toList != supB) = false := by simp [h0]
    rw [e0]
    refine Ev.step (f := fun k => (slices_Index_string_string.f k wordsL (wd t 1)).bind fun q => (if q < 0 then (some (asNote synt)) else (if (wd t 2).toList = ([] : List UInt8) then some (asNote synt) else (if (wd t 3).toList = ([] : List UInt8) then some (asNote synt) else (if (wd t 4).toList = ([] : List UInt8) then some (asNote synt) else ((suppress_Check.f k q (unstB (wd t 2)) (unstB (wd t 3)) (unstB (wd t 4)) (wd t 5)).bind fun e => some (q, unstB (wd t 2), unstB (wd t 3), unstB (wd t 4), wd t 5, some e))))))) (fun k => ?_) (Ev.bind (lindex_l (wd t 1) wordsL (by decide) wordsL 0 rfl) ?_)
    · simp only [suppress_note.j0]
      rw [if_neg (by simp), if_pos (by omega)]
      congr 1
      funext q
      rw [unstar_eq, unstar_eq, unstar_eq]
      simp only [Option.bind_some, if_pos (show (2 : Int) < (t.length : Int) by omega), if_pos (show (3 : Int) < (t.length : Int) by omega), if_pos (show (4 : Int) < (t.length : Int) by omega), if_pos (show (5 : Int) < (t.length : Int) by omega)]
      rfl
    · rw [show idxF (wd t 1) wordsL 0 = kix (wd t 1) from rfl]
      by_cases hk : kix (wd t 1) < 0
      · rw [if_neg (fun h => by omega)]
        exact Ev.congr (fun k => by rw [if_pos hk]) (Ev.now _)
      · by_cases h2 : (wd t 2).toList = ([] : List UInt8)
        · rw [if_neg (fun h => h.2.2.1 h2)]
          exact Ev.congr (fun k => by rw [if_neg hk, if_pos h2]) (Ev.now _)
        · by_cases h3 : (wd t 3).toList = ([] : List UInt8)
          · rw [if_neg (fun h => h.2.2.2.1 h3)]
            exact Ev.congr (fun k => by rw [if_neg hk, if_neg h2, if_pos h3]) (Ev.now _)
          · by_cases h4 : (wd t 4).toList = ([] : List UInt8)
            · rw [if_neg (fun h => h.2.2.2.2 h4)]
              exact Ev.congr (fun k => by rw [if_neg hk, if_neg h2, if_neg h3, if_pos h4]) (Ev.now _)
            · rw [if_pos ⟨h0, by omega, h2, h3, h4⟩]
              have u2 := unstB_size _ (hz 2 (by omega))
              have u3 := unstB_size _ (hz 3 (by omega))
              have u4 := unstB_size _ (hz 4 (by omega))
              have u5 := hz 5 (by omega)
              exact Ev.congr (f := fun k => (suppress_Check.f k (kix (wd t 1)) (unstB (wd t 2)) (unstB (wd t 3)) (unstB (wd t 4)) (wd t 5)).bind fun e => some (kix (wd t 1), unstB (wd t 2), unstB (wd t 3), unstB (wd t 4), wd t 5, some e)) (fun k => by rw [if_neg hk, if_neg h2, if_neg h3, if_neg h4]) (Ev.bind (lCheck_ev (kix (wd t 1)) (unstB (wd t 2)) (unstB (wd t 3)) (unstB (wd t 4)) (wd t 5) (Nat.le_trans u2 (by decide)) (Nat.le_trans u3 (by decide)) (Nat.le_trans u4 (by decide)) (Nat.le_trans u5 (by decide))) (Ev.now _))
  · have e0 : ((wd t 0).toList != supB) = true := by simp [h0]
    rw [e0, if_neg (fun h => h0 h.1)]
    exact Ev.step (f := fun _ => some (asNote synt)) (fun k => by simp only [suppress_note.j0]; rw [if_pos trivial]; rfl) (Ev.now _)
theorem splitB_sizes (sep : ByteArray) : ∀ (n : Nat) (s : ByteArray) (x : ByteArray), x ∈ Lib.splitB sep 0 n s → x.size ≤ s.size := by
  intro n
  induction n with
  | zero => intro s x h; rw [Lib.splitB_zero, List.mem_singleton] at h; rw [h]; exact Nat.le_refl _
  | succ n ih =>
    intro s x h
    rcases Lib.indexB_cases s sep with hi | ⟨i, hi, _⟩
    · rw [Lib.splitB_miss sep 0 (n + 1) s hi, List.mem_singleton] at h; rw [h]; exact Nat.le_refl _
    · rw [Lib.splitB_hit sep 0 n s i hi] at h
      rcases List.mem_cons.1 h with h | h
      · rw [h, ByteArray.size_extract]; omega
      · have := ih _ _ h; rw [ByteArray.size_extract] at this; omega
theorem note_ev (s : ByteArray) (hs : s.size ≤ 1000000000) : Ev (fun k => suppress_note.f k s) (asNote (lineF s)) := by
  have hS : strings_SplitN.f s (⟨#[32]⟩ : ByteArray) 6 = some (Lib.splitB ⟨#[32]⟩ 0 (min 6 (s.size + 1) - 1) s) := by
    unfold strings_SplitN.f
    rw [if_pos ⟨by omega, by decide, by omega, by omega⟩]; rfl
  have hsz := splitB_sizes ⟨#[32]⟩ (min 6 (s.size + 1) - 1) s
  have ht : Ev (fun k => suppress_note.j0 k (Lib.splitB ⟨#[32]⟩ 0 (min 6 (s.size + 1) - 1) s) true wordsL) (asNote synt) := Ev.step (f := fun _ => some (asNote synt)) (fun k => by simp only [suppress_note.j0]; rw [if_pos trivial]; rfl) (Ev.now _)
  have hlen := Lib.splitB_length_le ⟨#[32]⟩ 0 (min 6 (s.size + 1) - 1) s
  unfold lineF
  cases hw : wordsN 5 s with
  | none =>
    have hl : (Lib.splitB ⟨#[32]⟩ 0 (min 6 (s.size + 1) - 1) s).length < 6 := by
      by_cases h5 : 5 ≤ s.size
      · have e : min 6 (s.size + 1) - 1 = 5 := by omega
        rw [e]
        have := (split_words 5 s).2 hw
        omega
      · omega
    refine Ev.congr (fun k => ?_) ht
    unfold suppress_note.f
    rw [hS, Option.bind_some, if_pos (by omega)]
  | some x =>
    obtain ⟨l, r⟩ := x
    obtain ⟨h1, h2, h3⟩ := wordsN_some 5 s l r hw
    have e : min 6 (s.size + 1) - 1 = 5 := by omega
    have hsp := (split_words 5 s).1 l r hw
    rw [e] at hS hsz
    rw [hsp] at hS hsz
    have ht6 : (l ++ [r]).length = 6 := by rw [List.length_append, List.length_singleton]; omega
    have hz : ∀ i : Nat, i < 6 → (wd (l ++ [r]) i).size ≤ 1000000000 := by
      intro i hi
      have : wd (l ++ [r]) i = (l ++ [r])[i]'(by omega) := by unfold wd rdOf; rw [Int.toNat_natCast, List.getD_eq_getElem?_getD, List.getElem?_eq_getElem (by omega)]; rfl
      rw [this]
      have h9 : ((l ++ [r])[i]'(by omega)).size ≤ s.size := hsz _ (List.getElem_mem _)
      omega
    have hj := note_j0 (l ++ [r]) ht6 hz
    have hT : lineT (l ++ [r]) (wd (l ++ [r]) 5) = lineT l r := by
      have e0 := wd_app l r 0 (by omega)
      have e1 := wd_app l r 1 (by omega)
      have e2 := wd_app l r 2 (by omega)
      have e3 := wd_app l r 3 (by omega)
      have e4 := wd_app l r 4 (by omega)
      have e5 := wd_last l r
      rw [h1] at e5
      unfold lineT
      rw [show wd (l ++ [r]) 0 = wd l 0 from e0, show wd (l ++ [r]) 1 = wd l 1 from e1, show wd (l ++ [r]) 2 = wd l 2 from e2, show wd (l ++ [r]) 3 = wd l 3 from e3, show wd (l ++ [r]) 4 = wd l 4 from e4, show wd (l ++ [r]) 5 = r from e5]
    rw [hT] at hj
    refine Ev.congr (fun k => ?_) hj
    unfold suppress_note.f
    rw [hS, Option.bind_some, if_neg (by omega), if_pos (by omega)]
    rfl
end Go.Proofs.YtnoangbidnigdaaDoor.H
/-! The suppressions of a text: the program's and the reference's say the same. -/
namespace Go.Proofs.YtnoangbidnigdaaDoor.H
open Go.RowKit Go.Proofs.YtnoangbidnigdaaDoorW.PrintWords
set_option linter.unusedVariables false
set_option linter.unusedSimpArgs false

def noteOf (x : LineR) : S23 := ⟨x.1, x.2.1, x.2.2.1, x.2.2.2.1, x.2.2.2.2.1⟩
def errOf (x : LineR) : Int := x.2.2.2.2.2
/-- The suppressions of a text behind those that were read, or an error and the number of its line. -/
def parseF (s : ByteArray) (out : List S23) : List S23 × Int × Int :=
  if _h0 : s.size = 0 then (out, 0, 0)
  else if 200 ≤ out.length then ([], 201, 3)
  else if _h : pos 10 s < s.size then
    (if errOf (lineF (headB 10 s)) = 0 then parseF (restB 10 s) (out ++ [noteOf (lineF (headB 10 s))]) else ([], (out.length : Int) + 1, errOf (lineF (headB 10 s))))
  else ([], (out.length : Int) + 1, 21)
termination_by s.size
decreasing_by rw [restB_size 10 s _h]; omega
theorem parseF_nil (s : ByteArray) (out : List S23) (h : s.size = 0) : parseF s out = (out, 0, 0) := by rw [parseF, dif_pos h]
theorem parseF_many (s : ByteArray) (out : List S23) (h : ¬ s.size = 0) (h2 : 200 ≤ out.length) : parseF s out = ([], 201, 3) := by rw [parseF, dif_neg h, if_pos h2]
theorem parseF_open (s : ByteArray) (out : List S23) (h : ¬ s.size = 0) (h2 : ¬ 200 ≤ out.length) (h3 : ¬ pos 10 s < s.size) : parseF s out = ([], (out.length : Int) + 1, 21) := by rw [parseF, dif_neg h, if_neg h2, dif_neg h3]
theorem parseF_line (s : ByteArray) (out : List S23) (h : ¬ s.size = 0) (h2 : ¬ 200 ≤ out.length) (h3 : pos 10 s < s.size) (h4 : errOf (lineF (headB 10 s)) = 0) : parseF s out = parseF (restB 10 s) (out ++ [noteOf (lineF (headB 10 s))]) := by rw [parseF, dif_neg h, if_neg h2, dif_pos h3, if_pos h4]
theorem parseF_bad (s : ByteArray) (out : List S23) (h : ¬ s.size = 0) (h2 : ¬ 200 ≤ out.length) (h3 : pos 10 s < s.size) (h4 : ¬ errOf (lineF (headB 10 s)) = 0) : parseF s out = ([], (out.length : Int) + 1, errOf (lineF (headB 10 s))) := by rw [parseF, dif_neg h, if_neg h2, dif_pos h3, if_neg h4]
theorem cut_yes (s : ByteArray) (hs : s.size ≤ 1000000000) (h : pos 10 s < s.size) : strings_Cut.f s (⟨#[10]⟩ : ByteArray) = some (headB 10 s, restB 10 s, true) := by
  have hx := idx_pos 10 s
  have e10 : ((10 : UInt8).toNat : Int) = 10 := rfl
  rw [e10, if_pos h] at hx
  obtain ⟨h1, h2, h3⟩ := Lib.cutB_hit s ⟨#[10]⟩ _ hx
  unfold strings_Cut.f
  rw [if_pos (by omega), h1, h2, h3]
  rfl
theorem cut_no (s : ByteArray) (hs : s.size ≤ 1000000000) (h : ¬ pos 10 s < s.size) : ∃ a b, strings_Cut.f s (⟨#[10]⟩ : ByteArray) = some (a, b, false) := by
  have hx := idx_pos 10 s
  have e10 : ((10 : UInt8).toNat : Int) = 10 := rfl
  rw [e10, if_neg h] at hx
  obtain ⟨h1, h2, h3⟩ := Lib.cutB_miss s ⟨#[10]⟩ hx
  unfold strings_Cut.f
  rw [if_pos (by omega), h3]
  exact ⟨_, _, rfl⟩
theorem head_size (c : Int) (s : ByteArray) : (headB c s).size ≤ s.size := by unfold headB; rw [ByteArray.size_extract]; omega
theorem lparse_l : ∀ (N : Nat) (s : ByteArray) (out : List S23), s.size ≤ N → s.size ≤ 1000000000 → out.length ≤ 200 → Ev (fun k => suppress_Parse.l0 k s out ((out.length + 1 : Nat) : Int)) (parseF s out) := by
  intro N
  induction N with
  | zero =>
    intro s out hN hs ho
    have h0 : s.size = 0 := by omega
    rw [parseF_nil s out h0]
    exact Ev.step (f := fun _ => some (out, 0, 0)) (fun k => by simp only [suppress_Parse.l0]; rw [if_pos ((nil_size s).2 h0)]) (Ev.now _)
  | succ N ih =>
    intro s out hN hs ho
    by_cases h0 : s.size = 0
    · rw [parseF_nil s out h0]
      exact Ev.step (f := fun _ => some (out, 0, 0)) (fun k => by simp only [suppress_Parse.l0]; rw [if_pos ((nil_size s).2 h0)]) (Ev.now _)
    · have hne : ¬ s.toList = ([] : List UInt8) := fun h => h0 ((nil_size s).1 h)
      by_cases h3 : pos 10 s < s.size
      · have hc := cut_yes s hs h3
        by_cases h2 : 200 ≤ out.length
        · rw [parseF_many s out h0 h2]
          have e : out.length = 200 := by omega
          exact Ev.step (f := fun _ => some ([], 201, 3)) (fun k => by simp only [suppress_Parse.l0]; rw [if_neg hne, hc, Option.bind_some, if_pos (by omega), e]; rfl) (Ev.now _)
        · have hh := head_size 10 s
          have hr := restB_size 10 s h3
          have hn := note_ev (headB 10 s) (by omega)
          refine Ev.step (f := fun k => (suppress_note.f k (headB 10 s)).bind fun n => ((errors_Is.f n.2.2.2.2.2 (some 0)).bind fun t => (if t = true then (if out.length < 1954687338268 then (suppress_Parse.l0 k (restB 10 s) (out ++ [(⟨n.1, n.2.1, n.2.2.1, n.2.2.2.1, n.2.2.2.2.1⟩ : S23)]) (wrap64 (((out.length + 1 : Nat) : Int) + 1))) else (none)) else ((errors_As.f n.2.2.2.2.2 0).bind fun t2 => (some (([] : List (S23)), ((out.length + 1 : Nat) : Int), t2)))))) (fun k => by simp only [suppress_Parse.l0]; rw [if_neg hne, hc, Option.bind_some, if_neg (by omega), if_pos rfl]) (Ev.bind hn ?_)
          show Ev (fun k => (errors_Is.f (some (errOf (lineF (headB 10 s)))) (some 0)).bind fun t => (if t = true then (if out.length < 1954687338268 then (suppress_Parse.l0 k (restB 10 s) (out ++ [noteOf (lineF (headB 10 s))]) (wrap64 (((out.length + 1 : Nat) : Int) + 1))) else (none)) else ((errors_As.f (some (errOf (lineF (headB 10 s)))) 0).bind fun t2 => (some (([] : List (S23)), ((out.length + 1 : Nat) : Int), t2))))) _
          by_cases h4 : errOf (lineF (headB 10 s)) = 0
          · rw [parseF_line s out h0 h2 h3 h4, h4]
            have hI := ih (restB 10 s) (out ++ [noteOf (lineF (headB 10 s))]) (by omega) (by omega) (by rw [List.length_append, List.length_singleton]; omega)
            rw [List.length_append, List.length_singleton] at hI
            refine Ev.congr (fun k => ?_) hI
            show (some true).bind _ = _
            rw [Option.bind_some, if_pos rfl, if_pos (by omega), w64 (by omega) (by omega)]
            rfl
          · rw [parseF_bad s out h0 h2 h3 h4]
            refine Ev.congr (f := fun _ => some ([], (out.length : Int) + 1, errOf (lineF (headB 10 s)))) (fun k => ?_) (Ev.now _)
            have hb : (some (errOf (lineF (headB 10 s))) == some (0 : Int)) = false := by simpa using h4
            unfold errors_Is.f errors_As.f
            simp only [hb, Option.bind_some]
            rfl
      · obtain ⟨a, b, hc⟩ := cut_no s hs h3
        by_cases h2 : 200 ≤ out.length
        · rw [parseF_many s out h0 h2]
          have e : out.length = 200 := by omega
          exact Ev.step (f := fun _ => some ([], 201, 3)) (fun k => by simp only [suppress_Parse.l0]; rw [if_neg hne, hc, Option.bind_some, if_pos (by omega), e]; rfl) (Ev.now _)
        · rw [parseF_open s out h0 h2 h3]
          exact Ev.step (f := fun _ => some ([], (out.length : Int) + 1, 21)) (fun k => by simp only [suppress_Parse.l0]; rw [if_neg hne, hc, Option.bind_some, if_neg (by omega), if_neg (by simp)]; rfl) (Ev.now _)
theorem lparse_ev (s : ByteArray) (hs : s.size ≤ 65536) : Ev (fun k => suppress_Parse.f k s) (parseF s []) :=
  Ev.congr (f := fun k => suppress_Parse.l0 k s [] ((([] : List S23).length + 1 : Nat) : Int)) (fun k => by unfold suppress_Parse.f; rw [if_neg (by omega)]; rfl) (lparse_l s.size s [] (Nat.le_refl _) (by omega) (Nat.zero_le _))
theorem ext_data (s : ByteArray) (a : Nat) : (s.extract a s.size).data.toList = s.data.toList.drop a := by
  rw [Lib.extract_data, List.take_of_length_le]
  rw [List.length_drop, Array.length_toList]; exact Nat.le_refl _
theorem ext_size (s : ByteArray) (a : Nat) : (s.extract a s.size).size = s.size - a := by rw [ByteArray.size_extract]; omega
theorem ext_head (s : ByteArray) (a n : Nat) (h : a + n ≤ s.size) : (s.extract a s.size).extract 0 n = s.extract a (a + n) := by
  apply ByteArray.ext
  apply Array.toList_inj.1
  rw [Lib.extract_data, ext_data, Lib.extract_data, List.drop_zero, Nat.sub_zero, Nat.add_sub_cancel_left]
theorem ext_rest (s : ByteArray) (a m : Nat) : (s.extract a s.size).extract m (s.extract a s.size).size = s.extract (a + m) s.size := by
  apply ByteArray.ext
  apply Array.toList_inj.1
  rw [ext_data, ext_data, ext_data, List.drop_drop]
theorem bt_ext (s : ByteArray) (a j : Nat) (h : a + j < s.size) : bt (s.extract a s.size) j = bt s ((a + j : Nat) : Int) := by
  have h1 : j < (s.extract a s.size).size := by rw [ext_size]; omega
  have hc := (bt_is (s.extract a s.size) (s[a + j]'h) j h1)
  rw [ext_data, List.getElem?_drop] at hc
  have hl : a + j < s.data.toList.length := by rw [Array.length_toList]; exact h
  rw [bt_nat' s (a + j) h]
  refine hc.2 ?_
  rw [List.getElem?_eq_getElem hl]
  congr 1
theorem ext_pos (s : ByteArray) (a : Nat) (ha : a ≤ s.size) : pos 10 (s.extract a s.size) = scan (nb 10) s a - a := by
  have h1 := le_scan (nb 10) s a
  have h2 := scan_le' (nb 10) s a ha
  refine scan_eq _ _ 0 _ (Nat.zero_le _) (by rw [ext_size]; omega) (fun j _ hj => ?_) (fun hp => ?_)
  · rw [bt_ext s a j (by omega)]
    exact scan_all (nb 10) s a (a + j) (by omega) (by omega)
  · rw [ext_size] at hp
    rw [bt_ext s a _ (by omega)]
    have : a + (scan (nb 10) s a - a) = scan (nb 10) s a := by omega
    rw [this]
    exact scan_off (nb 10) s a (by omega)
theorem rparse_l (S : ByteArray) (hS : S.size ≤ 1000000000) : ∀ (d i : Nat) (out : List S23) (a : Nat), S.size - i = d → i ≤ S.size → a ≤ i → scan (nb 10) S i = scan (nb 10) S a → out.length ≤ 200 → Ev (fun k => dataflowref46_Parse.l0 k S out a i) (parseF (S.extract a S.size) out) := by
  intro d
  induction d with
  | zero =>
    intro i out a h hi hai hsc ho
    have e : i = S.size := by omega
    subst e
    rw [scan_end _ S S.size (by omega)] at hsc
    have hp := ext_pos S a hai
    have hz := ext_size S a
    have hj1 : ∀ b : Bool, (b = true → ([], 201, 3) = parseF (S.extract a S.size) out) → (b = false → (if (a : Int) < (S.size : Int) then (([], (out.length : Int) + 1, 21) : List S23 × Int × Int) else (out, 0, 0)) = parseF (S.extract a S.size) out) → Ev (fun k => dataflowref46_Parse.j1 k S out a b) (parseF (S.extract a S.size) out) := by
      intro b h1 h2
      cases b with
      | true => rw [← h1 rfl]; exact Ev.step (f := fun _ => some ([], 201, 3)) (fun k => by simp only [dataflowref46_Parse.j1]; rw [if_pos trivial]) (Ev.now _)
      | false =>
        rw [← h2 rfl]
        by_cases hlt : (a : Int) < (S.size : Int)
        · rw [if_pos hlt]; exact Ev.step (f := fun _ => some ([], (out.length : Int) + 1, 21)) (fun k => by simp only [dataflowref46_Parse.j1]; rw [if_neg (by simp), if_pos hlt, w64 (by omega) (by omega)]) (Ev.now _)
        · rw [if_neg hlt]; exact Ev.step (f := fun _ => some (out, 0, 0)) (fun k => by simp only [dataflowref46_Parse.j1]; rw [if_neg (by simp), if_neg hlt]) (Ev.now _)
    by_cases hlt : (a : Int) < (S.size : Int)
    · refine Ev.step (f := fun k => dataflowref46_Parse.j1 k S out a ((out.length : Int) == 200)) (fun k => by simp only [dataflowref46_Parse.l0]; rw [if_neg (by omega), if_pos hlt]) (hj1 _ (fun hb => ?_) (fun hb => ?_))
      · have : (out.length : Int) = 200 := by simpa using hb
        rw [parseF_many _ _ (by omega) (by omega)]
      · have : ¬ (out.length : Int) = 200 := by simpa using hb
        rw [if_pos hlt, parseF_open _ _ (by omega) (by omega) (by omega)]
    · refine Ev.step (f := fun k => dataflowref46_Parse.j1 k S out a false) (fun k => by simp only [dataflowref46_Parse.l0]; rw [if_neg (by omega), if_neg hlt]) (hj1 _ (fun hb => by cases hb) (fun hb => ?_))
      rw [if_neg hlt, parseF_nil _ _ (by omega)]
  | succ d ih =>
    intro i out a h hi hai hsc ho
    have hlt : i < S.size := by omega
    have e1 : wrap64 ((i : Int) + 1) = ((i + 1 : Nat) : Int) := by rw [w64 (by omega) (by omega)]; rfl
    by_cases hb : bt S i = 10
    · rw [scan_no _ S i hlt (by unfold nb; simp [hb])] at hsc
      have hp := ext_pos S a (by omega)
      have hz := ext_size S a
      rw [← hsc] at hp
      have hhead : headB 10 (S.extract a S.size) = S.extract a i := by
        unfold headB
        rw [hp, ext_head S a (i - a) (by omega)]
        congr 1; omega
      have hrest : restB 10 (S.extract a S.size) = S.extract (i + 1) S.size := by
        unfold restB
        rw [hp, ext_rest S a (i - a + 1)]
        congr 1; omega
      by_cases h2 : (out.length : Int) = 200
      · rw [parseF_many _ _ (by omega) (by omega)]
        exact Ev.step (f := fun _ => some ([], 201, 3)) (fun k => by simp only [dataflowref46_Parse.l0]; rw [if_pos (by omega), if_pos (by omega), if_pos hb, if_pos h2]) (Ev.now _)
      · have hl := rline_ev (S.extract a i) (by rw [ByteArray.size_extract]; omega)
        refine Ev.step (f := fun k => (dataflowref46_line.f k (S.extract a i)).bind fun n => (if n.2.2.2.2.2 = 0 then (if out.length < 1954687338268 then (dataflowref46_Parse.l0 k S (out ++ [(⟨n.1, n.2.1, n.2.2.1, n.2.2.2.1, n.2.2.2.2.1⟩ : S23)]) ((i + 1 : Nat) : Int) ((i + 1 : Nat) : Int)) else (none)) else (some (([] : List (S23)), (out.length : Int) + 1, n.2.2.2.2.2)))) (fun k => by simp only [dataflowref46_Parse.l0]; rw [if_pos (by omega), if_pos (by omega), if_pos hb, if_neg h2, if_pos (by omega), if_pos (by omega), if_pos (by omega), e1, w64 (i := (out.length : Int) + 1) (by omega) (by omega), Int.toNat_natCast, Int.toNat_natCast]) (Ev.bind hl ?_)
        show Ev (fun k => (if errOf (lineF (S.extract a i)) = 0 then (if out.length < 1954687338268 then (dataflowref46_Parse.l0 k S (out ++ [noteOf (lineF (S.extract a i))]) ((i + 1 : Nat) : Int) ((i + 1 : Nat) : Int)) else (none)) else (some (([] : List (S23)), (out.length : Int) + 1, errOf (lineF (S.extract a i)))))) _
        by_cases h4 : errOf (lineF (S.extract a i)) = 0
        · rw [parseF_line _ _ (by omega) (by omega) (by omega) (by rw [hhead]; exact h4), hhead, hrest]
          refine Ev.congr (fun k => by rw [if_pos h4, if_pos (by omega)]) (ih (i + 1) (out ++ [noteOf (lineF (S.extract a i))]) (i + 1) (by omega) (by omega) (Nat.le_refl _) rfl (by rw [List.length_append, List.length_singleton]; omega))
        · rw [parseF_bad _ _ (by omega) (by omega) (by omega) (by rw [hhead]; exact h4), hhead]
          exact Ev.congr (fun k => by rw [if_neg h4]) (Ev.now _)
    · rw [scan_at _ S i hlt (by unfold nb; simp [hb])] at hsc
      refine Ev.step (fun k => ?_) (ih (i + 1) out a (by omega) (by omega) (by omega) hsc ho)
      simp only [dataflowref46_Parse.l0]
      rw [if_pos (by omega), if_pos (by omega), if_neg hb, e1]
theorem ext_whole (s : ByteArray) : s.extract 0 s.size = s := by
  apply ByteArray.ext
  apply Array.toList_inj.1
  rw [ext_data, List.drop_zero]
theorem rparse_ev (s : ByteArray) (hs : s.size ≤ 65536) : Ev (fun k => dataflowref46_Parse.f k s) (parseF s []) := by
  have := rparse_l s (by omega) _ 0 [] 0 rfl (Nat.zero_le _) (Nat.le_refl _) rfl (Nat.zero_le _)
  rw [ext_whole] at this
  exact Ev.congr (f := fun k => dataflowref46_Parse.l0 k s [] ((0 : Nat) : Int) ((0 : Nat) : Int)) (fun k => by unfold dataflowref46_Parse.f; rw [if_neg (by omega)]; rfl) this
theorem same_l (l : List S23) (hl : l.length ≤ 1000000) : ∀ (d i : Nat), l.length - i = d → Ev (fun k => dataflowref46_Same.l0 k l l i) true := by
  intro d
  induction d with
  | zero => intro i h; exact Ev.step (f := fun _ => some true) (fun k => by simp only [dataflowref46_Same.l0]; rw [if_neg (by omega)]) (Ev.now _)
  | succ d ih =>
    intro i h
    refine Ev.step (fun k => ?_) (ih (i + 1) (by omega))
    simp only [dataflowref46_Same.l0]
    rw [if_pos (by omega), if_pos (by omega), if_pos (by omega), w64 (by omega) (by omega)]
    simp only [beq_self_eq_true, Bool.not_true, Bool.or_self, Bool.false_eq_true, if_false]
    rfl
theorem same_ev (l : List S23) (hl : l.length ≤ 1000000) : Ev (fun k => dataflowref46_Same.f k l l) true :=
  Ev.congr (f := fun k => dataflowref46_Same.l0 k l l ((0 : Nat) : Int)) (fun k => by unfold dataflowref46_Same.f; rw [if_pos rfl]; rfl) (same_l l hl _ 0 rfl)
end Go.Proofs.YtnoangbidnigdaaDoor.H
/-! The text of suppressions: the program's and the reference's; it is parsed as the suppressions, and what is parsed has this text. -/
namespace Go.Proofs.YtnoangbidnigdaaDoor.H
open Go.RowKit Go.Proofs.YtnoangbidnigdaaDoorW.PrintWords
set_option linter.unusedVariables false
set_option linter.unusedSimpArgs false

def chkN (n : S23) : Int := chkF n.f0 n.f1 n.f2 n.f3 n.f4
/-- The first error of the suppressions. -/
def chkAll : List S23 → Int
  | [] => 0
  | n :: l => if chkN n = 0 then chkAll l else chkN n
def textF (l : List S23) : ByteArray × Int := if l.length > 200 then ((⟨#[]⟩ : ByteArray), 3) else if chkAll l = 0 then (nText l (⟨#[]⟩ : ByteArray), 0) else ((⟨#[]⟩ : ByteArray), chkAll l)
/-- All strings are as long as strings may be. -/
def Szs (l : List S23) : Prop := ∀ n ∈ l, n.f1.size ≤ 9223372036854775807 ∧ n.f2.size ≤ 9223372036854775807 ∧ n.f3.size ≤ 9223372036854775807 ∧ n.f4.size ≤ 9223372036854775807
theorem chk_zero {n : S23} (h : chkN n = 0) : (0 ≤ n.f0 ∧ n.f0 ≤ 4) ∧ freeS n.f1 = true ∧ freeS n.f2 = true ∧ whatS n.f3 = true ∧ reasS n.f4 = true := by
  unfold chkN chkF at h
  by_cases h1 : n.f0 < 0 ∨ 4 < n.f0
  · rw [if_pos h1] at h; omega
  · rw [if_neg h1] at h
    by_cases h2 : freeS n.f1 = true ∧ freeS n.f2 = true ∧ whatS n.f3 = true
    · rw [if_pos h2] at h
      by_cases h3 : reasS n.f4 = true
      · exact ⟨by omega, h2.1, h2.2.1, h2.2.2, h3⟩
      · rw [if_neg h3] at h; omega
    · rw [if_neg h2] at h; omega
theorem ident_size {s : ByteArray} (h : identS s = true) : s.size ≤ 32 ∧ scan isWb s 0 = s.size := by
  unfold identS wordS at h
  simp only [Bool.and_eq_true, decide_eq_true_eq] at h
  exact ⟨h.1.1.1.2, h.1.2⟩
theorem free_size {s : ByteArray} (h : freeS s = true) : s.size ≤ 32 := by
  by_cases e : s.toList = ([] : List UInt8)
  · rw [(nil_size s).1 e]; omega
  · rw [freeS_ne e] at h; exact (ident_size h).1
theorem star_size (s : ByteArray) (h : s.size ≤ 32) : (starB s).size ≤ 32 := by
  unfold starB
  split
  · decide
  · exact h
theorem word_size (k : Int) (h0 : 0 ≤ k) (h1 : k ≤ 4) : (wordB k).size ≤ 6 := by
  have : k = 0 ∨ k = 1 ∨ k = 2 ∨ k = 3 ∨ k = 4 := by omega
  rcases this with rfl | rfl | rfl | rfl | rfl <;> decide
theorem line_size {n : S23} (h : chkN n = 0) : (nLine n).size ≤ 320 := by
  obtain ⟨h0, h1, h2, h3, h4⟩ := chk_zero h
  have a0 := word_size n.f0 h0.1 h0.2
  have a1 := star_size n.f1 (free_size h1)
  have a2 := star_size n.f2 (free_size h2)
  have b3 : n.f3.size ≤ 32 := by unfold whatS at h3; simp only [Bool.and_eq_true, decide_eq_true_eq] at h3; exact h3.1
  have a3 := star_size n.f3 b3
  have a4 : n.f4.size ≤ 200 := by unfold reasS at h4; simp only [Bool.and_eq_true, decide_eq_true_eq] at h4; exact h4.1.2
  rw [nLine_size]
  omega
theorem nText_acc : ∀ (l : List S23) (acc : ByteArray), nText l acc = acc ++ nText l (⟨#[]⟩ : ByteArray) := by
  intro l
  induction l with
  | nil => intro acc; unfold nText; exact (ByteArray.append_empty).symm
  | cons n l ih =>
    intro acc
    have e0 : (⟨#[]⟩ : ByteArray) ++ nLine n = nLine n := ByteArray.empty_append
    unfold nText
    rw [ih (acc ++ nLine n), e0, ih (nLine n), ByteArray.append_assoc]
theorem text_size : ∀ (l : List S23), chkAll l = 0 → (nText l (⟨#[]⟩ : ByteArray)).size ≤ 320 * l.length := by
  intro l
  induction l with
  | nil => intro _; exact Nat.zero_le _
  | cons n l ih =>
    intro h
    unfold chkAll at h
    by_cases h1 : chkN n = 0
    · rw [if_pos h1] at h
      have := ih h
      have h2 := line_size h1
      have e0 : (⟨#[]⟩ : ByteArray) ++ nLine n = nLine n := ByteArray.empty_append
      unfold nText
      rw [e0, nText_acc, ByteArray.size_append, List.length_cons]
      omega
    · rw [if_neg h1] at h; exact absurd h h1
theorem chkAll_all : ∀ (l : List S23), chkAll l = 0 → ∀ n ∈ l, chkN n = 0 := by
  intro l
  induction l with
  | nil => intro _ n hn; cases hn
  | cons m l ih =>
    intro h n hn
    unfold chkAll at h
    by_cases h1 : chkN m = 0
    · rw [if_pos h1] at h
      rcases List.mem_cons.1 hn with rfl | hn
      · exact h1
      · exact ih h n hn
    · rw [if_neg h1] at h; exact absurd h h1
theorem txtOk_of (l : List S23) (h : chkAll l = 0) (hl : l.length ≤ 200) : txtOk l = true := by
  unfold txtOk
  rw [Bool.and_eq_true, List.all_eq_true, decide_eq_true_eq]
  refine ⟨fun n hn => ?_, by have := text_size l h; omega⟩
  have := (chk_zero (chkAll_all l h n hn)).1
  rw [Bool.and_eq_true, decide_eq_true_eq, decide_eq_true_eq]
  omega
theorem txtChk_ev : ∀ (l : List S23), Szs l → Ev (fun k => txtChk k l) (chkAll l) := by
  intro l
  induction l with
  | nil => intro _; exact Ev.now _
  | cons n l ih =>
    intro hs
    have hn := hs n List.mem_cons_self
    refine Ev.congr (f := fun k => (suppress_Check.f k n.f0 n.f1 n.f2 n.f3 n.f4).bind fun e => if e = 0 then txtChk k l else some e) (fun k => rfl) (Ev.bind (lCheck_ev n.f0 n.f1 n.f2 n.f3 n.f4 hn.1 hn.2.1 hn.2.2.1 hn.2.2.2) ?_)
    unfold chkAll
    by_cases h : chkN n = 0
    · rw [if_pos h]
      exact Ev.congr (fun k => by rw [if_pos (show chkF n.f0 n.f1 n.f2 n.f3 n.f4 = 0 from h)]) (ih (fun m hm => hs m (List.mem_cons_of_mem _ hm)))
    · rw [if_neg h]
      exact Ev.congr (f := fun _ => some (chkN n)) (fun k => by rw [if_neg (show ¬ chkF n.f0 n.f1 n.f2 n.f3 n.f4 = 0 from h)]; rfl) (Ev.now _)
theorem ltext_ev (l : List S23) (hs : Szs l) : Ev (fun k => suppress_Text.f k l) (textF l) := by
  unfold textF
  by_cases hl : l.length > 200
  · rw [if_pos hl]
    exact Ev.congr (fun k => by unfold suppress_Text.f; rw [if_pos (by omega)]) (Ev.now _)
  · rw [if_neg hl]
    refine Ev.congr (f := fun k => (txtChk k l).bind fun e => if e = 0 then (if txtOk l = true then some (nText l (⟨#[]⟩ : ByteArray), 0) else none) else some ((⟨#[]⟩ : ByteArray), e)) (fun k => by unfold suppress_Text.f; rw [if_neg (by omega)]) (Ev.bind (txtChk_ev l hs) ?_)
    by_cases h : chkAll l = 0
    · rw [if_pos h]
      exact Ev.congr (fun k => by rw [if_pos h, if_pos (txtOk_of l h (by omega))]) (Ev.now _)
    · rw [if_neg h]
      exact Ev.congr (fun k => by rw [if_neg h]) (Ev.now _)
theorem rstar_eq (s : ByteArray) : dataflowref46_star.f s = some (starB s) := by unfold dataflowref46_star.f starB; split <;> rfl
theorem kind_eq (k : Int) (h0 : 0 ≤ k) (h1 : k ≤ 4) : dataflowref46_Kind.f k = some (wordB k) := by
  have : k = 0 ∨ k = 1 ∨ k = 2 ∨ k = 3 ∨ k = 4 := by omega
  rcases this with rfl | rfl | rfl | rfl | rfl <;> rfl
theorem rdN_drop (L : List S23) (i : Nat) (t : S23) (r : List S23) (h : L.drop i = t :: r) : rd_T23 L (i : Int) = t ∧ i < L.length ∧ L.drop (i + 1) = r := by
  have hlt : i < L.length := by
    by_cases c : i < L.length
    · exact c
    · rw [List.drop_of_length_le (by omega)] at h; cases h
  rw [List.drop_eq_getElem_cons hlt] at h
  injection h with h1 h2
  refine ⟨?_, hlt, h2⟩
  unfold rd_T23
  rw [Int.toNat_natCast, List.getD_eq_getElem?_getD, List.getElem?_eq_getElem hlt, h1]; rfl
/-- What the reference's text of the rest comes to. -/
def restF (acc : ByteArray) (l : List S23) : ByteArray × Int := if chkAll l = 0 then (nText l acc, 0) else ((⟨#[]⟩ : ByteArray), chkAll l)
theorem rtext_step (L : List S23) (k i : Nat) (acc : ByteArray) (n : S23) (hrd : rd_T23 L (i : Int) = n) (hi : (i : Int) < (L.length : Int)) (e1 : wrap64 ((i : Int) + 1) = ((i + 1 : Nat) : Int)) (hck : dataflowref46_Check.f k n.f0 n.f1 n.f2 n.f3 n.f4 = some 0) (W : ByteArray) (hk : dataflowref46_Kind.f n.f0 = some W) (hW : wordB n.f0 = W) (s1 s2 s3 : ByteArray) (h1 : starB n.f1 = s1) (h2 : starB n.f2 = s2) (h3 : starB n.f3 = s3)
    (hz : acc.size + (9 + W.size + 1 + s1.size + 1 + s2.size + 1 + s3.size + 1 + n.f4.size + 1) ≤ 1000000) : dataflowref46_Text.l0 (k + 1) L acc i = dataflowref46_Text.l0 k L (acc ++ nLine n) ((i + 1 : Nat) : Int) := by
  have hline : nLine n = ((((((((((⟨#[115, 117, 112, 112, 114, 101, 115, 115, 32]⟩ : ByteArray) ++ W) ++ (⟨#[32]⟩ : ByteArray)) ++ s1) ++ (⟨#[32]⟩ : ByteArray)) ++ s2) ++ (⟨#[32]⟩ : ByteArray)) ++ s3) ++ (⟨#[32]⟩ : ByteArray)) ++ n.f4) ++ (⟨#[10]⟩ : ByteArray) := by
    unfold nLine; rw [hW, h1, h2, h3]
  rw [hline]
  clear hline hW
  simp only [dataflowref46_Text.l0]
  have z9 : (⟨#[115, 117, 112, 112, 114, 101, 115, 115, 32]⟩ : ByteArray).size = 9 := rfl
  have z1 : (⟨#[32]⟩ : ByteArray).size = 1 := rfl
  rw [if_pos hi, if_pos (Int.natCast_nonneg i), hrd, hck, Option.bind_some, if_pos rfl, hk, rstar_eq, rstar_eq, rstar_eq, h1, h2, h3, e1]
  clear hck hk h1 h2 h3 hrd hi e1
  simp only [Option.bind_some, ByteArray.size_append, z9, z1]
  clear z9 z1
  revert hz
  generalize acc.size = a
  generalize W.size = b
  generalize s1.size = c
  generalize s2.size = d
  generalize s3.size = e
  generalize n.f4.size = f
  intro hz
  rw [if_pos (by omega), if_pos (by omega), if_pos (by omega), if_pos (by omega), if_pos (by omega), if_pos (by omega), if_pos (by omega), if_pos (by omega), if_pos (by omega), if_pos (by omega), if_pos (by omega)]
  simp only [ByteArray.append_assoc]
theorem rtext_l (L : List S23) (hL : L.length ≤ 200) (hs : Szs L) : ∀ (l : List S23) (i : Nat) (acc : ByteArray), L.drop i = l → acc.size ≤ 320 * i → Ev (fun k => dataflowref46_Text.l0 k L acc i) (restF acc l) := by
  intro l
  induction l with
  | nil =>
    intro i acc h ha
    have hge : L.length ≤ i := by
      by_cases c : i < L.length
      · rw [List.drop_eq_getElem_cons c] at h; cases h
      · omega
    exact Ev.step (f := fun _ => some (acc, 0)) (fun k => by simp only [dataflowref46_Text.l0]; rw [if_neg (by omega)]) (Ev.now _)
  | cons n r ih =>
    intro i acc h ha
    obtain ⟨h1, h2, h3⟩ := rdN_drop L i n r h
    have hn := hs n (List.mem_of_mem_drop (by rw [h]; exact List.mem_cons_self))
    obtain ⟨K, hK⟩ := rCheck_ev n.f0 n.f1 n.f2 n.f3 n.f4 hn.1 hn.2.1 hn.2.2.1 hn.2.2.2
    have hi : (i : Int) < (L.length : Int) := by omega
    have e1 : wrap64 ((i : Int) + 1) = ((i + 1 : Nat) : Int) := by rw [w64 (by omega) (by omega)]; rfl
    unfold restF chkAll
    by_cases hc : chkN n = 0
    · rw [if_pos hc]
      obtain ⟨c0, c1, c2, c3, c4⟩ := chk_zero hc
      have hls := line_size hc
      have hz := nLine_size n
      have hacc : (acc ++ nLine n).size ≤ 320 * (i + 1) := by rw [ByteArray.size_append]; omega
      obtain ⟨K2, hK2⟩ := ih (i + 1) (acc ++ nLine n) h3 hacc
      have hzz : acc.size + (9 + (wordB n.f0).size + 1 + (starB n.f1).size + 1 + (starB n.f2).size + 1 + (starB n.f3).size + 1 + n.f4.size + 1) ≤ 1000000 := by rw [← hz]; omega
      have hc' : chkF n.f0 n.f1 n.f2 n.f3 n.f4 = 0 := hc
      refine ⟨K + K2 + 1, fun k hk => ?_⟩
      obtain ⟨k', rfl⟩ : ∃ k', k = k' + 1 := ⟨k - 1, by omega⟩
      have hck := hK k' (by omega)
      have hnx := hK2 k' (by omega)
      rw [hc'] at hck
      exact (rtext_step L k' i acc n h1 hi e1 hck (wordB n.f0) (kind_eq n.f0 c0.1 c0.2) rfl _ _ _ rfl rfl rfl hzz).trans hnx
    · rw [if_neg hc, if_neg hc]
      refine ⟨K + 1, fun k hk => ?_⟩
      obtain ⟨k', rfl⟩ : ∃ k', k = k' + 1 := ⟨k - 1, by omega⟩
      have hck : dataflowref46_Check.f k' n.f0 n.f1 n.f2 n.f3 n.f4 = some (chkF n.f0 n.f1 n.f2 n.f3 n.f4) := hK k' (by omega)
      simp only [dataflowref46_Text.l0]
      rw [if_pos hi, if_pos (Int.natCast_nonneg i), h1, hck, Option.bind_some, if_neg (show ¬ chkF n.f0 n.f1 n.f2 n.f3 n.f4 = 0 from hc)]
      rfl
theorem rtext_ev (l : List S23) (hs : Szs l) : Ev (fun k => dataflowref46_Text.f k l) (textF l) := by
  unfold textF
  by_cases hl : l.length > 200
  · rw [if_pos hl]
    exact Ev.congr (fun k => by unfold dataflowref46_Text.f; rw [if_pos (by omega)]) (Ev.now _)
  · rw [if_neg hl]
    exact Ev.congr (f := fun k => dataflowref46_Text.l0 k l (⟨#[]⟩ : ByteArray) ((0 : Nat) : Int)) (fun k => by unfold dataflowref46_Text.f; rw [if_neg (by omega)]; rfl) (rtext_l l (by omega) hs l 0 _ rfl (Nat.zero_le _))
end Go.Proofs.YtnoangbidnigdaaDoor.H
/-! There and back: what is parsed has the text that was parsed; the text of accepted suppressions is parsed as these. -/
namespace Go.Proofs.YtnoangbidnigdaaDoor.H
open Go.RowKit Go.Proofs.YtnoangbidnigdaaDoorW.PrintWords
set_option linter.unusedVariables false
set_option linter.unusedSimpArgs false

theorem bytes_eq {a b : ByteArray} (h : a.toList = b.toList) : a = b := by
  rw [Lib.toList_data, Lib.toList_data] at h
  exact ByteArray.ext (Array.toList_inj.1 h)
theorem bytes_of {a : ByteArray} {l : List UInt8} (h : a.toList = l) : a = ⟨l.toArray⟩ := by
  rw [Lib.toList_data] at h
  exact ByteArray.ext (Array.toList_inj.1 (by rw [h]))
theorem star_unst (w : ByteArray) (h : ¬ w.toList = ([] : List UInt8)) : starB (unstB w) = w := by
  unfold unstB
  by_cases e : w.toList = ([42] : List UInt8)
  · rw [if_pos e, bytes_of e]
    unfold starB
    rw [if_pos (by rw [Lib.toList_data])]
  · rw [if_neg e]
    unfold starB
    rw [if_neg h]
theorem word_kix (w : ByteArray) (h : 0 ≤ kix w) : wordB (kix w) = w := by
  have e := kR_eq w
  rw [← e] at h ⊢
  unfold kR at h ⊢
  by_cases h4 : (wd wordsL 4).toList = w.toList
  · rw [if_pos h4]; exact bytes_eq h4
  · rw [if_neg h4] at h ⊢
    by_cases h3 : (wd wordsL 3).toList = w.toList
    · rw [if_pos h3]; exact bytes_eq h3
    · rw [if_neg h3] at h ⊢
      by_cases h2 : (wd wordsL 2).toList = w.toList
      · rw [if_pos h2]; exact bytes_eq h2
      · rw [if_neg h2] at h ⊢
        by_cases h1 : (wd wordsL 1).toList = w.toList
        · rw [if_pos h1]; exact bytes_eq h1
        · rw [if_neg h1] at h ⊢
          by_cases h0 : (wd wordsL 0).toList = w.toList
          · rw [if_pos h0]; exact bytes_eq h0
          · rw [if_neg h0] at h; omega
theorem five {l : List ByteArray} (h : l.length = 5) : ∃ a b c d e, l = [a, b, c, d, e] := by
  match l, h with
  | [a, b, c, d, e], _ => exact ⟨a, b, c, d, e, rfl⟩
/-- A line that is accepted is the line of its suppression. -/
theorem line_back (t : ByteArray) (h : errOf (lineF t) = 0) : chkN (noteOf (lineF t)) = 0 ∧ nLine (noteOf (lineF t)) = t ++ (⟨#[10]⟩ : ByteArray) := by
  unfold lineF at h ⊢
  cases hw : wordsN 5 t with
  | none => rw [hw] at h; exact absurd h (by decide)
  | some x =>
    obtain ⟨l, r⟩ := x
    rw [hw] at h
    simp only at h ⊢
    obtain ⟨h1, _, _⟩ := wordsN_some 5 t l r hw
    have hj := wordsN_join 5 t l r hw
    obtain ⟨a, b, c, d, e, rfl⟩ := five h1
    unfold lineT at h ⊢
    by_cases hc : (wd [a, b, c, d, e] 0).toList = supB ∧ 0 ≤ kix (wd [a, b, c, d, e] 1) ∧ ¬ (wd [a, b, c, d, e] 2).toList = ([] : List UInt8) ∧ ¬ (wd [a, b, c, d, e] 3).toList = ([] : List UInt8) ∧ ¬ (wd [a, b, c, d, e] 4).toList = ([] : List UInt8)
    · rw [if_pos hc] at h ⊢
      obtain ⟨c0, c1, c2, c3, c4⟩ := hc
      refine ⟨h, ?_⟩
      have w0 : wd [a, b, c, d, e] 0 = a := rfl
      have w1 : wd [a, b, c, d, e] 1 = b := rfl
      have w2 : wd [a, b, c, d, e] 2 = c := rfl
      have w3 : wd [a, b, c, d, e] 3 = d := rfl
      have w4 : wd [a, b, c, d, e] 4 = e := rfl
      rw [w0] at c0
      rw [w1] at c1
      rw [w2] at c2
      rw [w3] at c3
      rw [w4] at c4
      unfold nLine noteOf
      simp only
      rw [w1, w2, w3, w4, word_kix b c1, star_unst c c2, star_unst d c3, star_unst e c4, hj]
      have ea : (⟨#[115, 117, 112, 112, 114, 101, 115, 115, 32]⟩ : ByteArray) = a ++ (⟨#[32]⟩ : ByteArray) := by rw [bytes_of c0]; rfl
      rw [ea]
      unfold joinW
      unfold joinW
      unfold joinW
      unfold joinW
      unfold joinW
      unfold joinW
      simp only [ByteArray.append_assoc]
    · rw [if_neg hc] at h; exact absurd h (by decide)
/-- What is parsed has the text that was parsed. -/
theorem parse_text : ∀ (N : Nat) (s : ByteArray) (out l : List S23) (v : Int), s.size ≤ N → out.length ≤ 200 → parseF s out = (l, v, 0) → v = 0 ∧ ∃ l', l = out ++ l' ∧ chkAll l' = 0 ∧ nText l' (⟨#[]⟩ : ByteArray) = s ∧ l.length ≤ 200 := by
  intro N
  induction N with
  | zero =>
    intro s out l v hN ho h
    have h0 : s.size = 0 := by omega
    rw [parseF_nil s out h0] at h
    simp only [Prod.mk.injEq, and_true] at h
    obtain ⟨rfl, rfl⟩ := h
    refine ⟨rfl, [], (List.append_nil _).symm, rfl, ?_, ho⟩
    exact bytes_eq (by rw [(nil_size s).2 h0]; unfold nText; rw [Lib.toList_data])
  | succ N ih =>
    intro s out l v hN ho h
    by_cases h0 : s.size = 0
    · rw [parseF_nil s out h0] at h
      simp only [Prod.mk.injEq, and_true] at h
      obtain ⟨rfl, rfl⟩ := h
      refine ⟨rfl, [], (List.append_nil _).symm, rfl, ?_, ho⟩
      exact bytes_eq (by rw [(nil_size s).2 h0]; unfold nText; rw [Lib.toList_data])
    · by_cases h2 : 200 ≤ out.length
      · rw [parseF_many s out h0 h2] at h
        simp only [Prod.mk.injEq] at h
        omega
      · by_cases h3 : pos 10 s < s.size
        · by_cases h4 : errOf (lineF (headB 10 s)) = 0
          · rw [parseF_line s out h0 h2 h3 h4] at h
            have hr := restB_size 10 s h3
            obtain ⟨hv, l', e1, e2, e3, e4⟩ := ih (restB 10 s) (out ++ [noteOf (lineF (headB 10 s))]) l v (by omega) (by rw [List.length_append, List.length_singleton]; omega) h
            obtain ⟨b1, b2⟩ := line_back (headB 10 s) h4
            refine ⟨hv, noteOf (lineF (headB 10 s)) :: l', by rw [e1, List.append_assoc]; rfl, by unfold chkAll; rw [if_pos b1]; exact e2, ?_, e4⟩
            have e0 : (⟨#[]⟩ : ByteArray) ++ nLine (noteOf (lineF (headB 10 s))) = nLine (noteOf (lineF (headB 10 s))) := ByteArray.empty_append
            unfold nText
            rw [e0, nText_acc, b2, e3, ByteArray.append_assoc]
            exact (cut_join 10 s h3).symm
          · rw [parseF_bad s out h0 h2 h3 h4] at h
            simp only [Prod.mk.injEq] at h
            exact absurd h.2.2 h4
        · rw [parseF_open s out h0 h2 h3] at h
          simp only [Prod.mk.injEq] at h
          omega
theorem parse_len (s : ByteArray) : (parseF s []).1.length ≤ 200 := by
  have key : ∀ (N : Nat) (s : ByteArray) (out : List S23), s.size ≤ N → out.length ≤ 200 → (parseF s out).1.length ≤ 200 := by
    intro N
    induction N with
    | zero => intro s out hN ho; rw [parseF_nil s out (by omega)]; exact ho
    | succ N ih =>
      intro s out hN ho
      by_cases h0 : s.size = 0
      · rw [parseF_nil s out h0]; exact ho
      · by_cases h2 : 200 ≤ out.length
        · rw [parseF_many s out h0 h2]; exact Nat.zero_le _
        · by_cases h3 : pos 10 s < s.size
          · have hr := restB_size 10 s h3
            by_cases h4 : errOf (lineF (headB 10 s)) = 0
            · rw [parseF_line s out h0 h2 h3 h4]; exact ih _ _ (by omega) (by rw [List.length_append, List.length_singleton]; omega)
            · rw [parseF_bad s out h0 h2 h3 h4]; exact Nat.zero_le _
          · rw [parseF_open s out h0 h2 h3]; exact Nat.zero_le _
  exact key s.size s [] (Nat.le_refl _) (Nat.zero_le _)
/-- The byte c does not stand in x. -/
def NoL (c : UInt8) (x : ByteArray) : Prop := ∀ j, j < x.size → x.data.toList[j]? ≠ some c
theorem NoL.app {c : UInt8} {x y : ByteArray} (hx : NoL c x) (hy : NoL c y) : NoL c (x ++ y) := by
  intro j hj
  rw [ByteArray.size_append] at hj
  rw [ByteArray.data_append, Array.toList_append]
  have hl : x.data.toList.length = x.size := by rw [Array.length_toList]; rfl
  by_cases h : j < x.size
  · rw [List.getElem?_append_left (by omega)]; exact hx j h
  · rw [List.getElem?_append_right (by omega), hl]; exact hy (j - x.size) (by omega)
theorem NoL.scan {c : UInt8} {x : ByteArray} {p : Int → Bool} (h : scan p x 0 = x.size) (hp : p (c.toNat : Int) = false) : NoL c x := by
  intro j hj e
  have := scan_all p x 0 j (Nat.zero_le _) (by omega)
  rw [(bt_is x c j hj).2 e, hp] at this
  cases this
theorem NoL.size0 {c : UInt8} {x : ByteArray} (h : x.size = 0) : NoL c x := fun j hj => by omega
theorem pos_app (c : UInt8) (x y : ByteArray) (h : NoL c x) : pos c.toNat (x ++ ((⟨#[c]⟩ : ByteArray) ++ y)) = x.size := by
  have hl : x.data.toList.length = x.size := by rw [Array.length_toList]; rfl
  refine pos_at c _ x.size (by rw [ByteArray.size_append]; omega) (fun j hj => ?_) (fun _ => ?_)
  · rw [ByteArray.data_append, Array.toList_append, List.getElem?_append_left (by omega)]; exact h j hj
  · rw [ByteArray.data_append, Array.toList_append, List.getElem?_append_right (by omega), hl, Nat.sub_self, ByteArray.data_append, Array.toList_append]; rfl
theorem pos_lt (c : UInt8) (x y : ByteArray) (h : NoL c x) : pos c.toNat (x ++ ((⟨#[c]⟩ : ByteArray) ++ y)) < (x ++ ((⟨#[c]⟩ : ByteArray) ++ y)).size := by
  rw [pos_app c x y h, ByteArray.size_append, ByteArray.size_append]
  have : (⟨#[c]⟩ : ByteArray).size = 1 := rfl
  omega
theorem head_app (c : UInt8) (x y : ByteArray) (h : NoL c x) : headB c.toNat (x ++ ((⟨#[c]⟩ : ByteArray) ++ y)) = x := by
  unfold headB
  rw [pos_app c x y h]
  apply ByteArray.ext
  apply Array.toList_inj.1
  have hl : x.data.toList.length = x.size := by rw [Array.length_toList]; rfl
  rw [Lib.extract_data, List.drop_zero, Nat.sub_zero, ByteArray.data_append, Array.toList_append, List.take_append_of_le_length (by omega), List.take_of_length_le (by omega)]
theorem rest_app (c : UInt8) (x y : ByteArray) (h : NoL c x) : restB c.toNat (x ++ ((⟨#[c]⟩ : ByteArray) ++ y)) = y := by
  unfold restB
  rw [pos_app c x y h]
  apply ByteArray.ext
  apply Array.toList_inj.1
  have hl : x.data.toList.length = x.size := by rw [Array.length_toList]; rfl
  rw [ext_data, ByteArray.data_append, Array.toList_append, ByteArray.data_append, Array.toList_append, List.drop_append, hl, List.drop_of_length_le (by omega), Nat.add_sub_cancel_left]
  rfl
theorem words_join : ∀ (l : List ByteArray) (r : ByteArray), (∀ x ∈ l, NoL 32 x) → wordsN l.length (joinW l r) = some (l, r) := by
  intro l
  induction l with
  | nil => intro r _; rfl
  | cons x l ih =>
    intro r h
    have hx := h x List.mem_cons_self
    have hI := ih r (fun y hy => h y (List.mem_cons_of_mem _ hy))
    unfold joinW
    rw [List.length_cons]
    unfold wordsN
    have e32 : (((32 : UInt8).toNat : Nat) : Int) = 32 := rfl
    have p1 := pos_lt 32 x (joinW l r) hx
    have p2 := head_app 32 x (joinW l r) hx
    have p3 := rest_app 32 x (joinW l r) hx
    rw [e32] at p1 p2 p3
    rw [if_pos p1, p2, p3, hI]
theorem free_no {s : ByteArray} (c : UInt8) (h : freeS s = true) (hc : isWb (c.toNat : Int) = false) : NoL c s := by
  by_cases e : s.toList = ([] : List UInt8)
  · exact NoL.size0 ((nil_size s).1 e)
  · rw [freeS_ne e] at h
    exact NoL.scan (ident_size h).2 hc
theorem star_no {s : ByteArray} (c : UInt8) (h : NoL c s) (hc : c ≠ 42) : NoL c (starB s) := by
  unfold starB
  split
  · intro j hj e
    have : j = 0 := by have : (⟨#[42]⟩ : ByteArray).size = 1 := rfl; omega
    subst this
    exact hc (by simpa using e.symm)
  · exact h
theorem win_no {s : ByteArray} (least : Int) (c : UInt8) (h : winS least s = true) (hc : okB least (c.toNat : Int) = false) : NoL c s := by
  unfold winS at h
  exact NoL.scan (of_decide_eq_true h) hc
theorem word_no (k : Int) (h0 : 0 ≤ k) (h1 : k ≤ 4) : NoL 32 (wordB k) ∧ NoL 10 (wordB k) := by
  have : k = 0 ∨ k = 1 ∨ k = 2 ∨ k = 3 ∨ k = 4 := by omega
  unfold NoL
  rcases this with rfl | rfl | rfl | rfl | rfl <;> exact ⟨by decide, by decide⟩
theorem kix_word (k : Int) (h0 : 0 ≤ k) (h1 : k ≤ 4) : kix (wordB k) = k := by
  have : k = 0 ∨ k = 1 ∨ k = 2 ∨ k = 3 ∨ k = 4 := by omega
  unfold kix wordsL
  rcases this with rfl | rfl | rfl | rfl | rfl
  · rw [show wordB 0 = (⟨#[42]⟩ : ByteArray) from rfl]; simp only [idxF, Lib.toList_data]; decide
  · rw [show wordB 1 = (⟨#[117, 110, 115, 101, 116]⟩ : ByteArray) from rfl]; simp only [idxF, Lib.toList_data]; decide
  · rw [show wordB 2 = (⟨#[115, 116, 97, 116, 101]⟩ : ByteArray) from rfl]; simp only [idxF, Lib.toList_data]; decide
  · rw [show wordB 3 = (⟨#[116, 97, 105, 110, 116]⟩ : ByteArray) from rfl]; simp only [idxF, Lib.toList_data]; decide
  · rw [show wordB 4 = (⟨#[98, 114, 97, 110, 99, 104]⟩ : ByteArray) from rfl]; simp only [idxF, Lib.toList_data]; decide
theorem star_ne (s : ByteArray) : ¬ (starB s).toList = ([] : List UInt8) := by
  unfold starB
  split
  · rw [Lib.toList_data]; simp
  · rename_i h; exact h
theorem unst_star (s : ByteArray) (h : ¬ s.toList = ([42] : List UInt8)) : unstB (starB s) = s := by
  unfold starB
  split
  · rename_i e
    unfold unstB
    rw [if_pos (by rw [Lib.toList_data])]
    exact (bytes_of e).symm
  · unfold unstB
    rw [if_neg h]
theorem ident_ne42 {s : ByteArray} (h : freeS s = true) : ¬ s.toList = ([42] : List UInt8) := by
  intro e
  have hn := free_no 42 h (by decide)
  rw [bytes_of e] at hn
  exact hn 0 (by decide) rfl
/-- The words of a suppression's line. -/
def wordsOf (n : S23) : List ByteArray := [(⟨#[115, 117, 112, 112, 114, 101, 115, 115]⟩ : ByteArray), wordB n.f0, starB n.f1, starB n.f2, starB n.f3]
theorem nLine_join (n : S23) : nLine n = joinW (wordsOf n) n.f4 ++ (⟨#[10]⟩ : ByteArray) := by
  unfold nLine wordsOf
  have ea : (⟨#[115, 117, 112, 112, 114, 101, 115, 115, 32]⟩ : ByteArray) = (⟨#[115, 117, 112, 112, 114, 101, 115, 115]⟩ : ByteArray) ++ (⟨#[32]⟩ : ByteArray) := rfl
  rw [ea]
  unfold joinW
  unfold joinW
  unfold joinW
  unfold joinW
  unfold joinW
  unfold joinW
  simp only [ByteArray.append_assoc]
theorem parts_no {n : S23} (h : chkN n = 0) : (∀ x ∈ wordsOf n, NoL 32 x) ∧ NoL 10 (joinW (wordsOf n) n.f4) := by
  obtain ⟨h0, h1, h2, h3, h4⟩ := chk_zero h
  have a0 := word_no n.f0 h0.1 h0.2
  have hw : winS 33 n.f3 = true := by unfold whatS at h3; simp only [Bool.and_eq_true] at h3; exact h3.2.2
  have hr : winS 32 n.f4 = true := by unfold reasS at h4; simp only [Bool.and_eq_true] at h4; exact h4.2.1
  have s32 : NoL 32 (⟨#[115, 117, 112, 112, 114, 101, 115, 115]⟩ : ByteArray) := by unfold NoL; decide
  have s10 : NoL 10 (⟨#[115, 117, 112, 112, 114, 101, 115, 115]⟩ : ByteArray) := by unfold NoL; decide
  have b10 : NoL 10 (⟨#[32]⟩ : ByteArray) := by unfold NoL; decide
  have c1 := star_no 32 (free_no 32 h1 (by decide)) (by decide)
  have c2 := star_no 32 (free_no 32 h2 (by decide)) (by decide)
  have c3 := star_no 32 (win_no 33 32 hw (by decide)) (by decide)
  have d1 := star_no 10 (free_no 10 h1 (by decide)) (by decide)
  have d2 := star_no 10 (free_no 10 h2 (by decide)) (by decide)
  have d3 := star_no 10 (win_no 33 10 hw (by decide)) (by decide)
  have d4 := win_no 32 10 hr (by decide)
  refine ⟨fun x hx => ?_, ?_⟩
  · unfold wordsOf at hx
    simp only [List.mem_cons, List.mem_nil_iff, or_false] at hx
    rcases hx with rfl | rfl | rfl | rfl | rfl
    · exact s32
    · exact a0.1
    · exact c1
    · exact c2
    · exact c3
  · unfold wordsOf
    unfold joinW
    unfold joinW
    unfold joinW
    unfold joinW
    unfold joinW
    unfold joinW
    exact s10.app (b10.app (a0.2.app (b10.app (d1.app (b10.app (d2.app (b10.app (d3.app (b10.app d4)))))))))
theorem line_of {n : S23} (h : chkN n = 0) : lineF (joinW (wordsOf n) n.f4) = (n.f0, n.f1, n.f2, n.f3, n.f4, 0) := by
  obtain ⟨h0, h1, h2, h3, h4⟩ := chk_zero h
  have hw := words_join (wordsOf n) n.f4 (parts_no h).1
  have hlen : (wordsOf n).length = 5 := rfl
  rw [hlen] at hw
  unfold lineF
  rw [hw]
  simp only
  have w0 : wd (wordsOf n) 0 = (⟨#[115, 117, 112, 112, 114, 101, 115, 115]⟩ : ByteArray) := rfl
  have w1 : wd (wordsOf n) 1 = wordB n.f0 := rfl
  have w2 : wd (wordsOf n) 2 = starB n.f1 := rfl
  have w3 : wd (wordsOf n) 3 = starB n.f2 := rfl
  have w4 : wd (wordsOf n) 4 = starB n.f3 := rfl
  have hk := kix_word n.f0 h0.1 h0.2
  have h42 : ¬ n.f3.toList = ([42] : List UInt8) := by
    unfold whatS at h3
    simp only [Bool.and_eq_true, Bool.not_eq_true', beq_eq_false_iff_ne] at h3
    exact h3.2.1
  unfold lineT
  rw [w0, w1, w2, w3, w4, hk, if_pos ⟨by rw [Lib.toList_data]; rfl, h0.1, star_ne _, star_ne _, star_ne _⟩, unst_star _ (ident_ne42 h1), unst_star _ (ident_ne42 h2), unst_star _ h42]
  have hc : chkF n.f0 n.f1 n.f2 n.f3 n.f4 = 0 := h
  rw [hc]
/-- The text of accepted suppressions is parsed as these. -/
theorem text_parse : ∀ (l out : List S23), chkAll l = 0 → out.length + l.length ≤ 200 → parseF (nText l (⟨#[]⟩ : ByteArray)) out = (out ++ l, 0, 0) := by
  intro l
  induction l with
  | nil => intro out _ _; rw [parseF_nil _ _ (by unfold nText; rfl), List.append_nil]
  | cons n l ih =>
    intro out h hl
    unfold chkAll at h
    by_cases h1 : chkN n = 0
    · rw [if_pos h1] at h
      have e0 : (⟨#[]⟩ : ByteArray) ++ nLine n = nLine n := ByteArray.empty_append
      have hs : nText (n :: l) (⟨#[]⟩ : ByteArray) = joinW (wordsOf n) n.f4 ++ ((⟨#[10]⟩ : ByteArray) ++ nText l (⟨#[]⟩ : ByteArray)) := by
        rw [show nText (n :: l) (⟨#[]⟩ : ByteArray) = nText l ((⟨#[]⟩ : ByteArray) ++ nLine n) from rfl, e0, nText_acc, nLine_join, ByteArray.append_assoc]
      rw [hs]
      have hno := (parts_no h1).2
      have e10 : (((10 : UInt8).toNat : Nat) : Int) = 10 := rfl
      have p1 := pos_lt 10 (joinW (wordsOf n) n.f4) (nText l (⟨#[]⟩ : ByteArray)) hno
      have p2 := head_app 10 (joinW (wordsOf n) n.f4) (nText l (⟨#[]⟩ : ByteArray)) hno
      have p3 := rest_app 10 (joinW (wordsOf n) n.f4) (nText l (⟨#[]⟩ : ByteArray)) hno
      rw [e10] at p1 p2 p3
      have hline := line_of h1
      rw [List.length_cons] at hl
      rw [parseF_line _ out (by omega) (by omega) p1 (by rw [p2, hline]; rfl), p2, p3, hline]
      have := ih (out ++ [n]) h (by rw [List.length_append, List.length_singleton]; omega)
      rw [show noteOf (n.f0, n.f1, n.f2, n.f3, n.f4, 0) = n from rfl, this, List.append_assoc]
      rfl
    · rw [if_neg h1] at h; exact absurd h h1
end Go.Proofs.YtnoangbidnigdaaDoor.H

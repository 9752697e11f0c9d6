/- The tokens of a text, in plain words: byte by byte, as the lexer goes. -/
import Derived.Test.YthfhbdncphkdaaaDoorSpec
import Derived.Test.YthfhbdncphkdaaaDoorG0
import Derived.Laws.RangeAny
import Derived.Lib.IndexLaws
import Derived.Lib.Bytealg
import Derived.Lib.Strings
namespace Go.Proofs.YthfhbdncphkdaaaDoor.G
open Go.RowKit Go.Proofs.YthfhbdncphkdaaaDoorW.PrintWords
set_option linter.unusedVariables false

def isSp (c : Int) : Bool := c == 32 || c == 9 || c == 13 || c == 10
/-- The first line feed from i on, or the text's end. -/
def nlAt (s : ByteArray) (i : Nat) : Nat := scan (fun c => c != 10) s i
def isCm (s : ByteArray) (i : Nat) : Bool := bt s i == 47 && (decide (i + 1 < s.size) && bt s ((i + 1 : Nat) : Int) == 47)
abbrev TokRes := List S30 × Int × Int
def tk (t : Tok5) : S30 := ⟨t.1, t.2.1, t.2.2.1, t.2.2.2.1⟩
def toks (s : ByteArray) (i next : Nat) (acc : List S30) : TokRes :=
  if _h : i < s.size then
    if decide (i < next) || isSp (bt s i) then toks s (i + 1) next acc
    else if isCm s i then toks s (i + 1) (nlAt s i) acc
    else if (tokS s i).2.2.2.2 = 0 then toks s (i + 1) (i + (tokS s i).2.2.1.size) (acc ++ [tk (tokS s i)])
    else ([], i, (tokS s i).2.2.2.2)
  else (acc ++ [⟨5, s.size, ⟨#[]⟩, 0⟩], 0, 0)
termination_by s.size - i
theorem toks_skip (s : ByteArray) (i next : Nat) (acc : List S30) (h : i < s.size) (hc : (decide (i < next) || isSp (bt s i)) = true) : toks s i next acc = toks s (i + 1) next acc := by
  rw [toks, dif_pos h, if_pos hc]
theorem toks_cm (s : ByteArray) (i next : Nat) (acc : List S30) (h : i < s.size) (hc : (decide (i < next) || isSp (bt s i)) = false) (hm : isCm s i = true) : toks s i next acc = toks s (i + 1) (nlAt s i) acc := by
  rw [toks, dif_pos h, if_neg (by simp [hc]), if_pos hm]
theorem toks_tok (s : ByteArray) (i next : Nat) (acc : List S30) (h : i < s.size) (hc : (decide (i < next) || isSp (bt s i)) = false) (hm : isCm s i = false) (he : (tokS s i).2.2.2.2 = 0) :
    toks s i next acc = toks s (i + 1) (i + (tokS s i).2.2.1.size) (acc ++ [tk (tokS s i)]) := by
  rw [toks, dif_pos h, if_neg (by simp [hc]), if_neg (by simp [hm]), if_pos he]
theorem toks_err (s : ByteArray) (i next : Nat) (acc : List S30) (h : i < s.size) (hc : (decide (i < next) || isSp (bt s i)) = false) (hm : isCm s i = false) (he : ¬ (tokS s i).2.2.2.2 = 0) :
    toks s i next acc = ([], (i : Int), (tokS s i).2.2.2.2) := by
  rw [toks, dif_pos h, if_neg (by simp [hc]), if_neg (by simp [hm]), if_neg he]
theorem toks_end (s : ByteArray) (i next : Nat) (acc : List S30) (h : ¬ i < s.size) : toks s i next acc = (acc ++ [⟨5, s.size, ⟨#[]⟩, 0⟩], 0, 0) := by
  rw [toks, dif_neg h]
/-- Over places below next. -/
theorem toks_over (s : ByteArray) (next : Nat) (acc : List S30) : ∀ (d i : Nat), i + d ≤ s.size → (0 < d → i + d ≤ next) → toks s i next acc = toks s (i + d) next acc := by
  intro d
  induction d with
  | zero => intro i _ _; rfl
  | succ d ih =>
    intro i h1 h2
    rw [toks_skip s i next acc (by omega) (by simp; left; omega), ih (i + 1) (by omega) (fun _ => by omega)]
    congr 1; omega
theorem bt_nat (s : ByteArray) (i : Nat) (h : i < s.size) : bt s i = ((s[i]'h).toNat : Int) := by simp [bt, h]
theorem get_bang (s : ByteArray) (i : Nat) (h : i < s.size) : ((s.get! i).toNat : Int) = bt s i := by
  rw [bt_nat s i h]
  have := get_at s i h
  rw [Nat.add_zero] at this
  rw [this]
/-- What stands behind the first byte of a rune of several is no ASCII. -/
theorem decode_rest (s : ByteArray) (i : Nat) (h : i < s.size) : 1 ≤ (Utf8.decode s i).2 ∧ i + (Utf8.decode s i).2 ≤ s.size ∧ ∀ j : Nat, 0 < j → j < (Utf8.decode s i).2 → 128 ≤ bt s ((i + j : Nat) : Int) := by
  have key : ∀ k : Nat, (decide (i + k < s.size) && (s.get! (i + k)).toNat / 64 == 2) = true → i + k < s.size ∧ 128 ≤ bt s ((i + k : Nat) : Int) := by
    intro k hk
    simp only [Bool.and_eq_true, decide_eq_true_eq, beq_iff_eq] at hk
    have := get_bang s (i + k) hk.1
    exact ⟨hk.1, by omega⟩
  simp only [Utf8.decode]
  split
  · exact ⟨by omega, by omega, fun j h1 h2 => by omega⟩
  · split
    · rename_i hc
      simp only [Bool.and_eq_true] at hc
      have k1 := key 1 (by simpa using hc.2)
      split
      · refine ⟨by omega, by omega, fun j h1 h2 => ?_⟩
        obtain rfl : j = 1 := by simp at h2; omega
        exact k1.2
      · exact ⟨by simp, by simp; omega, fun j h1 h2 => by simp at h2; omega⟩
    · split
      · rename_i hc
        simp only [Bool.and_eq_true] at hc
        have k1 := key 1 (by simpa using hc.1.2)
        have k2 := key 2 (by simpa using hc.2)
        split
        · refine ⟨by omega, by omega, fun j h1 h2 => ?_⟩
          have : j = 1 ∨ j = 2 := by simp at h2; omega
          rcases this with rfl | rfl
          · exact k1.2
          · exact k2.2
        · exact ⟨by simp, by simp; omega, fun j h1 h2 => by simp at h2; omega⟩
      · split
        · rename_i hc
          simp only [Bool.and_eq_true] at hc
          have k1 := key 1 (by simpa using hc.1.1.2)
          have k2 := key 2 (by simpa using hc.1.2)
          have k3 := key 3 (by simpa using hc.2)
          split
          · refine ⟨by omega, by omega, fun j h1 h2 => ?_⟩
            have : j = 1 ∨ j = 2 ∨ j = 3 := by simp at h2; omega
            rcases this with rfl | rfl | rfl
            · exact k1.2
            · exact k2.2
            · exact k3.2
          · exact ⟨by simp, by simp; omega, fun j h1 h2 => by simp at h2; omega⟩
        · exact ⟨by simp, by simp; omega, fun j h1 h2 => by simp at h2; omega⟩
/-- An ASCII byte is its own rune. -/
theorem decode_low (s : ByteArray) (i : Nat) (h : i < s.size) (hb : bt s i < 128) : (((Utf8.decode s i).1 : Nat) : Int) = bt s i ∧ (Utf8.decode s i).2 = 1 := by
  have e := bt_nat s i h
  have hd := decode_ascii s i h (by omega)
  rw [hd, e]
  exact ⟨rfl, rfl⟩
theorem decode_top (s : ByteArray) (i : Nat) (h : i < s.size) (hb : 128 ≤ bt s i) : 128 ≤ (((Utf8.decode s i).1 : Nat) : Int) := by
  have e := bt_nat s i h
  have hd := (decode_high s i h (by omega)).1
  omega
/-- What is known of 'next' while the lexer stands at i. -/
def NextOk (s : ByteArray) (i next : Nat) : Prop := next ≤ s.size ∧ ((∀ j : Nat, i ≤ j → j < next → bt s j < 128) ∨ next = s.size ∨ bt s next < 128)
theorem NextOk.low {s : ByteArray} {i next : Nat} (h : NextOk s i next) : NextOk s (i + 1) next := ⟨h.1, h.2.imp_left (fun k j h1 h2 => k j (by omega) h2)⟩
/-- A rune below next ends at next at the most. -/
theorem NextOk.rune {s : ByteArray} {i next : Nat} (h : NextOk s i next) (hi : i < s.size) (hn : i < next) : i + (Utf8.decode s i).2 ≤ next := by
  obtain ⟨h1, h2, h3⟩ := decode_rest s i hi
  by_cases hb : bt s i < 128
  · rw [(decode_low s i hi hb).2]; omega
  · rcases h.2 with k | k | k
    · exact absurd (k i (Nat.le_refl _) hn) hb
    · omega
    · by_cases hc : i + (Utf8.decode s i).2 ≤ next
      · exact hc
      · have := h3 (next - i) (by omega) (by omega)
        rw [show i + (next - i) = next by omega] at this
        omega
theorem NextOk.step {s : ByteArray} {i next : Nat} (h : NextOk s i next) (d : Nat) : NextOk s (i + d) next := ⟨h.1, h.2.imp_left (fun k j h1 h2 => k j (by omega) h2)⟩
theorem isSp_low {c : Int} (h : isSp c = true) : c < 128 := by
  unfold isSp at h
  simp at h
  omega
theorem nlAt_ok (s : ByteArray) (i j : Nat) (hi : i ≤ s.size) : NextOk s j (nlAt s i) := by
  have h1 := scan_le' (fun c => c != 10) s i hi
  refine ⟨h1, .inr ?_⟩
  by_cases h : nlAt s i < s.size
  · have := scan_off (fun c => c != 10) s i h
    right
    have h2 : bt s (nlAt s i : Nat) = 10 := by simpa [nlAt] using this
    omega
  · left; unfold nlAt at h ⊢; omega
theorem isWb_low {c : Int} (h : isWb c = true) : c < 128 := by
  unfold isWb isLb isDb at h
  simp at h
  omega
theorem ext_bt (s : ByteArray) (i e : Nat) (j : Nat) (hj : j < e - i) (he : e ≤ s.size) : bt (s.extract i e) j = bt s ((i + j : Nat) : Int) := by
  have hz : (s.extract i e).size = e - i := by rw [ByteArray.size_extract]; omega
  rw [bt_nat _ j (by omega), bt_nat s (i + j) (by omega)]
  simp [ByteArray.getElem_extract]
theorem cut_size (s : ByteArray) (i e : Nat) (he : e ≤ s.size) : (cut s i e).size = e - i := by unfold cut; rw [ByteArray.size_extract]; omega
/-- What is told of the token at i. -/
theorem tok_tells (s : ByteArray) (i : Nat) (h : i < s.size) (he : (tokS s i).2.2.2.2 = 0) :
    0 < (tokS s i).2.2.1.size ∧ i + (tokS s i).2.2.1.size ≤ s.size ∧ (∀ j : Nat, i ≤ j → j < i + (tokS s i).2.2.1.size → bt s j < 128) ∧ s.extract i (i + (tokS s i).2.2.1.size) = (tokS s i).2.2.1 ∧ (tokS s i).2.1 = i ∧ (tokS s i).1 ≠ 5 := by
  unfold tokS at he ⊢
  by_cases hl : isLb (bt s i) = true
  · rw [if_pos hl] at he ⊢
    by_cases hlen : scan isWb s i - i > 32
    · rw [if_pos hlen] at he; simp [noTok] at he
    · rw [if_neg hlen] at he ⊢
      have hw : isWb (bt s i) = true := by unfold isWb; simp [hl]
      have h1 := le_scan isWb s (i + 1)
      have h2 := scan_le' isWb s i (by omega)
      have h3 := scan_all isWb s i
      have h4 : i < scan isWb s i := by rw [scan_at isWb s i h hw]; omega
      simp only []
      rw [cut_size s i _ h2]
      refine ⟨by omega, by omega, fun j p q => isWb_low (h3 j p (by omega)), ?_, by first | trivial | rfl, ?_⟩
      · rw [show i + (scan isWb s i - i) = scan isWb s i by omega]; rfl
      · split <;> decide
  · rw [if_neg hl] at he ⊢
    by_cases hd : isDb (bt s i) = true
    · rw [if_pos hd] at he ⊢
      unfold numS at he ⊢
      simp only [] at he ⊢
      have h1 := le_scan isDb s (i + 1)
      have h2 := scan_le' isDb s i (by omega)
      have h3 := scan_all isDb s i
      have h4 : i < scan isDb s i := by rw [scan_at isDb s i h hd]; omega
      split at he
      · simp [noTok] at he
      · rename_i c1
        rw [if_neg c1]
        split at he
        · simp [noTok] at he
        · rename_i c2
          rw [if_neg c2]
          simp only []
          rw [cut_size s i _ h2]
          refine ⟨by omega, by omega, fun j p q => ?_, ?_, by first | trivial | rfl, by decide⟩
          · have := h3 j p (by omega); unfold isDb at this; simp at this; omega
          · rw [show i + (scan isDb s i - i) = scan isDb s i by omega]; rfl
    · rw [if_neg hd] at he ⊢
      unfold markS at he ⊢
      cases hf : mkS.find? (standsAt s i) with
      | none => rw [hf] at he; simp [noTok] at he
      | some m =>
        simp only []
        have hs := List.find?_some hf
        have hm := List.mem_of_find?_eq_some hf
        unfold standsAt at hs
        simp only [Bool.and_eq_true, decide_eq_true_eq, beq_iff_eq] at hs
        have hsz : 0 < m.size ∧ ∀ b ∈ m.toList, b.toNat < 128 := by
          have : ∀ x ∈ mkS, 0 < x.size ∧ ∀ b ∈ x.data.toList, b.toNat < 128 := by decide
          rw [Lib.toList_data]; exact this m hm
        have hext : s.extract i (i + m.size) = m := by
          apply ByteArray.ext
          have := hs.2
          rw [Lib.toList_data, Lib.toList_data] at this
          exact Array.toList_inj.1 this
        refine ⟨hsz.1, hs.1, fun j p q => ?_, hext, by first | trivial | rfl, by decide⟩
        have hj := ext_bt s i (i + m.size) (j - i) (by omega) hs.1
        rw [hext, show i + (j - i) = j by omega] at hj
        rw [← hj, bt_nat m (j - i) (by omega)]
        have := hsz.2 (m[j - i]'(by omega)) (by rw [Lib.toList_data]; simp [ByteArray.getElem_eq_getElem_data])
        omega
/-- IndexByte, from i on: the first line feed. -/
theorem index_nl (s : ByteArray) (i : Nat) (hi : i ≤ s.size) : (Lib.indexByte (s.extract i s.size).data.toList 10 = -1 ∧ nlAt s i = s.size) ∨ ∃ n : Nat, Lib.indexByte (s.extract i s.size).data.toList 10 = n ∧ nlAt s i = i + n ∧ i + n < s.size := by
  have hz : (s.extract i s.size).size = s.size - i := by rw [ByteArray.size_extract]; omega
  have hlen : (s.extract i s.size).data.toList.length = s.size - i := by rw [Array.length_toList]; exact hz
  have hget : ∀ k : Nat, k < s.size - i → ∃ b : UInt8, (s.extract i s.size).data.toList[k]? = some b ∧ (b.toNat : Int) = bt s ((i + k : Nat) : Int) := by
    intro k hk
    have h1 := ext_bt s i s.size k hk (Nat.le_refl _)
    rw [bt_nat _ k (by omega)] at h1
    refine ⟨(s.extract i s.size)[k]'(by omega), ?_, h1⟩
    rw [List.getElem?_eq_getElem (by omega)]
    simp [ByteArray.getElem_eq_getElem_data]
  have hge := Lib.indexByte_ge (s.extract i s.size).data.toList 10
  by_cases hneg : Lib.indexByte (s.extract i s.size).data.toList 10 = -1
  · left
    refine ⟨hneg, ?_⟩
    have hno := Lib.indexByte_none hneg
    refine scan_eq _ s i s.size hi (Nat.le_refl _) (fun j h1 h2 => ?_) (fun h => by omega)
    obtain ⟨b, hb, hv⟩ := hget (j - i) (by omega)
    rw [show i + (j - i) = j by omega] at hv
    have hne := hno (j - i)
    rw [hb] at hne
    have h10 : b ≠ 10 := fun e => hne (by rw [e])
    rw [← hv]
    simp only [bne_iff_ne, ne_eq]
    intro e
    exact h10 (UInt8.toNat_inj.1 (by show b.toNat = 10; omega))
  · right
    obtain ⟨n, hn⟩ : ∃ n : Nat, Lib.indexByte (s.extract i s.size).data.toList 10 = n := ⟨(Lib.indexByte (s.extract i s.size).data.toList 10).toNat, by omega⟩
    obtain ⟨h1, h2⟩ := Lib.indexByte_some hn
    have hlt : n < s.size - i := by rw [← hlen]; exact (List.getElem?_eq_some_iff.1 h1).1
    refine ⟨n, hn, ?_, by omega⟩
    refine scan_eq _ s i (i + n) (by omega) (by omega) (fun j p q => ?_) (fun h => ?_)
    · obtain ⟨b, hb, hv⟩ := hget (j - i) (by omega)
      rw [show i + (j - i) = j by omega] at hv
      have hne := h2 (j - i) (by omega)
      rw [hb] at hne
      have h10 : b ≠ 10 := fun e => hne (by rw [e])
      rw [← hv]
      simp only [bne_iff_ne, ne_eq]
      intro e
      exact h10 (UInt8.toNat_inj.1 (by show b.toNat = 10; omega))
    · obtain ⟨b, hb, hv⟩ := hget n hlt
      rw [h1] at hb
      obtain rfl := Option.some.inj hb
      rw [← hv]; decide
end Go.Proofs.YthfhbdncphkdaaaDoor.G

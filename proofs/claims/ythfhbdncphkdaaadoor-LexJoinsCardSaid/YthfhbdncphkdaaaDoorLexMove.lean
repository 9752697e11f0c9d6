/- Tokens that stand elsewhere: a token at i of s stands at q of j, if its bytes and what follows do. -/
import Derived.Test.YthfhbdncphkdaaaDoorLexChain
namespace Go.Proofs.YthfhbdncphkdaaaDoor.G
open Go.RowKit Go.Proofs.YthfhbdncphkdaaaDoorW.PrintWords
set_option linter.unusedVariables false
set_option linter.unusedSimpArgs false

theorem bytes_ext {a b : ByteArray} (h : a.size = b.size) (h2 : ∀ k : Nat, k < a.size → bt a k = bt b k) : a = b := by
  apply ByteArray.ext
  apply Array.ext
  · exact h
  · intro k h3 h4
    have h5 := h2 k h3
    rw [bt_nat a k h3, bt_nat b k h4] at h5
    have : (a[k]'h3).toNat = (b[k]'h4).toNat := by omega
    have h6 := UInt8.toNat_inj.1 this
    simpa [ByteArray.getElem_eq_getElem_data] using h6
theorem app_bt_l (a b : ByteArray) (k : Nat) (h : k < a.size) : bt (a ++ b) k = bt a k := by
  have hz : (a ++ b).size = a.size + b.size := ByteArray.size_append
  rw [bt_nat _ k (by omega), bt_nat a k h, ByteArray.getElem_append_left h]
theorem app_bt_r (a b : ByteArray) (k : Nat) (h : k < b.size) : bt (a ++ b) ((a.size + k : Nat) : Int) = bt b k := by
  have hz : (a ++ b).size = a.size + b.size := ByteArray.size_append
  rw [bt_nat _ (a.size + k) (by omega), bt_nat b k h, ByteArray.getElem_append_right (by omega)]
  simp
theorem cut_eq (s j : ByteArray) (i q n : Nat) (hi : i + n ≤ s.size) (hq : q + n ≤ j.size) (hb : ∀ d : Nat, d < n → bt j ((q + d : Nat) : Int) = bt s ((i + d : Nat) : Int)) : cut j q (q + n) = cut s i (i + n) := by
  have h1 := cut_size s i (i + n) hi
  have h2 := cut_size j q (q + n) hq
  refine bytes_ext (by omega) (fun k hk => ?_)
  have e1 := ext_bt s i (i + n) k (by omega) hi
  have e2 := ext_bt j q (q + n) k (by omega) hq
  unfold cut
  rw [e1, e2]
  exact hb k (by omega)
theorem val_move (s j : ByteArray) (i q n : Nat) (hb : ∀ d : Nat, d < n → bt j ((q + d : Nat) : Int) = bt s ((i + d : Nat) : Int)) : ∀ (m d v : Nat), n - d = m → d ≤ n → val j v (q + d) (q + n) = val s v (i + d) (i + n) := by
  intro m
  induction m with
  | zero => intro d v h h1; rw [val_end j v _ _ (by omega), val_end s v _ _ (by omega)]
  | succ m ih =>
    intro d v h h1
    rw [val_at j v _ _ (by omega), val_at s v _ _ (by omega), hb d (by omega)]
    exact ih (d + 1) _ (by omega) (by omega)
theorem scan_move (p : Int → Bool) (hp32 : p 32 = false) (s j : ByteArray) (i q : Nat) (hi : i ≤ s.size) (hq : q + (scan p s i - i) ≤ j.size) (hb : ∀ d : Nat, d < scan p s i - i → bt j ((q + d : Nat) : Int) = bt s ((i + d : Nat) : Int))
    (hf : q + (scan p s i - i) = j.size ∨ bt j ((q + (scan p s i - i) : Nat) : Int) = 32 ∨ (scan p s i < s.size ∧ bt j ((q + (scan p s i - i) : Nat) : Int) = bt s (scan p s i : Nat))) : scan p j q = q + (scan p s i - i) := by
  have h1 := le_scan p s i
  refine scan_eq p j q _ (by omega) hq (fun x h2 h3 => ?_) (fun h4 => ?_)
  · have := hb (x - q) (by omega)
    rw [show q + (x - q) = x by omega] at this
    rw [this]
    exact scan_all p s i _ (by omega) (by omega)
  · rcases hf with h | h | ⟨h, h5⟩
    · omega
    · rw [h]; exact hp32
    · rw [h5]; exact scan_off p s i h
open Classical in
theorem tok_move (s j : ByteArray) (i q : Nat) (h : i < s.size) (he : (tokS s i).2.2.2.2 = 0) (hq : q + (tokS s i).2.2.1.size ≤ j.size)
    (hb : ∀ d : Nat, d < (tokS s i).2.2.1.size → bt j ((q + d : Nat) : Int) = bt s ((i + d : Nat) : Int))
    (hf : q + (tokS s i).2.2.1.size = j.size ∨ bt j ((q + (tokS s i).2.2.1.size : Nat) : Int) = 32 ∨ (i + (tokS s i).2.2.1.size < s.size ∧ bt j ((q + (tokS s i).2.2.1.size : Nat) : Int) = bt s ((i + (tokS s i).2.2.1.size : Nat) : Int))) :
    tokS j q = ((tokS s i).1, (q : Int), (tokS s i).2.2.1, (tokS s i).2.2.2.1, 0) := by
  have hpos := (tok_tells s i h he).1
  have h0 : bt j (q : Int) = bt s (i : Int) := by simpa using hb 0 hpos
  rw [tokS, h0]
  unfold tokS at he hq hb hf hpos ⊢
  by_cases hl : isLb (bt s i) = true
  · rw [if_pos hl] at he hq hb hf hpos ⊢
    by_cases hlen : scan isWb s i - i > 32
    · rw [if_pos hlen] at he; simp [noTok] at he
    · rw [if_neg hlen] at he hq hb hf hpos ⊢
      rw [if_pos hl]
      simp only at he hq hb hf hpos ⊢
      have h1 := le_scan isWb s i
      have h2 := scan_le' isWb s i (by omega)
      rw [cut_size s i _ h2] at hq hb hf
      rw [show i + (scan isWb s i - i) = scan isWb s i by omega] at hf
      have hs := scan_move isWb rfl s j i q (by omega) hq hb hf
      have hc := cut_eq s j i q (scan isWb s i - i) (by omega) hq hb
      rw [show i + (scan isWb s i - i) = scan isWb s i by omega] at hc
      rw [hs, if_neg (by omega), hc]
  · rw [if_neg hl] at he hq hb hf hpos ⊢
    rw [if_neg hl]
    by_cases hd : isDb (bt s i) = true
    · rw [if_pos hd] at he hq hb hf hpos ⊢
      rw [if_pos hd]
      unfold numS at he hq hb hf hpos ⊢
      simp only [] at he hq hb hf hpos ⊢
      have h1 := le_scan isDb s i
      have h2 := scan_le' isDb s i (by omega)
      have hw := le_scan isWb s (scan isDb s i)
      split at he
      · simp [noTok] at he
      · rename_i c1
        rw [if_neg c1] at hq hb hf hpos ⊢
        split at he
        · simp [noTok] at he
        · rename_i c2
          rw [if_neg c2] at hq hb hf hpos ⊢
          simp only [] at hq hb hf hpos ⊢
          rw [cut_size s i _ h2] at hq hb hf
          rw [show i + (scan isDb s i - i) = scan isDb s i by omega] at hf
          have hs := scan_move isDb rfl s j i q (by omega) hq hb hf
          have hc := cut_eq s j i q (scan isDb s i - i) (by omega) hq hb
          rw [show i + (scan isDb s i - i) = scan isDb s i by omega] at hc
          have hv := val_move s j i q (scan isDb s i - i) hb _ 0 0 rfl (by omega)
          rw [show i + (scan isDb s i - i) = scan isDb s i by omega, Nat.add_zero, Nat.add_zero] at hv
          have hwz : scan isWb s (scan isDb s i) = scan isDb s i := by omega
          have hsw : scan isWb j (q + (scan isDb s i - i)) = q + (scan isDb s i - i) := by
            have := scan_move isWb rfl s j (scan isDb s i) (q + (scan isDb s i - i)) h2 (by omega) (fun d hd => by omega) (by rw [hwz]; simpa using hf)
            rw [hwz] at this
            simpa using this
          rw [hs, hsw, if_neg (by omega), hv, if_neg c2, hc]
    · rw [if_neg hd] at he hq hb hf hpos ⊢
      rw [if_neg hd]
      rw [mark_eq s i h] at he hq hb hf hpos ⊢
      rw [mark_eq j q (by omega), h0]
      split at he
      · rename_i hex
        rw [if_pos hex] at hq hb hf hpos ⊢
        rw [if_pos hex]
        unfold markR at hq hb hf hpos ⊢
        rw [h0]
        by_cases c : (bt s i = 58 ∨ bt s i = 61) ∧ i + 1 < s.size ∧ bt s ((i + 1 : Nat) : Int) = bt s i
        · rw [if_pos c] at hq hb hf hpos ⊢
          simp only [] at hq hb hf hpos ⊢
          rw [cut_size s i _ (by omega), show i + 2 - i = 2 by omega] at hq hb hf
          have h1 := hb 1 (by omega)
          rw [if_pos ⟨c.1, by omega, by rw [h1]; exact c.2.2⟩, cut_eq s j i q 2 (by omega) hq hb]
        · rw [if_neg c] at hq hb hf hpos ⊢
          simp only [] at hq hb hf hpos ⊢
          rw [cut_size s i _ (by omega), show i + 1 - i = 1 by omega] at hq hb hf
          rw [if_neg ?_, cut_eq s j i q 1 (by omega) hq hb]
          rintro ⟨c1, c2, c3⟩
          rcases hf with f | f | ⟨f1, f2⟩
          · omega
          · omega
          · exact c ⟨c1, f1, by omega⟩
      · simp [noTok] at he
/-- No token begins with a slash. -/
theorem tok_not47 (s : ByteArray) (i : Nat) (h : i < s.size) (he : (tokS s i).2.2.2.2 = 0) : bt s i ≠ 47 := by
  intro h47
  unfold tokS at he
  rw [h47, if_neg (by decide), if_neg (by decide), mark_eq s i h, h47] at he
  rw [if_neg ?_] at he
  · simp [noTok] at he
  · rintro ⟨j, _, h2, h3⟩
    have : j = 0 ∨ j = 1 ∨ j = 2 ∨ j = 3 ∨ j = 4 ∨ j = 5 ∨ j = 6 ∨ j = 7 ∨ j = 8 ∨ j = 9 ∨ j = 10 ∨ j = 11 ∨ j = 12 := by omega
    revert h3
    rcases this with rfl | rfl | rfl | rfl | rfl | rfl | rfl | rfl | rfl | rfl | rfl | rfl | rfl <;> decide
/-- Over gaps that end at p or before: the text up to p has them too. -/
theorem skip_pre (s : ByteArray) (p : Nat) (hp : p ≤ s.size) : ∀ i, i ≤ p → skipS s i ≤ p → skipS (s.extract 0 p) i = skipS s i := by
  have hz : (s.extract 0 p).size = p := by rw [ByteArray.size_extract]; omega
  have hbt : ∀ k : Nat, k < p → bt (s.extract 0 p) k = bt s k := fun k hk => by
    have := ext_bt s 0 p k (by omega) hp
    rw [this, Nat.zero_add]
  refine skip_ind s _ (fun i h h2 h3 => ?_) (fun i h hs ih h2 h3 => ?_) (fun i h hs hc ih h2 h3 => ?_) (fun i h hs hc h2 h3 => ?_)
  · rw [skipS_end s i h, skipS_end _ i (by omega)]
  · rw [skipS_sp s i h hs] at h3 ⊢
    have h4 := skip_le s (i + 1) (by omega)
    rw [skipS_sp _ i (by omega) (by rw [hbt i (by omega)]; exact hs)]
    exact ih (by omega) h3
  · rw [skipS_cm s i h hs hc] at h3 ⊢
    have h5 := nlAt_gt s i h hc
    have h6 : nlAt s i ≤ s.size := scan_le' _ s i (by omega)
    have h4 := skip_le s (nlAt s i) h6
    have hc' := hc
    unfold isCm at hc'
    simp only [Bool.and_eq_true, beq_iff_eq, decide_eq_true_eq] at hc'
    have h7 : i + 1 < nlAt s i := by
      have : nlAt s i = nlAt s (i + 2) := by
        unfold nlAt
        rw [scan_at _ s i h (by rw [hc'.1]; rfl), scan_at _ s (i + 1) hc'.2.1 (by rw [hc'.2.2]; rfl)]
      have := le_scan (fun c => c != 10) s (i + 2)
      unfold nlAt at *
      omega
    have hcm : isCm (s.extract 0 p) i = true := by
      unfold isCm
      rw [hbt i (by omega), hbt (i + 1) (by omega), hz, hc'.1, hc'.2.2, decide_eq_true (by omega)]; rfl
    have hn : nlAt (s.extract 0 p) i = nlAt s i := by
      unfold nlAt at *
      refine scan_eq _ _ i _ (by omega) (by omega) (fun x h8 h9 => ?_) (fun h8 => ?_)
      · rw [hbt x (by omega)]; exact scan_all (fun c => c != 10) s i x h8 h9
      · rw [hbt _ (by omega)]; exact scan_off (fun c => c != 10) s i (by omega)
    rw [skipS_cm _ i (by omega) (by rw [hbt i (by omega)]; exact hs) hcm, hn]
    exact ih (by omega) h3
  · rw [skipS_no s i h hs hc] at h3 ⊢
    by_cases hip : i = p
    · rw [skipS_end _ i (by omega)]
    · rw [skipS_no _ i (by omega) (by rw [hbt i (by omega)]; exact hs) ?_]
      cases hx : isCm (s.extract 0 p) i with
      | false => rfl
      | true =>
        unfold isCm at hx
        simp only [Bool.and_eq_true, beq_iff_eq, decide_eq_true_eq] at hx
        rw [hz, hbt i (by omega), hbt (i + 1) (by omega)] at hx
        unfold isCm at hc
        rw [hx.1, hx.2.2, decide_eq_true (by omega)] at hc
        cases hc
/-- What stands before an error is accepted. -/
theorem bad_pre (s : ByteArray) {p : Nat} {e : Int} {i : Nat} (h : Bad s p e i) : ∃ l, Chain (s.extract 0 p) i l := by
  induction h with
  | here i hi h hp he h0 =>
    have h1 := skip_le s i hi
    have hz : (s.extract 0 p).size = p := by rw [ByteArray.size_extract]; omega
    exact ⟨_, .done i (by omega) (by rw [skip_pre s p (by omega) i (by omega) (by omega), hz, hp])⟩
  | tok i hi h he hl ih =>
    obtain ⟨l, ih⟩ := ih
    obtain ⟨_, b1, _, b2⟩ := bad_err hl
    obtain ⟨g1, g2, _⟩ := tok_tells s _ h he
    have hz : (s.extract 0 p).size = p := by rw [ByteArray.size_extract]; omega
    have h1 := skip_le s i hi
    have hbt : ∀ k : Nat, k < p → bt (s.extract 0 p) k = bt s k := fun k hk => by
      have := ext_bt s 0 p k (by omega) (by omega)
      rw [this, Nat.zero_add]
    have hsk := skip_pre s p (by omega) i (by omega) (by omega)
    have hm := tok_move s (s.extract 0 p) (skipS s i) (skipS s i) h he (by omega) (fun d hd => hbt _ (by omega)) (by
      by_cases hx : skipS s i + (tokS s (skipS s i)).2.2.1.size < p
      · exact .inr (.inr ⟨by omega, hbt _ hx⟩)
      · left; omega)
    refine ⟨_, .tok i (by omega) l (by omega) ?_ ?_⟩
    · rw [hsk, hm]
    · rw [hsk, hm]; exact ih
end Go.Proofs.YthfhbdncphkdaaaDoor.G

/- Tokens stand at their offsets in order, with only separators and comments between them; what stands before an error is accepted: the pure statement of LexSpans. -/
import Derived.Test.YthfhbdncphkdaaaDoorWalkLexSpans
import Derived.Test.YthfhbdncphkdaaaDoorLexMove
import Derived.Test.YthfhbdncphkdaaaDoorGf21
namespace Go.Proofs.YthfhbdncphkdaaaDoor.Pure
open Go.RowKit Go.Proofs.YthfhbdncphkdaaaDoorW.PrintWords Go.Proofs.YthfhbdncphkdaaaDoor.G
set_option linter.unusedVariables false
set_option linter.unusedSimpArgs false

/-- The inner loop: to the line's end and one further. -/
theorem gap_l1 (s : ByteArray) (hs : s.size ≤ 65536) (a b : Nat) (hb : b ≤ s.size) (n : Nat) (hn : n ≤ b) (i0 : Nat) (hnl : nlAt s i0 = n) (h0 : i0 ≤ n) (ha : a ≤ i0) (r : Bool) (hr : Ev (fun k => dataflowlaw07_gap.l0 k (s.extract a b) ((n - a + 1 : Nat) : Int)) r) :
    ∀ (d i : Nat), n - i = d → i0 ≤ i → i ≤ n → Ev (fun k => dataflowlaw07_gap.l1 k (s.extract a b) ((i - a : Nat) : Int)) r := by
  have hz : (s.extract a b).size = b - a := by rw [ByteArray.size_extract]; omega
  intro d
  induction d with
  | zero =>
    intro i h h1 h2
    obtain rfl : i = n := by omega
    have e1 : wrap64 (((i - a : Nat) : Int) + 1) = ((i - a + 1 : Nat) : Int) := by rw [w64 (by omega) (by omega)]; omega
    refine Ev.step (f := fun k => dataflowlaw07_gap.l0 k (s.extract a b) ((i - a + 1 : Nat) : Int)) (fun k => ?_) hr
    simp only [dataflowlaw07_gap.l1]
    rw [e1]
    by_cases c : i < b
    · have hbt := ext_bt s a b (i - a) (by omega) hb
      rw [show a + (i - a) = i by omega] at hbt
      have hoff := scan_off (fun c => c != 10) s i0 (by unfold nlAt at hnl; omega)
      unfold nlAt at hnl
      rw [hnl] at hoff
      have h10 : bt s i = 10 := by simpa using hoff
      rw [if_pos (by omega), if_pos (by omega), hbt, if_pos h10]
    · rw [if_neg (by omega)]
  | succ d ih =>
    intro i h h1 h2
    have hbt := ext_bt s a b (i - a) (by omega) hb
    rw [show a + (i - a) = i by omega] at hbt
    have hin := scan_all (fun c => c != 10) s i0 i h1 (by unfold nlAt at hnl; omega)
    have h10 : bt s i ≠ 10 := by simpa using hin
    have e1 : wrap64 (((i - a : Nat) : Int) + 1) = ((i + 1 - a : Nat) : Int) := by rw [w64 (by omega) (by omega)]; omega
    refine Ev.step (f := fun k => dataflowlaw07_gap.l1 k (s.extract a b) ((i + 1 - a : Nat) : Int)) (fun k => ?_) (ih (i + 1) (by omega) (by omega) (by omega))
    simp only [dataflowlaw07_gap.l1]
    rw [if_pos (by omega), if_pos (by omega), hbt, if_neg h10, e1]
theorem gap_l0 (s : ByteArray) (hs : s.size ≤ 65536) (a b : Nat) (hb : b ≤ s.size) (hab : a ≤ b) : ∀ (d i : Nat), b + 1 - i ≤ d → a ≤ i → (i = b + 1 ∨ i ≤ b ∧ skipS s i = b) → Ev (fun k => dataflowlaw07_gap.l0 k (s.extract a b) ((i - a : Nat) : Int)) true := by
  have hz : (s.extract a b).size = b - a := by rw [ByteArray.size_extract]; omega
  have hend : ∀ i : Nat, b ≤ i → Ev (fun k => dataflowlaw07_gap.l0 k (s.extract a b) ((i - a : Nat) : Int)) true := by
    intro i hi
    refine Ev.step (f := fun _ => some true) (fun k => ?_) (Ev.now _)
    simp only [dataflowlaw07_gap.l0]; rw [if_neg (by omega)]
  intro d
  induction d with
  | zero => intro i h h1 h2; exact hend i (by omega)
  | succ d ih =>
    intro i h h1 h2
    by_cases hib : b ≤ i
    · exact hend i hib
    · obtain ⟨_, hk⟩ := h2.resolve_left (by omega)
      have hbt := ext_bt s a b (i - a) (by omega) hb
      rw [show a + (i - a) = i by omega] at hbt
      have e1 : wrap64 (((i - a : Nat) : Int) + 1) = ((i + 1 - a : Nat) : Int) := by rw [w64 (by omega) (by omega)]; omega
      cases hsp : isSp (bt s i) with
      | true =>
        rw [skipS_sp s i (by omega) hsp] at hk
        have h47 : bt s i ≠ 47 := by intro e; rw [e] at hsp; cases hsp
        refine Ev.step (f := fun k => dataflowlaw07_gap.j1 k (s.extract a b) ((i - a : Nat) : Int) (bt s i) false) (fun k => ?_) (Ev.step (f := fun k => dataflowlaw07_gap.l0 k (s.extract a b) ((i + 1 - a : Nat) : Int)) (fun k => ?_) (ih (i + 1) (by omega) (by omega) (.inr ⟨by omega, hk⟩)))
        · simp only [dataflowlaw07_gap.l0]
          rw [if_pos (by omega), if_pos (by omega), hbt, if_neg h47]
        · simp only [dataflowlaw07_gap.j1]
          rw [if_neg (by simp), e1]
          unfold isSp at hsp
          simp only [Bool.or_eq_true, beq_iff_eq] at hsp
          rcases hsp with ((c | c) | c) | c <;> rw [c] <;> simp
      | false =>
        cases hc : isCm s i with
        | true =>
          rw [skipS_cm s i (by omega) hsp hc] at hk
          have h5 := nlAt_gt s i (by omega) hc
          have h6 : nlAt s i ≤ s.size := scan_le' _ s i (by omega)
          have h7 := skip_le s (nlAt s i) h6
          have hc' := hc
          unfold isCm at hc'
          simp only [Bool.and_eq_true, beq_iff_eq, decide_eq_true_eq] at hc'
          have h8 : nlAt s i = nlAt s (i + 1) := by unfold nlAt; rw [scan_at _ s i (by omega) (by rw [hc'.1]; rfl)]
          have h9 : nlAt s i = nlAt s (i + 2) := by rw [h8]; unfold nlAt; rw [scan_at _ s (i + 1) hc'.2.1 (by rw [hc'.2.2]; rfl)]
          have h10 : i + 2 ≤ nlAt s i := by rw [h9]; exact le_scan _ s (i + 2)
          have hbt1 := ext_bt s a b (i + 1 - a) (by omega) hb
          rw [show a + (i + 1 - a) = i + 1 by omega] at hbt1
          have hrest : Ev (fun k => dataflowlaw07_gap.l0 k (s.extract a b) ((nlAt s i - a + 1 : Nat) : Int)) true := by
            rw [show nlAt s i - a + 1 = nlAt s i + 1 - a by omega]
            have hnb0 : nlAt s i ≤ b := by omega
            by_cases hnb : nlAt s i = b
            · exact ih _ (by omega) (by omega) (.inl (by omega))
            · have hsn : isSp (bt s (nlAt s i : Nat)) = true := by
                have hoff := scan_off (fun c => c != 10) s i (by unfold nlAt at h7 hnb hk; omega)
                have : bt s (nlAt s i : Nat) = 10 := by simpa [nlAt] using hoff
                rw [this]; rfl
              rw [skipS_sp s _ (by omega) hsn] at hk
              exact ih _ (by omega) (by omega) (.inr ⟨by omega, hk⟩)
          refine Ev.step (f := fun k => dataflowlaw07_gap.j1 k (s.extract a b) ((i - a : Nat) : Int) (bt s i) true) (fun k => ?_) (Ev.step (f := fun k => dataflowlaw07_gap.l1 k (s.extract a b) ((i - a : Nat) : Int)) (fun k => ?_) (gap_l1 s hs a b hb (nlAt s i) (by omega) i rfl (by omega) (by omega) true hrest _ i rfl (Nat.le_refl _) (by omega)))
          · simp only [dataflowlaw07_gap.l0]
            rw [if_pos (by omega), if_pos (by omega), hbt, if_pos hc'.1, e1, if_pos (by omega), if_pos (by omega), hbt1, hc'.2.2]; rfl
          · simp only [dataflowlaw07_gap.j1]; rw [if_pos trivial]
        | false =>
          rw [skipS_no s i (by omega) hsp hc] at hk
          omega
theorem gap_ev (s : ByteArray) (hs : s.size ≤ 65536) (a : Nat) (ha : a ≤ s.size) : Ev (fun k => dataflowlaw07_gap.f k (s.extract a (skipS s a))) true := by
  have h1 := skip_le s a ha
  have := gap_l0 s hs a (skipS s a) h1.2 h1.1 _ a (Nat.le_refl _) (Nat.le_refl _) (.inr ⟨h1.1, rfl⟩)
  rw [Nat.sub_self] at this
  exact this
theorem rd_drop (L : List S30) (i : Nat) (t : S30) (r : List S30) (h : L.drop i = t :: r) : rd_T30 L (i : Int) = t ∧ i < L.length ∧ L.drop (i + 1) = r := by
  have hlt : i < L.length := by
    by_cases c : i < L.length
    · exact c
    · rw [List.drop_of_length_le (by omega)] at h; cases h
  rw [List.drop_eq_getElem_cons hlt] at h
  injection h with h1 h2
  refine ⟨?_, hlt, h2⟩
  unfold rd_T30
  rw [Int.toNat_natCast, List.getD_eq_getElem?_getD, List.getElem?_eq_getElem hlt, h1]; rfl
theorem haw : Ev (fun k => (dataflowlaw07_awake.f k).bind fun t => some t) true := Ev.bind awake07 (Ev.now _)
theorem spans_at (s : ByteArray) (hs : s.size ≤ 65536) (L : List S30) (a p i : Nat) (t0 : Int) (m : ByteArray) (t3 : Int) (hr : rd_T30 L (i : Int) = ⟨t0, p, m, t3⟩) (h0 : i < L.length) (h1 : a ≤ p) (h2 : p + m.size ≤ s.size) (hx : (s.extract p (p + m.size)).toList = m.toList) (k : Nat) :
    dataflowlaw07_LexSpans.l0 (k + 1) s L a i = (dataflowlaw07_gap.f k (s.extract a p)).bind fun b => dataflowlaw07_LexSpans.j3 k s L i (!b) t0 p m t3 := by
  have w1 : wrap64 ((p : Int) + (m.size : Int)) = ((p + m.size : Nat) : Int) := by rw [w64 (by omega) (by omega)]; omega
  simp only [dataflowlaw07_LexSpans.l0, hr, w1]
  rw [if_pos (by omega), if_pos (by omega), if_neg (by omega), if_neg (by omega), if_pos (by omega), if_pos (by omega), if_pos (by omega)]
  simp only [Int.toNat_natCast]
  rw [if_pos hx, if_pos (by omega), if_pos (by omega), if_pos (by omega)]
/-- The law's loop over the tokens. -/
theorem spans_l (s : ByteArray) (hs : s.size ≤ 65536) (L : List S30) (hL : L.length ≤ 65537) {a : Nat} {l : List S30} (h : Chain s a l) : ∀ i : Nat, L.drop i = l → Ev (fun k => dataflowlaw07_LexSpans.l0 k s L a i) true := by
  induction h with
  | done a ha h =>
    intro i hi
    obtain ⟨hr, hlt, hnext⟩ := rd_drop L i _ _ hi
    have hlen : L.length = i + 1 := by
      have := congrArg List.length hi
      rw [List.length_drop] at this; simp at this; omega
    have hg := gap_ev s hs a ha
    rw [h] at hg
    have hext : (s.extract s.size s.size).toList = ([] : List UInt8) := by rw [toList_nil, ByteArray.size_extract]; omega
    have hnil : (⟨#[]⟩ : ByteArray).toList = ([] : List UInt8) := by rw [toList_nil]; rfl
    have w1 : wrap64 ((s.size : Int) + ((⟨#[]⟩ : ByteArray).size : Int)) = (s.size : Int) := by rw [show (⟨#[]⟩ : ByteArray).size = 0 from rfl, w64 (by omega) (by omega)]; omega
    have w2 : wrap64 ((i : Int) + 1) = ((i + 1 : Nat) : Int) := by rw [w64 (by omega) (by omega)]; rfl
    have w3 : wrap64 ((L.length : Int) - 1) = (i : Int) := by rw [w64 (by omega) (by omega)]; omega
    refine Ev.step (f := fun k => (dataflowlaw07_gap.f k (s.extract a s.size)).bind fun t => dataflowlaw07_LexSpans.j3 k s L i (!t) 5 s.size ⟨#[]⟩ 0) (fun k => ?_) (Ev.bind hg ?_)
    · exact spans_at s hs L a s.size i 5 ⟨#[]⟩ 0 hr hlt ha (Nat.le_refl _) (by rw [show s.size + (⟨#[]⟩ : ByteArray).size = s.size from rfl, hext, hnil]) k
    · refine Ev.step (f := fun k => dataflowlaw07_LexSpans.l0 k s L s.size ((i + 1 : Nat) : Int)) (fun k => ?_) (Ev.step (f := fun k => (dataflowlaw07_awake.f k).bind fun t => some t) (fun k => ?_) haw)
      · simp only [dataflowlaw07_LexSpans.j3]
        rw [w3, if_neg (by simp), if_neg (by simp), if_pos trivial, w1, w2]
      · simp only [dataflowlaw07_LexSpans.l0]
        rw [if_neg (by omega), if_pos trivial]
  | tok a ha l h he hl ih =>
    intro i hi
    obtain ⟨hr, hlt, hnext⟩ := rd_drop L i _ _ hi
    obtain ⟨g1, g2, g3, g4, g5, g6⟩ := tok_tells s _ h he
    have hsk := skip_le s a ha
    have hg := gap_ev s hs a ha
    have hlen : i + 1 < L.length := by
      have hne : l ≠ [] := by intro e; subst e; cases hl
      have := congrArg List.length hi
      rw [List.length_drop] at this
      cases l with
      | nil => exact absurd rfl hne
      | cons _ _ => simp at this; omega
    have w1 : wrap64 ((skipS s a : Nat) + ((tokS s (skipS s a)).2.2.1.size : Int)) = ((skipS s a + (tokS s (skipS s a)).2.2.1.size : Nat) : Int) := by rw [w64 (by omega) (by omega)]; omega
    have w2 : wrap64 ((i : Int) + 1) = ((i + 1 : Nat) : Int) := by rw [w64 (by omega) (by omega)]; rfl
    have w3 : wrap64 ((L.length : Int) - 1) = (L.length : Int) - 1 := by rw [w64 (by omega) (by omega)]
    refine Ev.step (f := fun k => (dataflowlaw07_gap.f k (s.extract a (skipS s a))).bind fun t => dataflowlaw07_LexSpans.j3 k s L i (!t) (tokS s (skipS s a)).1 (skipS s a : Nat) (tokS s (skipS s a)).2.2.1 (tokS s (skipS s a)).2.2.2.1) (fun k => ?_) (Ev.bind hg ?_)
    · exact spans_at s hs L a (skipS s a) i _ _ _ (by rw [hr]; unfold tk; rw [g5]) hlt hsk.1 g2 (by rw [g4]) k
    · refine Ev.step (f := fun k => dataflowlaw07_LexSpans.l0 k s L ((skipS s a + (tokS s (skipS s a)).2.2.1.size : Nat) : Int) ((i + 1 : Nat) : Int)) (fun k => ?_) (ih (i + 1) hnext)
      simp only [dataflowlaw07_LexSpans.j3]
      have b1 : ((tokS s (skipS s a)).1 == 5) = false := beq_eq_false_iff_ne.2 g6
      have b2 : ((i : Int) == (L.length : Int) - 1) = false := beq_eq_false_iff_ne.2 (by omega)
      have hnn : ¬ (tokS s (skipS s a)).2.2.1.toList = ([] : List UInt8) := by rw [toList_nil]; omega
      rw [w3, b1, b2, if_neg (by simp), if_neg (by simp), if_neg g6, if_neg hnn, w1, w2]
theorem LexSpans : dataflowlaw07_LexSpans.Pure := by
  intro s hs
  rcases tokens_cases s with ⟨hlong, h1⟩ | ⟨hle, ⟨l, hl, h1⟩ | ⟨p, er, hb, h1⟩⟩
  · -- too long
    refine Ev.rounds (Ev.congr (f := fun k => dataflowlaw07_LexSpans.j0 k s 0 3 false) (fun k => ?_) (Ev.step (f := fun k => dataflowlaw07_LexSpans.j1 k s 0 true) (fun k => ?_) (Ev.step (fun k => ?_) haw)))
    · unfold dataflowlaw07_LexSpans.f
      rw [ltok_eq, h1]
      simp only [Option.bind_some]
      rw [if_neg (by decide), if_neg (by simp), if_neg (by decide), decide_eq_false (by omega)]
    · simp only [dataflowlaw07_LexSpans.j0]
      rw [if_neg (by simp), if_pos trivial, decide_eq_true (by omega)]
    · simp only [dataflowlaw07_LexSpans.j1]
      rw [if_pos trivial, if_pos trivial]
  · have hlen := tokensS_len s
    rw [h1] at hlen
    refine Ev.rounds (Ev.congr (f := fun k => dataflowlaw07_LexSpans.l0 k s l ((0 : Nat) : Int) ((0 : Nat) : Int)) (fun k => ?_) (spans_l s hle l hlen hl 0 rfl))
    unfold dataflowlaw07_LexSpans.f
    rw [ltok_eq, h1]
    simp only [Option.bind_some]
    rw [if_pos trivial]; rfl
  · obtain ⟨e0, e1, e2, _⟩ := bad_err hb
    obtain ⟨l, hc⟩ := bad_pre s hb
    have hz : (s.extract 0 p).size = p := by rw [ByteArray.size_extract]; omega
    have ht : tokensS (s.extract 0 p) = (l, 0, 0) := by
      unfold tokensS; rw [if_neg (by omega), chain_toks _ hc []]; rfl
    have hj1 : Ev (fun k => dataflowlaw07_LexSpans.j1 k s p false) true := by
      refine Ev.step (fun k => ?_) haw
      simp only [dataflowlaw07_LexSpans.j1]
      rw [if_neg (by simp), if_pos (by omega), if_pos (by omega), Int.toNat_natCast, ltok_eq, ht]
      simp only [Option.bind_some]
      rw [if_pos trivial]
    refine Ev.rounds (Ev.congr (f := fun k => dataflowlaw07_LexSpans.j0 k s p er false) (fun k => ?_) (Ev.step (f := fun k => dataflowlaw07_LexSpans.j1 k s p false) (fun k => ?_) hj1))
    · unfold dataflowlaw07_LexSpans.f
      rw [ltok_eq, h1]
      simp only [Option.bind_some]
      rw [if_neg e0, if_neg (by simp), if_neg (by omega), decide_eq_false (by omega)]
    · simp only [dataflowlaw07_LexSpans.j0]
      rw [if_neg (by simp), decide_eq_false (by omega)]
      split <;> rfl
end Go.Proofs.YthfhbdncphkdaaaDoor.Pure

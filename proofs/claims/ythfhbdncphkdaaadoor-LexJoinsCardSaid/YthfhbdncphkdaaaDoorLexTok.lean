/- The reference's tokens are the program's, in plain words; what 'awake' of the statements about the lexer comes to. -/
import Derived.Test.YthfhbdncphkdaaaDoorLexRef
import Derived.Test.YthfhbdncphkdaaaDoorGf14
import Derived.Test.YthfhbdncphkdaaaDoorGf15
import Derived.Test.YthfhbdncphkdaaaDoorGf16
import Derived.Test.YthfhbdncphkdaaaDoorGf13
namespace Go.Proofs.YthfhbdncphkdaaaDoor.G
open Go.RowKit Go.Proofs.YthfhbdncphkdaaaDoorW.PrintWords
set_option linter.unusedVariables false

theorem nlAt_gt (s : ByteArray) (i : Nat) (h : i < s.size) (hc : isCm s i = true) : i < nlAt s i := by
  unfold isCm at hc
  simp only [Bool.and_eq_true, beq_iff_eq, decide_eq_true_eq] at hc
  unfold nlAt
  rw [scan_at _ s i h (by rw [hc.1]; rfl)]
  have := le_scan (fun c => c != 10) s (i + 1)
  omega
def skipS (s : ByteArray) (i : Nat) : Nat :=
  if _h : i < s.size then
    if isSp (bt s i) then skipS s (i + 1)
    else if _hc : isCm s i = true then skipS s (nlAt s i) else i
  else i
termination_by s.size - i
decreasing_by
  · omega
  · have := nlAt_gt s i _h _hc; omega
theorem skipS_sp (s : ByteArray) (i : Nat) (h : i < s.size) (hs : isSp (bt s i) = true) : skipS s i = skipS s (i + 1) := by rw [skipS, dif_pos h, if_pos hs]
theorem skipS_cm (s : ByteArray) (i : Nat) (h : i < s.size) (hs : isSp (bt s i) = false) (hc : isCm s i = true) : skipS s i = skipS s (nlAt s i) := by rw [skipS, dif_pos h, if_neg (by simp [hs]), dif_pos hc]
theorem skipS_no (s : ByteArray) (i : Nat) (h : i < s.size) (hs : isSp (bt s i) = false) (hc : isCm s i = false) : skipS s i = i := by rw [skipS, dif_pos h, if_neg (by simp [hs]), dif_neg (by simp [hc])]
theorem skipS_end (s : ByteArray) (i : Nat) (h : ¬ i < s.size) : skipS s i = i := by rw [skipS, dif_neg h]
/-- An induction along the gaps. -/
theorem skip_ind (s : ByteArray) (P : Nat → Prop) (he : ∀ i, ¬ i < s.size → P i) (hsp : ∀ i, i < s.size → isSp (bt s i) = true → P (i + 1) → P i) (hcm : ∀ i, i < s.size → isSp (bt s i) = false → isCm s i = true → P (nlAt s i) → P i)
    (hno : ∀ i, i < s.size → isSp (bt s i) = false → isCm s i = false → P i) : ∀ i, P i := by
  have key : ∀ (d i : Nat), s.size - i ≤ d → P i := by
    intro d
    induction d with
    | zero => intro i h; exact he i (by omega)
    | succ d ih =>
      intro i h
      by_cases hi : i < s.size
      · cases h1 : isSp (bt s i) with
        | true => exact hsp i hi h1 (ih (i + 1) (by omega))
        | false =>
          cases h2 : isCm s i with
          | true => exact hcm i hi h1 h2 (ih _ (by have := nlAt_gt s i hi h2; omega))
          | false => exact hno i hi h1 h2
      · exact he i hi
  exact fun i => key _ i (Nat.le_refl _)
theorem skip_le (s : ByteArray) : ∀ i, i ≤ s.size → i ≤ skipS s i ∧ skipS s i ≤ s.size := by
  refine skip_ind s _ (fun i h h2 => ?_) (fun i h hs ih h2 => ?_) (fun i h hs hc ih h2 => ?_) (fun i h hs hc h2 => ?_)
  · rw [skipS_end s i h]; omega
  · rw [skipS_sp s i h hs]; have := ih (by omega); omega
  · rw [skipS_cm s i h hs hc]
    have h1 := nlAt_gt s i h hc
    have h3 : nlAt s i ≤ s.size := scan_le' _ s i (by omega)
    have := ih h3; omega
  · rw [skipS_no s i h hs hc]; omega
theorem skip_stop (s : ByteArray) : ∀ i, skipS s i < s.size → isSp (bt s (skipS s i : Nat)) = false ∧ isCm s (skipS s i) = false := by
  refine skip_ind s _ (fun i h h2 => ?_) (fun i h hs ih h2 => ?_) (fun i h hs hc ih h2 => ?_) (fun i h hs hc h2 => ?_)
  · rw [skipS_end s i h] at h2; omega
  · rw [skipS_sp s i h hs] at h2 ⊢; exact ih h2
  · rw [skipS_cm s i h hs hc] at h2 ⊢; exact ih h2
  · rw [skipS_no s i h hs hc]; exact ⟨hs, hc⟩
/-- The reference's inner loop: to the line's end. -/
theorem rskip_l1 (s : ByteArray) (hs : s.size ≤ 140737488351232) (r : Int) : ∀ (d i : Nat), s.size - i = d → Ev (fun k => dataflowref07_skip.l0 k s (nlAt s i : Nat)) r → Ev (fun k => dataflowref07_skip.l1 k s i) r := by
  intro d
  induction d with
  | zero =>
    intro i h hr
    have hn : nlAt s i = i := scan_end _ s i (by omega)
    rw [hn] at hr
    refine Ev.step (f := fun k => dataflowref07_skip.l0 k s i) (fun k => ?_) hr
    simp only [dataflowref07_skip.l1]; rw [if_neg (by omega)]
  | succ d ih =>
    intro i h hr
    have hi : i < s.size := by omega
    by_cases c : bt s i = 10
    · have hn : nlAt s i = i := scan_no _ s i hi (by rw [c]; rfl)
      rw [hn] at hr
      refine Ev.step (f := fun k => dataflowref07_skip.l0 k s i) (fun k => ?_) hr
      simp only [dataflowref07_skip.l1]; rw [if_pos (by omega), if_pos (by omega), if_pos c]
    · have hn : nlAt s i = nlAt s (i + 1) := scan_at _ s i hi (by simpa using c)
      rw [hn] at hr
      refine Ev.step (f := fun k => dataflowref07_skip.l1 k s ((i + 1 : Nat) : Int)) (fun k => ?_) (ih (i + 1) (by omega) hr)
      simp only [dataflowref07_skip.l1]; rw [if_pos (by omega), if_pos (by omega), if_neg c, w64 (by omega) (by omega)]; rfl
theorem rskip_ev (s : ByteArray) (hs : s.size ≤ 140737488351232) : ∀ i, Ev (fun k => dataflowref07_skip.l0 k s ((i : Nat) : Int)) (skipS s i : Nat) := by
  have hj1 : ∀ (i : Nat), i < s.size → ∀ (b : Bool) (f : Nat → Option Int), (∀ k, dataflowref07_skip.j1 (k + 1) s i (bt s i) b = f k) → (b = isSp (bt s i)) → ∀ r, Ev f r → Ev (fun k => dataflowref07_skip.l0 k s i) r := by
    intro i hi b f hf hb r hr
    refine Ev.step (f := fun k => dataflowref07_skip.j1 k s i (bt s i) b) (fun k => ?_) (Ev.step hf hr)
    simp only [dataflowref07_skip.l0]
    rw [if_pos (by omega), if_pos (by omega), hb]
    unfold isSp
    by_cases c1 : bt s i = 32
    · rw [if_pos c1]; simp [c1]
    · rw [if_neg c1]
      by_cases c2 : bt s i = 9
      · rw [if_pos c2]; simp [c2]
      · rw [if_neg c2]
        by_cases c3 : bt s i = 13
        · rw [if_pos c3]; simp [c3]
        · rw [if_neg c3]
          have h1 : (bt s i == 32) = false := beq_eq_false_iff_ne.2 c1
          have h2 : (bt s i == 9) = false := beq_eq_false_iff_ne.2 c2
          have h3 : (bt s i == 13) = false := beq_eq_false_iff_ne.2 c3
          rw [h1, h2, h3]; rfl
  refine skip_ind s _ (fun i h => ?_) (fun i h hsp ih => ?_) (fun i h hsp hc ih => ?_) (fun i h hsp hc => ?_)
  · rw [skipS_end s i h]
    refine Ev.step (f := fun _ => some (i : Int)) (fun k => ?_) (Ev.now _)
    simp only [dataflowref07_skip.l0]; rw [if_neg (by omega)]
  · rw [skipS_sp s i h hsp]
    refine hj1 i h true (fun k => dataflowref07_skip.l0 k s ((i + 1 : Nat) : Int)) (fun k => ?_) hsp.symm _ ih
    simp only [dataflowref07_skip.j1, if_true]; rw [w64 (by omega) (by omega)]; rfl
  · rw [skipS_cm s i h hsp hc]
    unfold isCm at hc
    simp only [Bool.and_eq_true, beq_iff_eq, decide_eq_true_eq] at hc
    have e1 : wrap64 ((i : Int) + 1) = ((i + 1 : Nat) : Int) := by rw [w64 (by omega) (by omega)]; rfl
    refine hj1 i h false (fun k => dataflowref07_skip.j2 k s i false) (fun k => ?_) hsp.symm _ (Ev.step (f := fun k => dataflowref07_skip.l1 k s i) (fun k => ?_) (rskip_l1 s hs _ _ i rfl ih))
    · simp only [dataflowref07_skip.j1]
      rw [if_neg (by simp), if_pos hc.1, e1, if_neg (by omega), if_pos (by omega), if_pos (by omega), hc.2.2]; rfl
    · simp only [dataflowref07_skip.j2]; rw [if_neg (by simp)]
  · rw [skipS_no s i h hsp hc]
    have e1 : wrap64 ((i : Int) + 1) = ((i + 1 : Nat) : Int) := by rw [w64 (by omega) (by omega)]; rfl
    refine hj1 i h false (fun k => dataflowref07_skip.j2 k s i true) (fun k => ?_) hsp.symm _ (Ev.step (f := fun _ => some (i : Int)) (fun k => ?_) (Ev.now _))
    · simp only [dataflowref07_skip.j1]
      rw [if_neg (by simp)]
      by_cases c1 : bt s i = 47
      · rw [if_pos c1]
        by_cases c2 : i + 1 < s.size
        · have c3 : bt s ((i + 1 : Nat) : Int) ≠ 47 := by
            intro c3
            have : isCm s i = true := by unfold isCm; rw [c1, c3, decide_eq_true c2]; rfl
            rw [hc] at this; cases this
          rw [e1, if_neg (by omega), if_pos (by omega), if_pos (by omega), bne_iff_ne.2 c3]
        · rw [e1, if_pos (by omega)]
      · rw [if_neg c1]
    · simp only [dataflowref07_skip.j2]; rw [if_pos trivial]
/-- What 'next' is below the place does not matter. -/
theorem toks_next (s : ByteArray) : ∀ (d i n m : Nat) (acc : List S30), s.size - i = d → n ≤ i → m ≤ i → toks s i n acc = toks s i m acc := by
  intro d
  induction d with
  | zero => intro i n m acc h h1 h2; rw [toks_end s i n acc (by omega), toks_end s i m acc (by omega)]
  | succ d ih =>
    intro i n m acc h h1 h2
    have hi : i < s.size := by omega
    have hn : decide (i < n) = false := by simp; omega
    have hm : decide (i < m) = false := by simp; omega
    cases hs : isSp (bt s i) with
    | true => rw [toks_skip s i n acc hi (by simp [hs]), toks_skip s i m acc hi (by simp [hs])]; exact ih (i + 1) n m acc (by omega) (by omega) (by omega)
    | false =>
      have c1 : (decide (i < n) || isSp (bt s i)) = false := by rw [hn, hs]; rfl
      have c2 : (decide (i < m) || isSp (bt s i)) = false := by rw [hm, hs]; rfl
      cases hc : isCm s i with
      | true => rw [toks_cm s i n acc hi c1 hc, toks_cm s i m acc hi c2 hc]
      | false =>
        by_cases he : (tokS s i).2.2.2.2 = 0
        · rw [toks_tok s i n acc hi c1 hc he, toks_tok s i m acc hi c2 hc he]
        · rw [toks_err s i n acc hi c1 hc he, toks_err s i m acc hi c2 hc he]
/-- Over a gap. -/
theorem toks_gap (s : ByteArray) (acc : List S30) : ∀ i, i ≤ s.size → toks s i i acc = toks s (skipS s i) (skipS s i) acc := by
  refine skip_ind s _ (fun i h h2 => ?_) (fun i h hs ih h2 => ?_) (fun i h hs hc ih h2 => ?_) (fun i h hs hc h2 => ?_)
  · rw [skipS_end s i h]
  · rw [skipS_sp s i h hs, toks_skip s i i acc h (by simp [hs]), toks_next s _ (i + 1) i (i + 1) acc rfl (by omega) (by omega)]; exact ih (by omega)
  · have h1 := nlAt_gt s i h hc
    have h3 : nlAt s i ≤ s.size := scan_le' _ s i (by omega)
    rw [skipS_cm s i h hs hc, toks_cm s i i acc h (by simp [hs]) hc]
    have h4 := toks_over s (nlAt s i) acc (nlAt s i - (i + 1)) (i + 1) (by omega) (fun _ => by omega)
    rw [show i + 1 + (nlAt s i - (i + 1)) = nlAt s i by omega] at h4
    rw [h4]; exact ih h3
  · rw [skipS_no s i h hs hc]
/-- Over a token. -/
theorem toks_one (s : ByteArray) (i : Nat) (acc : List S30) (h : i < s.size) (hs : isSp (bt s i) = false) (hc : isCm s i = false) (he : (tokS s i).2.2.2.2 = 0) :
    toks s i i acc = toks s (i + (tokS s i).2.2.1.size) (i + (tokS s i).2.2.1.size) (acc ++ [tk (tokS s i)]) := by
  obtain ⟨g1, g2, _⟩ := tok_tells s i h he
  rw [toks_tok s i i acc h (by simp [hs]) hc he]
  have h4 := toks_over s (i + (tokS s i).2.2.1.size) (acc ++ [tk (tokS s i)]) ((tokS s i).2.2.1.size - 1) (i + 1) (by omega) (fun _ => by omega)
  rw [show i + 1 + ((tokS s i).2.2.1.size - 1) = i + (tokS s i).2.2.1.size by omega] at h4
  exact h4
theorem rtok_l (s : ByteArray) (hs : s.size ≤ 65536) : ∀ (d i : Nat) (acc : List S30), s.size - i ≤ d → skipS s i = i → i ≤ s.size → acc.length ≤ i → Ev (fun k => dataflowref07_Tokens.l0 k s acc i) (toks s i i acc) := by
  intro d
  induction d with
  | zero =>
    intro i acc h h1 h2 h3
    rw [toks_end s i i acc (by omega)]
    refine Ev.step (f := fun _ => some (acc ++ [(⟨5, s.size, ⟨#[]⟩, 0⟩ : S30)], 0, 0)) (fun k => ?_) (Ev.now _)
    simp only [dataflowref07_Tokens.l0]; rw [if_neg (by omega), if_pos (by omega)]
  | succ d ih =>
    intro i acc h h1 h2 h3
    by_cases hi : i < s.size
    · have hst := skip_stop s i
      rw [h1] at hst
      obtain ⟨hsp, hc⟩ := hst hi
      by_cases he : (tokS s i).2.2.2.2 = 0
      · obtain ⟨g1, g2, _⟩ := tok_tells s i hi he
        rw [toks_one s i acc hi hsp hc he, toks_gap s _ _ g2]
        obtain ⟨l1, l2⟩ := skip_le s (i + (tokS s i).2.2.1.size) g2
        have hfix : skipS s (skipS s (i + (tokS s i).2.2.1.size)) = skipS s (i + (tokS s i).2.2.1.size) := by
          by_cases h5 : skipS s (i + (tokS s i).2.2.1.size) < s.size
          · obtain ⟨a1, a2⟩ := skip_stop s _ h5
            exact skipS_no s _ h5 a1 a2
          · exact skipS_end s _ h5
        have hrec := ih (skipS s (i + (tokS s i).2.2.1.size)) (acc ++ [tk (tokS s i)]) (by omega) hfix l2 (by rw [List.length_append]; simp; omega)
        refine Ev.step (f := fun k => (dataflowref07_one.f k s i).bind fun b => if b.2.2.2.2 = 0 then (if acc.length < 3518437208883 then ((dataflowref07_skip.f k s (wrap64 ((i : Int) + (b.2.2.1.size : Int)))).bind fun t => (dataflowref07_Tokens.l0 k s (acc ++ [(⟨b.1, b.2.1, b.2.2.1, b.2.2.2.1⟩ : S30)]) t)) else (none)) else (some (([] : List (S30)), (i : Int), b.2.2.2.2))) (fun k => ?_) (Ev.bind (rone_ev s (by omega) i hi) ?_)
        · simp only [dataflowref07_Tokens.l0]; rw [if_pos (by omega)]
        · refine Ev.congr (f := fun k => (dataflowref07_skip.l0 k s ((i + (tokS s i).2.2.1.size : Nat) : Int)).bind fun t => (dataflowref07_Tokens.l0 k s (acc ++ [tk (tokS s i)]) t)) (fun k => ?_) (Ev.bind (rskip_ev s (by omega) _) hrec)
          rw [if_pos he, if_pos (by omega), w64 (by omega) (by omega)]; rfl
      · rw [toks_err s i i acc hi (by simp [hsp]) hc he]
        refine Ev.step (f := fun k => (dataflowref07_one.f k s i).bind fun b => if b.2.2.2.2 = 0 then (if acc.length < 3518437208883 then ((dataflowref07_skip.f k s (wrap64 ((i : Int) + (b.2.2.1.size : Int)))).bind fun t => (dataflowref07_Tokens.l0 k s (acc ++ [(⟨b.1, b.2.1, b.2.2.1, b.2.2.2.1⟩ : S30)]) t)) else (none)) else (some (([] : List (S30)), (i : Int), b.2.2.2.2))) (fun k => ?_) (Ev.bind (rone_ev s (by omega) i hi) ?_)
        · simp only [dataflowref07_Tokens.l0]; rw [if_pos (by omega)]
        · refine Ev.congr (f := fun _ => some (([] : List (S30)), (i : Int), (tokS s i).2.2.2.2)) (fun k => ?_) (Ev.now _)
          rw [if_neg he]
    · rw [toks_end s i i acc (by omega)]
      refine Ev.step (f := fun _ => some (acc ++ [(⟨5, s.size, ⟨#[]⟩, 0⟩ : S30)], 0, 0)) (fun k => ?_) (Ev.now _)
      simp only [dataflowref07_Tokens.l0]; rw [if_neg (by omega), if_pos (by omega)]
/-- The tokens of a text: the program's and the reference's. -/
def tokensS (s : ByteArray) : TokRes := if s.size > 65536 then ([], 0, 3) else toks s 0 0 []
theorem ltok_eq (s : ByteArray) : lex_Tokens.f s = some (tokensS s) := by
  unfold lex_Tokens.f tokensS
  by_cases h : s.size > 65536
  · rw [if_pos (by omega), if_pos h]
  · rw [if_neg (by omega), if_neg h]
theorem rtok_ev (s : ByteArray) : Ev (fun k => dataflowref07_Tokens.f k s) (tokensS s) := by
  unfold tokensS
  by_cases h : s.size > 65536
  · rw [if_pos h]
    refine Ev.congr (f := fun _ => some (([] : List S30), 0, 3)) (fun k => ?_) (Ev.now _)
    unfold dataflowref07_Tokens.f; rw [if_pos (by omega)]
  · rw [if_neg h, toks_gap s [] 0 (by omega)]
    have hfix : skipS s (skipS s 0) = skipS s 0 := by
      by_cases h5 : skipS s 0 < s.size
      · obtain ⟨a1, a2⟩ := skip_stop s _ h5
        exact skipS_no s _ h5 a1 a2
      · exact skipS_end s _ h5
    refine Ev.congr (f := fun k => (dataflowref07_skip.l0 k s ((0 : Nat) : Int)).bind fun t => dataflowref07_Tokens.l0 k s [] t) (fun k => ?_) (Ev.bind (rskip_ev s (by omega) 0) (rtok_l s (by omega) _ _ [] (Nat.le_refl _) hfix (skip_le s 0 (by omega)).2 (by simp)))
    unfold dataflowref07_Tokens.f; rw [if_neg (by omega)]; rfl
theorem same_refl_l (l : List S30) (hl : l.length ≤ 1000000) : ∀ (d i : Nat), l.length - i = d → Ev (fun k => dataflowref07_Same.l0 k l l i) true := by
  intro d
  induction d with
  | zero =>
    intro i h
    refine Ev.step (f := fun _ => some true) (fun k => ?_) (Ev.now _)
    simp only [dataflowref07_Same.l0]; rw [if_neg (by omega)]
  | succ d ih =>
    intro i h
    refine Ev.step (f := fun k => dataflowref07_Same.l0 k l l ((i + 1 : Nat) : Int)) (fun k => ?_) (ih (i + 1) (by omega))
    simp only [dataflowref07_Same.l0]; rw [if_pos (by omega), if_pos (by omega), if_pos (by omega), w64 (by omega) (by omega)]; simp
theorem same_refl (l : List S30) (hl : l.length ≤ 1000000) : Ev (fun k => dataflowref07_Same.f k l l) true :=
  Ev.congr (f := fun k => dataflowref07_Same.l0 k l l ((0 : Nat) : Int)) (fun k => by unfold dataflowref07_Same.f; rw [if_pos rfl]; rfl) (same_refl_l l hl _ 0 rfl)
/-- How many tokens there are at the most. -/
theorem toks_len (s : ByteArray) : ∀ (d i n : Nat) (acc : List S30), s.size - i = d → acc.length ≤ i → (toks s i n acc).1.length ≤ max i s.size + 1 := by
  intro d
  induction d with
  | zero => intro i n acc h h1; rw [toks_end s i n acc (by omega)]; simp; omega
  | succ d ih =>
    intro i n acc h h1
    have hi : i < s.size := by omega
    have hmax : max (i + 1) s.size = max i s.size := by omega
    cases hs : (decide (i < n) || isSp (bt s i)) with
    | true => rw [toks_skip s i n acc hi hs]; have := ih (i + 1) n acc (by omega) (by omega); omega
    | false =>
      cases hc : isCm s i with
      | true => rw [toks_cm s i n acc hi hs hc]; have := ih (i + 1) (nlAt s i) acc (by omega) (by omega); omega
      | false =>
        by_cases he : (tokS s i).2.2.2.2 = 0
        · rw [toks_tok s i n acc hi hs hc he]; have := ih (i + 1) (i + (tokS s i).2.2.1.size) (acc ++ [tk (tokS s i)]) (by omega) (by simp; omega); omega
        · rw [toks_err s i n acc hi hs hc he]; simp
theorem tokensS_len (s : ByteArray) : (tokensS s).1.length ≤ 65537 := by
  unfold tokensS
  by_cases h : s.size > 65536
  · rw [if_pos h]; simp
  · rw [if_neg h]; have := toks_len s _ 0 0 [] rfl (by simp); omega
/-- A closed text's tokens: by the reference's own run. -/
theorem tokensS_run {s : ByteArray} {r : TokRes} {k : Nat} (h : dataflowref07_Tokens.f k s = some r) : tokensS s = r := by
  obtain ⟨K, hK⟩ := rtok_ev s
  have h1 := hK (max K k) (Nat.le_max_left _ _)
  have h2 := at_rounds (dataflowref07_Tokens.mono s) (Nat.le_max_right K k) h
  exact Option.some.inj (h1.symm.trans h2)
theorem awake07 : Ev (fun k => dataflowlaw07_awake.f k) true := by
  have h0 : tokensS ⟨#[118, 97, 114, 32, 120, 49, 58, 32, 65, 59]⟩ = ([⟨2, 0, ⟨#[118, 97, 114]⟩, 0⟩, ⟨1, 4, ⟨#[120, 49]⟩, 0⟩, ⟨4, 6, ⟨#[58]⟩, 0⟩, ⟨1, 8, ⟨#[65]⟩, 0⟩, ⟨4, 9, ⟨#[59]⟩, 0⟩, ⟨5, 10, ⟨#[]⟩, 0⟩], 0, 0) := tokensS_run (k := 200) (by kernel_rfl)
  have h1 : lex_Ident.f 100 (⟨#[110, 101, 119]⟩ : ByteArray) = some false := by kernel_rfl
  have h2 : lex_Ident.f 100 (⟨#[97]⟩ : ByteArray) = some true := by kernel_rfl
  have h3 : lex_Keyword.f (⟨#[110, 101, 119]⟩ : ByteArray) = some true := by kernel_rfl
  refine Ev.of (k := 100) (fun k => dataflowlaw07_awake.mono k) ?_
  unfold dataflowlaw07_awake.f
  rw [ltok_eq, h0]
  simp only [Option.bind_some]
  rw [h3, h1, h2]
  kernel_rfl
end Go.Proofs.YthfhbdncphkdaaaDoor.G

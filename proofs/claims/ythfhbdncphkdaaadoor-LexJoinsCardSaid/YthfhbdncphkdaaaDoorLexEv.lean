/- What the printed functions of package lex compute, in plain words (letters, ends of words, numbers). -/
import Derived.Test.YthfhbdncphkdaaaDoorSpec
import Derived.Test.YthfhbdncphkdaaaDoorGa
namespace Go.Proofs.YthfhbdncphkdaaaDoor.G
open Go.RowKit Go.Proofs.YthfhbdncphkdaaaDoorW.PrintWords
set_option linter.unusedVariables false

theorem w64 {i : Int} (h0 : -9223372036854775808 ≤ i) (h1 : i ≤ 9223372036854775807) : wrap64 i = i := by unfold wrap64; omega
theorem isLetter_eq (c : Int) : lex_isLetter.f c = some (isLb c) := by
  unfold lex_isLetter.f isLb
  by_cases h1 : c ≥ 97 <;> by_cases h2 : c ≤ 122 <;> by_cases h3 : c ≥ 65 <;> by_cases h4 : c ≤ 90 <;> simp [h1, h2, h3, h4] <;> omega
theorem isDigit_eq (c : Int) : lex_isDigit.f c = some (isDb c) := by
  unfold lex_isDigit.f isDb
  by_cases h1 : c ≥ 48 <;> by_cases h2 : c ≤ 57 <;> simp [h1, h2]
theorem wordEnd_l (s : ByteArray) (hs : s.size ≤ 140737488351232) : ∀ (d i : Nat), s.size - i = d → Ev (fun k => lex_wordEnd.l0 k s i) (scan isWb s i : Nat) := by
  intro d
  induction d with
  | zero =>
    intro i h
    refine Ev.step (f := fun _ => some (i : Int)) (fun k => ?_) ?_
    · simp only [lex_wordEnd.l0]; rw [if_neg (by omega)]
    · rw [scan_end isWb s i (by omega)]; exact Ev.now _
  | succ d ih =>
    intro i h
    have hi : i < s.size := by omega
    have e1 : wrap64 ((i : Int) + 1) = ((i + 1 : Nat) : Int) := by rw [w64 (by omega) (by omega)]; rfl
    cases hp : isWb (bt s i) with
    | true =>
      refine Ev.step (f := fun k => lex_wordEnd.l0 k s ((i + 1 : Nat) : Int)) (fun k => ?_) ?_
      · simp only [lex_wordEnd.l0]
        rw [if_pos (by omega), if_pos (by omega), isLetter_eq, isDigit_eq, e1]
        simp only [Option.bind_some]
        unfold isWb at hp
        cases h1 : isLb (bt s i) <;> cases h2 : isDb (bt s i) <;> simp [h1, h2] at hp ⊢
        intro h3; exact absurd hp h3
      · rw [scan_at isWb s i hi hp]; exact ih (i + 1) (by omega)
    | false =>
      refine Ev.step (f := fun _ => some (i : Int)) (fun k => ?_) ?_
      · simp only [lex_wordEnd.l0]
        rw [if_pos (by omega), if_pos (by omega), isLetter_eq, isDigit_eq]
        simp only [Option.bind_some]
        unfold isWb at hp
        cases h1 : isLb (bt s i) <;> cases h2 : isDb (bt s i) <;> simp [h1, h2] at hp ⊢
        intro h3; exact absurd h3 hp
      · rw [scan_no isWb s i hi hp]; exact Ev.now _
theorem wordEnd_ev (s : ByteArray) (hs : s.size ≤ 140737488351232) (i : Nat) : Ev (fun k => lex_wordEnd.f k s i) (scan isWb s i : Nat) := wordEnd_l s hs _ i rfl

theorem bt_dig {c : Int} (h : isDb c = true) : 48 ≤ c ∧ c ≤ 57 := by simpa [isDb] using h

theorem num_l1 (s : ByteArray) (hs : s.size ≤ 140737488351232) (a e : Nat) (ha : a ≤ e) (he : e ≤ s.size) (hd : ∀ j, a ≤ j → j < e → isDb (bt s j) = true) :
    ∀ (d i v : Nat), e - i = d → a ≤ i → i ≤ e → v ≤ 9223372036854775807 * 2 →
      Ev (fun k => lex_number.l1 k s a e v i) (if val s v i e > 9223372036854775807 then noTok 4 else (3, (a : Int), cut s a e, (val s v i e : Int), 0)) := by
  intro d
  induction d with
  | zero =>
    intro i v h h1 h2 hv
    obtain rfl : i = e := by omega
    rw [val_end s v i i (by omega)]
    by_cases c : v > 9223372036854775807
    · refine Ev.step (f := fun _ => some (noTok 4)) (fun k => ?_) ?_
      · simp only [lex_number.l1]; rw [if_neg (by omega), if_pos (by omega)]; rfl
      · rw [if_pos c]; exact Ev.now _
    · refine Ev.step (f := fun _ => some (3, (a : Int), cut s a i, (v : Int), 0)) (fun k => ?_) ?_
      · simp only [lex_number.l1]
        rw [if_neg (by omega), if_neg (by omega), if_pos (by omega), if_pos (by omega), if_pos (by omega), w64 (by omega) (by omega)]
        simp [cut]
      · rw [if_neg c]; exact Ev.now _
  | succ d ih =>
    intro i v h h1 h2 hv
    have hi : i < e := by omega
    have hb := bt_dig (hd i h1 hi)
    rw [val_at s v i e hi]
    by_cases c : v > 922337203685477580
    · have hg := le_val s (v * 10 + (bt s i - 48).toNat) (i + 1) e
      refine Ev.step (f := fun _ => some (noTok 4)) (fun k => ?_) ?_
      · simp only [lex_number.l1]; rw [if_pos (by omega), if_pos (by omega)]; rfl
      · rw [if_pos (by omega)]; exact Ev.now _
    · refine Ev.step (f := fun k => lex_number.l1 k s a e ((v * 10 + (bt s i - 48).toNat : Nat) : Int) ((i + 1 : Nat) : Int)) (fun k => ?_) (ih (i + 1) _ (by omega) (by omega) (by omega) (by omega))
      simp only [lex_number.l1]
      rw [if_pos (by omega), if_neg (by omega), if_pos (by omega), if_pos (by omega)]
      have e1 : wrap64 ((i : Int) + 1) = ((i + 1 : Nat) : Int) := by rw [w64 (by omega) (by omega)]; rfl
      have e2 : (bt s i - 48) % 256 = bt s i - 48 := by omega
      have e3 : IntKind.u64.wrap (IntKind.u64.wrap ((v : Int) * 10) + (bt s i - 48) % 256) = ((v * 10 + (bt s i - 48).toNat : Nat) : Int) := by
        rw [e2]
        have w1 : ∀ x : Int, IntKind.u64.wrap x = x % 18446744073709551616 := fun x => rfl
        rw [w1, w1]; omega
      rw [e1, e3]
theorem num_l0 (s : ByteArray) (hs : s.size ≤ 140737488351232) (a : Nat) (ha : a < s.size) :
    ∀ (d i : Nat), s.size - i = d → a ≤ i → i ≤ s.size → (∀ j, a ≤ j → j < i → isDb (bt s j) = true) →
      ∀ r, Ev (fun k => lex_number.j1 k s a (scan isDb s i : Nat)) r → Ev (fun k => lex_number.l0 k s a i) r := by
  intro d
  induction d with
  | zero =>
    intro i h h1 h2 hd r hr
    rw [scan_end isDb s i (by omega)] at hr
    refine Ev.step (f := fun k => lex_number.j1 k s a i) (fun k => ?_) hr
    simp only [lex_number.l0]; rw [if_neg (by omega)]
  | succ d ih =>
    intro i h h1 h2 hd r hr
    have hi : i < s.size := by omega
    cases hp : isDb (bt s i) with
    | true =>
      rw [scan_at isDb s i hi hp] at hr
      refine Ev.step (f := fun k => lex_number.l0 k s a ((i + 1 : Nat) : Int)) (fun k => ?_) (ih (i + 1) (by omega) (by omega) (by omega) (fun j h3 h4 => by
        by_cases e : j = i
        · subst e; exact hp
        · exact hd j h3 (by omega)) r hr)
      simp only [lex_number.l0]
      rw [if_pos (by omega), if_pos (by omega), isDigit_eq, hp, w64 (by omega) (by omega)]
      simp
    | false =>
      rw [scan_no isDb s i hi hp] at hr
      refine Ev.step (f := fun k => lex_number.j1 k s a i) (fun k => ?_) hr
      simp only [lex_number.l0]
      rw [if_pos (by omega), if_pos (by omega), isDigit_eq, hp]
      simp
theorem num_ev (s : ByteArray) (hs : s.size ≤ 140737488351232) (a : Nat) (ha : a < s.size) (hd : isDb (bt s a) = true) : Ev (fun k => lex_number.f k s a) (numS s a) := by
  refine num_l0 s hs a ha _ a rfl (Nat.le_refl _) (by omega) (fun j h1 h2 => by omega) _ ?_
  have h1 := le_scan isDb s a
  have h2 := scan_le' isDb s a (by omega)
  have h3 := scan_all isDb s a
  have hgt : a < scan isDb s a := by rw [scan_at isDb s a ha hd]; have := le_scan isDb s (a + 1); omega
  have h4 := le_scan isWb s (scan isDb s a)
  have hend : ∀ b : Bool, Ev (fun k => lex_number.j2 k s a (scan isDb s a : Nat) b) (if b then noTok 2 else if val s 0 a (scan isDb s a) > 9223372036854775807 then noTok 4 else (3, (a : Int), cut s a (scan isDb s a), (val s 0 a (scan isDb s a) : Int), 0)) := by
    intro b
    cases b with
    | true => exact Ev.step (f := fun _ => some (noTok 2)) (fun k => by simp [lex_number.j2, noTok]) (Ev.now _)
    | false =>
      refine Ev.step (f := fun k => lex_number.l1 k s a (scan isDb s a : Nat) ((0 : Nat) : Int) a) (fun k => by simp [lex_number.j2]) ?_
      exact num_l1 s hs a (scan isDb s a) h1 h2 (fun j p q => h3 j p q) _ a 0 rfl (Nat.le_refl _) h1 (by omega)
  have hword := wordEnd_ev s hs (scan isDb s a)
  unfold numS
  simp only []
  by_cases c1 : bt s a = 48
  · by_cases c2 : scan isDb s a - a > 1
    · rw [if_pos (.inl ⟨c1, c2⟩)]
      refine Ev.step (f := fun k => lex_number.j2 k s a (scan isDb s a : Nat) true) (fun k => ?_) (by simpa using hend true)
      simp only [lex_number.j1]
      rw [if_pos (by omega), if_pos (by omega), if_pos c1, w64 (by omega) (by omega), if_pos (by omega)]
    · refine Ev.step (f := fun k => (lex_wordEnd.f k s (scan isDb s a : Nat)).bind fun t => lex_number.j2 k s a (scan isDb s a : Nat) (decide (t > ((scan isDb s a : Nat) : Int)))) (fun k => ?_) (Ev.bind hword ?_)
      · simp only [lex_number.j1]
        rw [if_pos (by omega), if_pos (by omega), if_pos c1, w64 (by omega) (by omega), if_neg (by omega)]
      · by_cases c3 : scan isWb s (scan isDb s a) > scan isDb s a
        · rw [if_pos (.inr c3), show decide (((scan isWb s (scan isDb s a) : Nat) : Int) > ((scan isDb s a : Nat) : Int)) = true by simpa using c3]
          simpa using hend true
        · rw [if_neg (by omega), show decide (((scan isWb s (scan isDb s a) : Nat) : Int) > ((scan isDb s a : Nat) : Int)) = false by simpa using c3]
          simpa using hend false
  · refine Ev.step (f := fun k => (lex_wordEnd.f k s (scan isDb s a : Nat)).bind fun t => lex_number.j2 k s a (scan isDb s a : Nat) (decide (t > ((scan isDb s a : Nat) : Int)))) (fun k => ?_) (Ev.bind hword ?_)
    · simp only [lex_number.j1]
      rw [if_pos (by omega), if_pos (by omega), if_neg c1]
    · by_cases c3 : scan isWb s (scan isDb s a) > scan isDb s a
      · rw [if_pos (.inr c3), show decide (((scan isWb s (scan isDb s a) : Nat) : Int) > ((scan isDb s a : Nat) : Int)) = true by simpa using c3]
        simpa using hend true
      · rw [if_neg (by omega), show decide (((scan isWb s (scan isDb s a) : Nat) : Int) > ((scan isDb s a : Nat) : Int)) = false by simpa using c3]
        simpa using hend false
end Go.Proofs.YthfhbdncphkdaaaDoor.G

/- What the reference's lexer computes, in plain words: the same as the program's. -/
import Derived.Test.YthfhbdncphkdaaaDoorLexEv
import Derived.Test.YthfhbdncphkdaaaDoorToks
import Derived.Test.YthfhbdncphkdaaaDoorGf14
import Derived.Test.YthfhbdncphkdaaaDoorGf15
import Derived.Test.YthfhbdncphkdaaaDoorGf44
import Derived.Test.YthfhbdncphkdaaaDoorGa
namespace Go.Proofs.YthfhbdncphkdaaaDoor.G
open Go.RowKit Go.Proofs.YthfhbdncphkdaaaDoorW.PrintWords
set_option linter.unusedVariables false

theorem rletter_eq (c : Int) : dataflowref07_letter.f c = some (isLb c) := by
  unfold dataflowref07_letter.f isLb
  by_cases h1 : c ≥ 97 <;> by_cases h2 : c ≤ 122 <;> by_cases h3 : c ≥ 65 <;> by_cases h4 : c ≤ 90 <;> simp [h1, h2, h3, h4] <;> omega
theorem rdigit_eq (c : Int) : dataflowref07_digit.f c = some (isDb c) := by
  unfold dataflowref07_digit.f isDb
  by_cases h1 : c ≥ 48 <;> by_cases h2 : c ≤ 57 <;> simp [h1, h2]
theorem rpart_eq (c : Int) : dataflowref07_part.f c = some (isWb c) := by
  unfold dataflowref07_part.f
  rw [rletter_eq, rdigit_eq]
  unfold isWb
  cases h1 : isLb c <;> cases h2 : isDb c <;> simp
theorem rd_at (l : List ByteArray) (i : Nat) (h : i < l.length) : rdOf ByteArray.empty l (i : Int) = l[i] := by simp [rdOf, h]
theorem rkw_l (s : ByteArray) (l : List ByteArray) (hl : l.length ≤ 1000) : ∀ (d i : Nat), l.length - i = d → Ev (fun k => dataflowref07_Keyword.l0 k s l i) ((l.drop i).any fun x => s.toList == x.toList) := by
  intro d
  induction d with
  | zero =>
    intro i h
    refine Ev.step (f := fun _ => some false) (fun k => ?_) ?_
    · simp only [dataflowref07_Keyword.l0]; rw [if_neg (by omega)]
    · rw [List.drop_of_length_le (by omega)]; exact Ev.now _
  | succ d ih =>
    intro i h
    have hi : i < l.length := by omega
    rw [List.drop_eq_getElem_cons hi, List.any_cons]
    by_cases he : l[i].toList = s.toList
    · refine Ev.step (f := fun _ => some true) (fun k => ?_) ?_
      · simp only [dataflowref07_Keyword.l0]; rw [if_pos (by omega), if_pos (by omega), rd_at l i hi, if_pos he]
      · rw [he]; simp only [beq_self_eq_true, Bool.true_or]; exact Ev.now _
    · refine Ev.step (f := fun k => dataflowref07_Keyword.l0 k s l ((i + 1 : Nat) : Int)) (fun k => ?_) ?_
      · simp only [dataflowref07_Keyword.l0]; rw [if_pos (by omega), if_pos (by omega), rd_at l i hi, if_neg he, w64 (by omega) (by omega)]; rfl
      · have h1 : (s.toList == l[i].toList) = false := beq_eq_false_iff_ne.2 (fun e => he e.symm)
        rw [h1, Bool.false_or]; exact ih (i + 1) (by omega)
theorem rkw_ev (s : ByteArray) : Ev (fun k => dataflowref07_Keyword.f k s) (isKw s) := rkw_l s kwS (by decide) _ 0 rfl
theorem rend_l (s : ByteArray) (hs : s.size ≤ 140737488351232) (b : Bool) : ∀ (d i : Nat), s.size - i = d → Ev (fun k => dataflowref07_end.l0 k s i b) ((if b then scan isWb s i else scan isDb s i : Nat) : Int) := by
  intro d
  induction d with
  | zero =>
    intro i h
    refine Ev.step (f := fun _ => some (i : Int)) (fun k => ?_) ?_
    · simp only [dataflowref07_end.l0]; rw [if_neg (by omega)]
    · rw [scan_end isWb s i (by omega), scan_end isDb s i (by omega), ite_self]; exact Ev.now _
  | succ d ih =>
    intro i h
    have hi : i < s.size := by omega
    have e1 : wrap64 ((i : Int) + 1) = ((i + 1 : Nat) : Int) := by rw [w64 (by omega) (by omega)]; rfl
    cases b with
    | true =>
      have ih' := ih (i + 1) (by omega)
      simp only [if_true] at ih' ⊢
      cases hp : isWb (bt s i) with
      | true =>
        refine Ev.step (f := fun k => dataflowref07_end.l0 k s ((i + 1 : Nat) : Int) true) (fun k => ?_) ?_
        · simp only [dataflowref07_end.l0]
          rw [if_pos (by omega), if_pos trivial, if_pos (by omega), rpart_eq, hp, e1]; simp
        · rw [scan_at isWb s i hi hp]; exact ih'
      | false =>
        refine Ev.step (f := fun _ => some (i : Int)) (fun k => ?_) ?_
        · simp only [dataflowref07_end.l0]
          rw [if_pos (by omega), if_pos trivial, if_pos (by omega), rpart_eq, hp]; simp
        · rw [scan_no isWb s i hi hp]; exact Ev.now _
    | false =>
      have ih' := ih (i + 1) (by omega)
      simp only [Bool.false_eq_true, if_false] at ih' ⊢
      cases hp : isDb (bt s i) with
      | true =>
        refine Ev.step (f := fun k => dataflowref07_end.l0 k s ((i + 1 : Nat) : Int) false) (fun k => ?_) ?_
        · simp only [dataflowref07_end.l0]
          rw [if_pos (by omega), if_neg (by simp), if_pos (by omega), rdigit_eq, hp, e1]; simp
        · rw [scan_at isDb s i hi hp]; exact ih'
      | false =>
        refine Ev.step (f := fun _ => some (i : Int)) (fun k => ?_) ?_
        · simp only [dataflowref07_end.l0]
          rw [if_pos (by omega), if_neg (by simp), if_pos (by omega), rdigit_eq, hp]; simp
        · rw [scan_no isDb s i hi hp]; exact Ev.now _
theorem rend_ev (s : ByteArray) (hs : s.size ≤ 140737488351232) (i : Nat) (hi : i < s.size) : Ev (fun k => dataflowref07_end.f k s i) ((if isLb (bt s i) then scan isWb s i else scan isDb s i : Nat) : Int) := by
  refine Ev.congr (f := fun k => dataflowref07_end.l0 k s i (isLb (bt s i))) (fun k => ?_) (rend_l s hs _ _ i rfl)
  unfold dataflowref07_end.f
  rw [if_pos (by omega), if_pos (by omega), rletter_eq]
  rfl
theorem rnum_l (s : ByteArray) (hs : s.size ≤ 140737488351232) (a e : Nat) (ha : a ≤ e) (he : e ≤ s.size) (hd : ∀ j, a ≤ j → j < e → isDb (bt s j) = true) :
    ∀ (d i v : Nat), e - i = d → a ≤ i → i ≤ e → v ≤ 9223372036854775807 →
      Ev (fun k => dataflowref07_number.l0 k s a e v i) (if val s v i e > 9223372036854775807 then noTok 4 else (3, (a : Int), cut s a e, (val s v i e : Int), 0)) := by
  intro d
  induction d with
  | zero =>
    intro i v h h1 h2 hv
    obtain rfl : i = e := by omega
    rw [val_end s v i i (by omega), if_neg (by omega)]
    refine Ev.step (f := fun _ => some (3, (a : Int), cut s a i, (v : Int), 0)) (fun k => ?_) (Ev.now _)
    simp only [dataflowref07_number.l0]
    rw [if_neg (by omega), if_pos (by omega), if_pos (by omega), if_pos (by omega)]
    simp [cut]
  | succ d ih =>
    intro i v h h1 h2 hv
    have hi : i < e := by omega
    have hb := bt_dig (hd i h1 hi)
    rw [val_at s v i e hi]
    have e2 : (bt s i - 48) % 256 = bt s i - 48 := by omega
    by_cases c : v * 10 + (bt s i - 48).toNat > 9223372036854775807
    · have hg := le_val s (v * 10 + (bt s i - 48).toNat) (i + 1) e
      refine Ev.step (f := fun _ => some (noTok 4)) (fun k => ?_) ?_
      · simp only [dataflowref07_number.l0]; rw [if_pos (by omega), if_pos (by omega), if_pos (by omega), e2, if_pos (by omega)]; rfl
      · rw [if_pos (by omega)]; exact Ev.now _
    · refine Ev.step (f := fun k => dataflowref07_number.l0 k s a e ((v * 10 + (bt s i - 48).toNat : Nat) : Int) ((i + 1 : Nat) : Int)) (fun k => ?_) (ih (i + 1) _ (by omega) (by omega) (by omega) (by omega))
      simp only [dataflowref07_number.l0]
      rw [if_pos (by omega), if_pos (by omega), if_pos (by omega), e2, if_neg (by omega)]
      have e1 : wrap64 ((i : Int) + 1) = ((i + 1 : Nat) : Int) := by rw [w64 (by omega) (by omega)]; rfl
      have e3 : wrap64 (wrap64 ((v : Int) * 10) + (bt s i - 48)) = ((v * 10 + (bt s i - 48).toNat : Nat) : Int) := by
        rw [w64 (i := (v : Int) * 10) (by omega) (by omega), w64 (by omega) (by omega)]; omega
      rw [e1, e3]
theorem rnum_ev (s : ByteArray) (hs : s.size ≤ 140737488351232) (a : Nat) (ha : a < s.size) (hd : isDb (bt s a) = true) : Ev (fun k => dataflowref07_number.f k s a (scan isDb s a : Nat)) (numS s a) := by
  have h1 := le_scan isDb s a
  have h2 := scan_le' isDb s a (by omega)
  have h3 := scan_all isDb s a
  have hgt : a < scan isDb s a := by rw [scan_at isDb s a ha hd]; have := le_scan isDb s (a + 1); omega
  have hend : ∀ b : Bool, Ev (fun k => dataflowref07_number.j0 k s a (scan isDb s a : Nat) b) (if b then noTok 2 else if val s 0 a (scan isDb s a) > 9223372036854775807 then noTok 4 else (3, (a : Int), cut s a (scan isDb s a), (val s 0 a (scan isDb s a) : Int), 0)) := by
    intro b
    cases b with
    | true => exact Ev.step (f := fun _ => some (noTok 2)) (fun k => by simp [dataflowref07_number.j0, noTok]) (Ev.now _)
    | false =>
      refine Ev.step (f := fun k => dataflowref07_number.l0 k s a (scan isDb s a : Nat) ((0 : Nat) : Int) a) (fun k => by simp [dataflowref07_number.j0]) ?_
      exact rnum_l s hs a (scan isDb s a) h1 h2 (fun j p q => h3 j p q) _ a 0 rfl (Nat.le_refl _) h1 (by omega)
  have hw : (scan isWb s (scan isDb s a) > scan isDb s a) ↔ (scan isDb s a < s.size ∧ isWb (bt s (scan isDb s a : Nat)) = true) := by
    constructor
    · intro h
      by_cases h4 : scan isDb s a < s.size
      · cases h5 : isWb (bt s (scan isDb s a : Nat)) with
        | true => exact ⟨h4, rfl⟩
        | false => rw [scan_no isWb s _ h4 h5] at h; omega
      · rw [scan_end isWb s _ h4] at h; omega
    · rintro ⟨h4, h5⟩
      rw [scan_at isWb s _ h4 h5]
      have := le_scan isWb s (scan isDb s a + 1)
      omega
  unfold numS
  simp only []
  have tail : ∀ P : Prop, [Decidable P] → (P ↔ ((bt s a = 48 ∧ scan isDb s a - a > 1) ∨ scan isWb s (scan isDb s a) > scan isDb s a)) → Ev (fun k => dataflowref07_number.j0 k s a (scan isDb s a : Nat) (decide P)) (if (bt s a = 48 ∧ scan isDb s a - a > 1) ∨ scan isWb s (scan isDb s a) > scan isDb s a then noTok 2 else if val s 0 a (scan isDb s a) > 9223372036854775807 then noTok 4 else (3, (a : Int), cut s a (scan isDb s a), (val s 0 a (scan isDb s a) : Int), 0)) := by
    intro P _ hP
    by_cases hp : P
    · rw [if_pos (hP.1 hp), decide_eq_true hp]; simpa using hend true
    · rw [if_neg (fun h => hp (hP.2 h)), decide_eq_false hp]; simpa using hend false
  by_cases c1 : bt s a = 48
  · by_cases c2 : scan isDb s a - a > 1
    · refine Ev.congr (f := fun k => dataflowref07_number.j0 k s a (scan isDb s a : Nat) (decide True)) (fun k => ?_) (tail True ⟨fun _ => .inl ⟨c1, c2⟩, fun _ => trivial⟩)
      unfold dataflowref07_number.f
      rw [if_pos (by omega), if_pos (by omega), if_pos c1, w64 (by omega) (by omega), if_pos (by omega)]
      simp
    · by_cases c3 : scan isDb s a < s.size
      · refine Ev.congr (f := fun k => dataflowref07_number.j0 k s a (scan isDb s a : Nat) (decide (isWb (bt s (scan isDb s a : Nat)) = true))) (fun k => ?_) (tail _ ⟨fun h => .inr (hw.2 ⟨c3, h⟩), fun h => by rcases h with h | h; exact absurd h.2 c2; exact (hw.1 h).2⟩)
        unfold dataflowref07_number.f
        rw [if_pos (by omega), if_pos (by omega), if_pos c1, w64 (by omega) (by omega), if_neg (by omega), if_pos (by omega), if_pos (by omega), rpart_eq]
        simp
      · refine Ev.congr (f := fun k => dataflowref07_number.j0 k s a (scan isDb s a : Nat) (decide False)) (fun k => ?_) (tail False ⟨fun h => h.elim, fun h => by rcases h with h | h; exact absurd h.2 c2; exact absurd (hw.1 h).1 c3⟩)
        unfold dataflowref07_number.f
        rw [if_pos (by omega), if_pos (by omega), if_pos c1, w64 (by omega) (by omega), if_neg (by omega), if_neg (by omega)]
        simp
  · by_cases c3 : scan isDb s a < s.size
    · refine Ev.congr (f := fun k => dataflowref07_number.j0 k s a (scan isDb s a : Nat) (decide (isWb (bt s (scan isDb s a : Nat)) = true))) (fun k => ?_) (tail _ ⟨fun h => .inr (hw.2 ⟨c3, h⟩), fun h => by rcases h with h | h; exact absurd h.1 c1; exact (hw.1 h).2⟩)
      unfold dataflowref07_number.f
      rw [if_pos (by omega), if_pos (by omega), if_neg c1, if_pos (by omega), if_pos (by omega), rpart_eq]
      simp
    · refine Ev.congr (f := fun k => dataflowref07_number.j0 k s a (scan isDb s a : Nat) (decide False)) (fun k => ?_) (tail False ⟨fun h => h.elim, fun h => by rcases h with h | h; exact absurd h.1 c1; exact absurd (hw.1 h).1 c3⟩)
      unfold dataflowref07_number.f
      rw [if_pos (by omega), if_pos (by omega), if_neg c1, if_neg (by omega)]
      simp
/-- The mark at a, as the reference tells it. -/
def markR (s : ByteArray) (a : Nat) : Tok5 :=
  if (bt s a = 58 ∨ bt s a = 61) ∧ a + 1 < s.size ∧ bt s ((a + 1 : Nat) : Int) = bt s a then (4, a, cut s a (a + 2), 0, 0) else (4, a, cut s a (a + 1), 0, 0)
def mkB : ByteArray := ⟨#[123, 125, 40, 41, 59, 44, 46, 60, 43, 45, 42, 58, 61]⟩
open Classical in
theorem rone_l (s : ByteArray) (hs : s.size ≤ 140737488351232) (a : Nat) (ha : a < s.size) : ∀ (d i : Nat), 13 - i = d → Ev (fun k => dataflowref07_one.l0 k s a (bt s a) mkB i) (if ∃ j : Nat, i ≤ j ∧ j < 13 ∧ bt mkB j = bt s a then markR s a else noTok 2) := by
  intro d
  have hz : mkB.size = 13 := rfl
  have x1 : wrap64 ((a : Int) + 1) = ((a + 1 : Nat) : Int) := by rw [w64 (by omega) (by omega)]; rfl
  have x2 : wrap64 ((a : Int) + 2) = ((a + 2 : Nat) : Int) := by rw [w64 (by omega) (by omega)]; rfl
  induction d with
  | zero =>
    intro i h
    rw [if_neg (by rintro ⟨j, h1, h2, _⟩; omega)]
    refine Ev.step (f := fun _ => some (noTok 2)) (fun k => ?_) (Ev.now _)
    simp only [dataflowref07_one.l0]; rw [if_neg (by rw [hz]; omega)]; rfl
  | succ d ih =>
    intro i h
    by_cases he : bt mkB i = bt s a
    · rw [if_pos ⟨i, Nat.le_refl _, by omega, he⟩]
      refine Ev.step (f := fun _ => some (markR s a)) (fun k => ?_) (Ev.now _)
      simp only [dataflowref07_one.l0]
      rw [if_pos (by rw [hz]; omega), if_pos (by omega), if_pos he, x1, x2]
      unfold markR cut
      by_cases c1 : bt s a = 58
      · by_cases c2 : a + 1 < s.size
        · by_cases c3 : bt s ((a + 1 : Nat) : Int) = bt s a
          · rw [if_pos c1, if_pos (by omega), if_pos (by omega), if_pos c3, if_pos (by omega), if_pos (by omega), if_pos (by omega), if_pos ⟨.inl c1, c2, c3⟩]; simp only [Int.toNat_natCast]
          · rw [if_pos c1, if_pos (by omega), if_pos (by omega), if_neg c3, if_pos (by omega), if_pos (by omega), if_pos (by omega), if_neg (fun h => c3 h.2.2)]; simp
        · rw [if_pos c1, if_neg (by omega), if_pos (by omega), if_pos (by omega), if_pos (by omega), if_neg (fun h => c2 h.2.1)]; simp
      · by_cases c4 : bt s a = 61
        · by_cases c2 : a + 1 < s.size
          · by_cases c3 : bt s ((a + 1 : Nat) : Int) = bt s a
            · rw [if_neg c1, if_pos c4, if_pos (by omega), if_pos (by omega), if_pos c3, if_pos (by omega), if_pos (by omega), if_pos (by omega), if_pos ⟨.inr c4, c2, c3⟩]; simp only [Int.toNat_natCast]
            · rw [if_neg c1, if_pos c4, if_pos (by omega), if_pos (by omega), if_neg c3, if_pos (by omega), if_pos (by omega), if_pos (by omega), if_neg (fun h => c3 h.2.2)]; simp
          · rw [if_neg c1, if_pos c4, if_neg (by omega), if_pos (by omega), if_pos (by omega), if_pos (by omega), if_neg (fun h => c2 h.2.1)]; simp
        · rw [if_neg c1, if_neg c4, if_pos (by omega), if_pos (by omega), if_pos (by omega), if_neg (fun h => h.1.elim c1 c4)]; simp
    · have ih2 := ih (i + 1) (by omega)
      have hn : (∃ j : Nat, i ≤ j ∧ j < 13 ∧ bt mkB j = bt s a) ↔ (∃ j : Nat, i + 1 ≤ j ∧ j < 13 ∧ bt mkB j = bt s a) :=
        ⟨fun ⟨j, h1, h2, h3⟩ => ⟨j, Nat.lt_of_le_of_ne h1 (fun e => he (by rw [e]; exact h3)), h2, h3⟩, fun ⟨j, h1, h2, h3⟩ => ⟨j, Nat.le_of_succ_le h1, h2, h3⟩⟩
      simp only [hn]
      refine Ev.step (f := fun k => dataflowref07_one.l0 k s a (bt s a) mkB ((i + 1 : Nat) : Int)) (fun k => ?_) ih2
      clear ih ih2 hn
      simp only [dataflowref07_one.l0]
      rw [if_pos (by rw [hz]; omega), if_pos (by omega), if_neg he, w64 (by omega) (by omega)]; rfl
theorem stands1 (s : ByteArray) (a : Nat) (ha : a < s.size) (c : UInt8) : standsAt s a ⟨#[c]⟩ = (bt s a == (c.toNat : Int)) := by
  unfold standsAt
  rw [show (⟨#[c]⟩ : ByteArray).size = 1 from rfl, decide_eq_true (by omega), Bool.true_and, Lib.toList_data, Lib.toList_data, Lib.extract_data, bt_nat s a ha]
  have e : (s.data.toList.drop a).take (a + 1 - a) = [s[a]'ha] := by
    rw [show a + 1 - a = 1 by omega, List.drop_eq_getElem_cons (by rw [Array.length_toList]; exact ha)]
    simp [ByteArray.getElem_eq_getElem_data]
  rw [e, Bool.eq_iff_iff]
  simp only [beq_iff_eq, List.cons.injEq, and_true]
  constructor
  · rintro rfl; rfl
  · intro h; exact UInt8.toNat_inj.1 (by omega)
theorem stands2 (s : ByteArray) (a : Nat) (ha : a < s.size) (c d : UInt8) : standsAt s a ⟨#[c, d]⟩ = (bt s a == (c.toNat : Int) && (decide (a + 1 < s.size) && bt s ((a + 1 : Nat) : Int) == (d.toNat : Int))) := by
  unfold standsAt
  rw [show (⟨#[c, d]⟩ : ByteArray).size = 2 from rfl]
  by_cases h : a + 2 ≤ s.size
  · rw [decide_eq_true h, decide_eq_true (show a + 1 < s.size by omega), Bool.true_and, Bool.true_and, bt_nat s a ha, bt_nat s (a + 1) (by omega), Lib.toList_data, Lib.toList_data, Lib.extract_data]
    have e : (s.data.toList.drop a).take (a + 2 - a) = [s[a]'ha, s[a + 1]'(by omega)] := by
      have hl : a + 1 < s.data.toList.length := by rw [Array.length_toList]; exact (by omega : a + 1 < s.size)
      rw [show a + 2 - a = 2 by omega, List.drop_eq_getElem_cons (by omega), List.drop_eq_getElem_cons hl]
      simp [ByteArray.getElem_eq_getElem_data]
    rw [e, Bool.eq_iff_iff]
    simp only [beq_iff_eq, Bool.and_eq_true, List.cons.injEq, and_true]
    constructor
    · rintro ⟨rfl, rfl⟩; exact ⟨rfl, rfl⟩
    · rintro ⟨h3, h4⟩; exact ⟨UInt8.toNat_inj.1 (by omega), UInt8.toNat_inj.1 (by omega)⟩
  · rw [decide_eq_false h, decide_eq_false (show ¬ a + 1 < s.size by omega)]; simp
theorem stands_cut {s : ByteArray} {a : Nat} {m : ByteArray} (h : standsAt s a m = true) : cut s a (a + m.size) = m := by
  unfold standsAt at h
  simp only [Bool.and_eq_true, decide_eq_true_eq, beq_iff_eq] at h
  have := h.2
  rw [Lib.toList_data, Lib.toList_data] at this
  exact ByteArray.ext (Array.toList_inj.1 this)
open Classical in
theorem mark_eq (s : ByteArray) (a : Nat) (ha : a < s.size) : markS s a = if ∃ j : Nat, 0 ≤ j ∧ j < 13 ∧ bt mkB j = bt s a then markR s a else noTok 2 := by
  have key : ∀ m : ByteArray, standsAt s a m = true → ((4 : Int), (a : Int), m, (0 : Int), (0 : Int)) = ((4 : Int), (a : Int), cut s a (a + m.size), (0 : Int), (0 : Int)) := fun m h => by rw [stands_cut h]
  have hex : (∃ j : Nat, 0 ≤ j ∧ j < 13 ∧ bt mkB j = bt s a) ↔ (bt s a = 123 ∨ bt s a = 125 ∨ bt s a = 40 ∨ bt s a = 41 ∨ bt s a = 59 ∨ bt s a = 44 ∨ bt s a = 46 ∨ bt s a = 60 ∨ bt s a = 43 ∨ bt s a = 45 ∨ bt s a = 42 ∨ bt s a = 58 ∨ bt s a = 61) := by
    constructor
    · rintro ⟨j, _, h2, h3⟩
      rw [← h3]
      have : j = 0 ∨ j = 1 ∨ j = 2 ∨ j = 3 ∨ j = 4 ∨ j = 5 ∨ j = 6 ∨ j = 7 ∨ j = 8 ∨ j = 9 ∨ j = 10 ∨ j = 11 ∨ j = 12 := by omega
      rcases this with rfl | rfl | rfl | rfl | rfl | rfl | rfl | rfl | rfl | rfl | rfl | rfl | rfl <;> decide
    · intro h
      rcases h with h | h | h | h | h | h | h | h | h | h | h | h | h <;> rw [h]
      · exact ⟨0, by decide, by decide, by decide⟩
      · exact ⟨1, by decide, by decide, by decide⟩
      · exact ⟨2, by decide, by decide, by decide⟩
      · exact ⟨3, by decide, by decide, by decide⟩
      · exact ⟨4, by decide, by decide, by decide⟩
      · exact ⟨5, by decide, by decide, by decide⟩
      · exact ⟨6, by decide, by decide, by decide⟩
      · exact ⟨7, by decide, by decide, by decide⟩
      · exact ⟨8, by decide, by decide, by decide⟩
      · exact ⟨9, by decide, by decide, by decide⟩
      · exact ⟨10, by decide, by decide, by decide⟩
      · exact ⟨11, by decide, by decide, by decide⟩
      · exact ⟨12, by decide, by decide, by decide⟩
  simp only [hex]
  have s2a : standsAt s a ⟨#[58, 58]⟩ = (bt s a == 58 && (decide (a + 1 < s.size) && bt s ((a + 1 : Nat) : Int) == 58)) := stands2 s a ha 58 58
  have s2b : standsAt s a ⟨#[61, 61]⟩ = (bt s a == 61 && (decide (a + 1 < s.size) && bt s ((a + 1 : Nat) : Int) == 61)) := stands2 s a ha 61 61
  have s1 := stands1 s a ha
  unfold markS
  by_cases hd : (bt s a = 58 ∨ bt s a = 61) ∧ a + 1 < s.size ∧ bt s ((a + 1 : Nat) : Int) = bt s a
  · obtain ⟨h1, h2, h3⟩ := hd
    unfold markR
    rw [if_pos (by omega), if_pos ⟨h1, h2, h3⟩]
    rcases h1 with h1 | h1
    · have hs : standsAt s a ⟨#[58, 58]⟩ = true := by rw [s2a, h3, h1, decide_eq_true h2]; rfl
      have hf : mkS.find? (standsAt s a) = some ⟨#[58, 58]⟩ := by unfold mkS; rw [List.find?_cons, hs]
      rw [hf]
      show ((4 : Int), (a : Int), (⟨#[58, 58]⟩ : ByteArray), (0 : Int), (0 : Int)) = _
      exact key _ hs
    · have hs : standsAt s a ⟨#[61, 61]⟩ = true := by rw [s2b, h3, h1, decide_eq_true h2]; rfl
      have hs' : standsAt s a ⟨#[58, 58]⟩ = false := by rw [s2a]; simp [h1]
      have hf : mkS.find? (standsAt s a) = some ⟨#[61, 61]⟩ := by unfold mkS; rw [List.find?_cons, hs', List.find?_cons, hs]
      rw [hf]
      show ((4 : Int), (a : Int), (⟨#[61, 61]⟩ : ByteArray), (0 : Int), (0 : Int)) = _
      exact key _ hs
  · have n1 : standsAt s a ⟨#[58, 58]⟩ = false := by
      rw [s2a]
      apply Bool.eq_false_iff.2
      intro h
      simp only [Bool.and_eq_true, beq_iff_eq, decide_eq_true_eq] at h
      exact hd ⟨.inl h.1, h.2.1, by rw [h.2.2, h.1]⟩
    have n2 : standsAt s a ⟨#[61, 61]⟩ = false := by
      rw [s2b]
      apply Bool.eq_false_iff.2
      intro h
      simp only [Bool.and_eq_true, beq_iff_eq, decide_eq_true_eq] at h
      exact hd ⟨.inr h.1, h.2.1, by rw [h.2.2, h.1]⟩
    unfold markR
    rw [if_neg hd]
    unfold mkS
    rw [List.find?_cons, n1, List.find?_cons, n2]
    simp only [List.find?_cons, List.find?_nil, s1]
    by_cases c : bt s a = 123 ∨ bt s a = 125 ∨ bt s a = 40 ∨ bt s a = 41 ∨ bt s a = 59 ∨ bt s a = 44 ∨ bt s a = 46 ∨ bt s a = 60 ∨ bt s a = 43 ∨ bt s a = 45 ∨ bt s a = 42 ∨ bt s a = 58 ∨ bt s a = 61
    · rw [if_pos c]
      have fin : ∀ b : UInt8, bt s a = (b.toNat : Int) → cut s a (a + 1) = (⟨#[b]⟩ : ByteArray) := fun b hb => stands_cut (m := ⟨#[b]⟩) (by rw [s1 b]; simp [hb])
      rcases c with c | c | c | c | c | c | c | c | c | c | c | c | c
      · have h9 := fin 123 c
        simp [c, h9]
      · have h9 := fin 125 c
        simp [c, h9]
      · have h9 := fin 40 c
        simp [c, h9]
      · have h9 := fin 41 c
        simp [c, h9]
      · have h9 := fin 59 c
        simp [c, h9]
      · have h9 := fin 44 c
        simp [c, h9]
      · have h9 := fin 46 c
        simp [c, h9]
      · have h9 := fin 60 c
        simp [c, h9]
      · have h9 := fin 43 c
        simp [c, h9]
      · have h9 := fin 45 c
        simp [c, h9]
      · have h9 := fin 42 c
        simp [c, h9]
      · have h9 := fin 58 c
        simp [c, h9]
      · have h9 := fin 61 c
        simp [c, h9]
    · rw [if_neg c]
      have h13 : ∀ z : Int, (z = 123 ∨ z = 125 ∨ z = 40 ∨ z = 41 ∨ z = 59 ∨ z = 44 ∨ z = 46 ∨ z = 60 ∨ z = 43 ∨ z = 45 ∨ z = 42 ∨ z = 58 ∨ z = 61) → (bt s a == z) = false := fun z hz => beq_eq_false_iff_ne.2 (fun e => c (by rw [e]; exact hz))
      simp [h13]
theorem rone_ev (s : ByteArray) (hs : s.size ≤ 140737488351232) (a : Nat) (ha : a < s.size) : Ev (fun k => dataflowref07_one.f k s a) (tokS s a) := by
  have hend := rend_ev s hs a ha
  unfold tokS
  by_cases hl : isLb (bt s a) = true
  · rw [if_pos hl]
    rw [hl] at hend
    simp only [if_true] at hend
    have h1 := le_scan isWb s a
    have h2 := scan_le' isWb s a (by omega)
    have hz := cut_size s a (scan isWb s a) h2
    refine Ev.congr (f := fun k => (dataflowref07_end.f k s a).bind fun t => if (a : Int) ≤ t then (if t ≤ (s.size : Int) then (if ((s.extract (a : Int).toNat (t : Int).toNat).size : Int) > 32 then (some (0, 0, (⟨#[]⟩ : ByteArray), 0, 3)) else ((dataflowref07_Keyword.f k (s.extract (a : Int).toNat (t : Int).toNat)).bind fun t127 => (if t127 = true then (some (2, (a : Int), s.extract (a : Int).toNat (t : Int).toNat, 0, 0)) else (some (1, (a : Int), s.extract (a : Int).toNat (t : Int).toNat, 0, 0))))) else none) else none) (fun k => ?_) (Ev.bind hend ?_)
    · unfold dataflowref07_one.f
      rw [if_pos (by omega), if_pos (by omega), rletter_eq, hl]; simp
    · simp only [Int.toNat_natCast]
      rw [show s.extract a (scan isWb s a) = cut s a (scan isWb s a) from rfl, hz]
      by_cases hlen : scan isWb s a - a > 32
      · rw [if_pos hlen]
        refine Ev.congr (f := fun _ => some (noTok 3)) (fun k => ?_) (Ev.now _)
        rw [if_pos (by omega), if_pos (by omega), if_pos (by omega)]; rfl
      · rw [if_neg hlen]
        refine Ev.congr (f := fun k => (dataflowref07_Keyword.f k (cut s a (scan isWb s a))).bind fun t127 => (if t127 = true then (some (2, (a : Int), cut s a (scan isWb s a), 0, 0)) else (some (1, (a : Int), cut s a (scan isWb s a), 0, 0)))) (fun k => ?_) (Ev.bind (rkw_ev _) ?_)
        · rw [if_pos (by omega), if_pos (by omega), if_neg (by omega)]
        · cases isKw (cut s a (scan isWb s a)) <;> exact Ev.now _
  · have hl := Bool.eq_false_iff.2 hl
    rw [if_neg (by simp [hl])]
    rw [hl] at hend
    simp only [Bool.false_eq_true, if_false] at hend
    by_cases hd : isDb (bt s a) = true
    · rw [if_pos hd]
      refine Ev.congr (f := fun k => (dataflowref07_end.f k s a).bind fun t129 => ((dataflowref07_number.f k s a t129).bind fun b => (some (b.1, b.2.1, b.2.2.1, b.2.2.2.1, b.2.2.2.2)))) (fun k => ?_) (Ev.bind hend (Ev.bind (rnum_ev s hs a ha hd) (Ev.now _)))
      unfold dataflowref07_one.f
      rw [if_pos (by omega), if_pos (by omega), rletter_eq, hl, rdigit_eq, hd]; simp
    · have hd := Bool.eq_false_iff.2 hd
      rw [if_neg (by simp [hd]), mark_eq s a ha]
      refine Ev.congr (f := fun k => dataflowref07_one.l0 k s a (bt s a) mkB ((0 : Nat) : Int)) (fun k => ?_) (rone_l s hs a ha _ 0 rfl)
      unfold dataflowref07_one.f
      rw [if_pos (by omega), if_pos (by omega), rletter_eq, hl, rdigit_eq, hd]; simp [mkB]
end Go.Proofs.YthfhbdncphkdaaaDoor.G

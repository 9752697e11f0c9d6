/- Identifiers, in plain words: what the program's and the reference's functions say of them. -/
import Derived.Test.YthfhbdncphkdaaaDoorSlWGuardMore
import Derived.Lib.Strings
import Derived.Test.YthfhbdncphkdaaaDoorHa
namespace Go.Proofs.YthfhbdncphkdaaaDoor.H
open Go.RowKit Go.Proofs.YthfhbdncphkdaaaDoorW.PrintWords
set_option linter.unusedVariables false
set_option linter.unusedSimpArgs false

def isLb (c : Int) : Bool := decide (97 ≤ c ∧ c ≤ 122) || decide (65 ≤ c ∧ c ≤ 90)
def isDb (c : Int) : Bool := decide (48 ≤ c ∧ c ≤ 57)
def isWb (c : Int) : Bool := isLb c || isDb c || c == 95
/-- The first place from i on whose byte is not as p says. -/
def scan (p : Int → Bool) (s : ByteArray) (i : Nat) : Nat :=
  if _h : i < s.size then (if p (bt s i) then scan p s (i + 1) else i) else i
termination_by s.size - i
theorem scan_at (p : Int → Bool) (s : ByteArray) (i : Nat) (h : i < s.size) (hp : p (bt s i) = true) : scan p s i = scan p s (i + 1) := by
  rw [scan, dif_pos h, if_pos hp]
theorem scan_no (p : Int → Bool) (s : ByteArray) (i : Nat) (h : i < s.size) (hp : p (bt s i) = false) : scan p s i = i := by
  rw [scan, dif_pos h, if_neg (by simp [hp])]
theorem scan_end (p : Int → Bool) (s : ByteArray) (i : Nat) (h : ¬ i < s.size) : scan p s i = i := by
  rw [scan, dif_neg h]
theorem scan_ge (p : Int → Bool) (s : ByteArray) : ∀ (d i : Nat), s.size - i = d → i ≤ scan p s i := by
  intro d
  induction d with
  | zero => intro i h; rw [scan_end p s i (by omega)]; omega
  | succ d ih =>
    intro i h
    have hi : i < s.size := by omega
    cases hp : p (bt s i) with
    | true => rw [scan_at p s i hi hp]; have := ih (i + 1) (by omega); omega
    | false => rw [scan_no p s i hi hp]; omega
theorem le_scan (p : Int → Bool) (s : ByteArray) (i : Nat) : i ≤ scan p s i := scan_ge p s _ i rfl
theorem scan_le (p : Int → Bool) (s : ByteArray) : ∀ (d i : Nat), s.size - i = d → i ≤ s.size → scan p s i ≤ s.size := by
  intro d
  induction d with
  | zero => intro i h hi; rw [scan_end p s i (by omega)]; omega
  | succ d ih =>
    intro i h hi
    have hi : i < s.size := by omega
    cases hp : p (bt s i) with
    | true => rw [scan_at p s i hi hp]; exact ih (i + 1) (by omega) (by omega)
    | false => rw [scan_no p s i hi hp]; omega
theorem scan_le' (p : Int → Bool) (s : ByteArray) (i : Nat) (h : i ≤ s.size) : scan p s i ≤ s.size := scan_le p s _ i rfl h
theorem scan_in (p : Int → Bool) (s : ByteArray) : ∀ (d i : Nat), s.size - i = d → ∀ j, i ≤ j → j < scan p s i → p (bt s j) = true := by
  intro d
  induction d with
  | zero => intro i h j h1 h2; rw [scan_end p s i (by omega)] at h2; omega
  | succ d ih =>
    intro i h j h1 h2
    have hi : i < s.size := by omega
    cases hp : p (bt s i) with
    | true =>
      rw [scan_at p s i hi hp] at h2
      by_cases e : j = i
      · subst e; exact hp
      · exact ih (i + 1) (by omega) j (by omega) h2
    | false => rw [scan_no p s i hi hp] at h2; omega
theorem scan_all (p : Int → Bool) (s : ByteArray) (i j : Nat) (h1 : i ≤ j) (h2 : j < scan p s i) : p (bt s j) = true := scan_in p s _ i rfl j h1 h2
theorem scan_stop (p : Int → Bool) (s : ByteArray) : ∀ (d i : Nat), s.size - i = d → scan p s i < s.size → p (bt s (scan p s i : Nat)) = false := by
  intro d
  induction d with
  | zero => intro i h h2; rw [scan_end p s i (by omega)] at h2; omega
  | succ d ih =>
    intro i h h2
    have hi : i < s.size := by omega
    cases hp : p (bt s i) with
    | true => rw [scan_at p s i hi hp] at h2 ⊢; exact ih (i + 1) (by omega) h2
    | false => rw [scan_no p s i hi hp]; exact hp
theorem scan_off (p : Int → Bool) (s : ByteArray) (i : Nat) (h : scan p s i < s.size) : p (bt s (scan p s i : Nat)) = false := scan_stop p s _ i rfl h
/-- What is told by its places is the scan's end. -/
theorem scan_eq (p : Int → Bool) (s : ByteArray) (i e : Nat) (h1 : i ≤ e) (h2 : e ≤ s.size) (h3 : ∀ j, i ≤ j → j < e → p (bt s j) = true) (h4 : e < s.size → p (bt s e) = false) : scan p s i = e := by
  rcases Nat.lt_trichotomy (scan p s i) e with h | h | h
  · have h5 := scan_off p s i (by omega)
    have h6 := h3 _ (le_scan p s i) h
    rw [h5] at h6; cases h6
  · exact h
  · have h5 := scan_all p s i e h1 h
    have h6 := scan_le' p s i (by omega)
    rw [h4 (by omega)] at h5; cases h5
def kwS : List ByteArray := [⟨#[99, 108, 97, 115, 115]⟩, ⟨#[101, 120, 116, 101, 110, 100, 115]⟩, ⟨#[118, 97, 114]⟩, ⟨#[100, 101, 102]⟩, ⟨#[115, 116, 97, 116, 105, 99]⟩, ⟨#[105, 102]⟩, ⟨#[101, 108, 115, 101]⟩, ⟨#[119, 104, 105, 108, 101]⟩, ⟨#[116, 114, 121]⟩, ⟨#[99, 97, 116, 99, 104]⟩, ⟨#[116, 104, 114, 111, 119]⟩, ⟨#[114, 101, 116, 117, 114, 110]⟩, ⟨#[110, 101, 119]⟩, ⟨#[110, 117, 108, 108]⟩, ⟨#[116, 104, 105, 115]⟩, ⟨#[105, 110, 112, 117, 116]⟩, ⟨#[105, 110, 116]⟩]
def isKw (s : ByteArray) : Bool := kwS.any fun x => s.toList == x.toList
theorem w64 {i : Int} (h0 : -9223372036854775808 ≤ i) (h1 : i ≤ 9223372036854775807) : wrap64 i = i := by unfold wrap64; omega
theorem isLetter_eq (c : Int) : lex_isLetter.f c = some (isLb c) := by
  unfold lex_isLetter.f isLb
  by_cases h1 : c ≥ 97 <;> by_cases h2 : c ≤ 122 <;> by_cases h3 : c ≥ 65 <;> by_cases h4 : c ≤ 90 <;> simp [h1, h2, h3, h4] <;> omega
theorem isDigit_eq (c : Int) : lex_isDigit.f c = some (isDb c) := by
  unfold lex_isDigit.f isDb
  by_cases h1 : c ≥ 48 <;> by_cases h2 : c ≤ 57 <;> simp [h1, h2]
theorem wordEnd_l (s : ByteArray) (hs : s.size ≤ 140737488351232) : ∀ (d i : Nat), s.size - i = d → Ev (fun k => lex_wordEnd.l0 k s i) (scan isWb s i : Nat) := by
  intro d
  induction d with
  | zero =>
    intro i h
    refine Ev.step (f := fun _ => some (i : Int)) (fun k => ?_) ?_
    · simp only [lex_wordEnd.l0]; rw [if_neg (by omega)]
    · rw [scan_end isWb s i (by omega)]; exact Ev.now _
  | succ d ih =>
    intro i h
    have hi : i < s.size := by omega
    have e1 : wrap64 ((i : Int) + 1) = ((i + 1 : Nat) : Int) := by rw [w64 (by omega) (by omega)]; rfl
    cases hp : isWb (bt s i) with
    | true =>
      refine Ev.step (f := fun k => lex_wordEnd.l0 k s ((i + 1 : Nat) : Int)) (fun k => ?_) ?_
      · simp only [lex_wordEnd.l0]
        rw [if_pos (by omega), if_pos (by omega), isLetter_eq, isDigit_eq, e1]
        simp only [Option.bind_some]
        unfold isWb at hp
        cases h1 : isLb (bt s i) <;> cases h2 : isDb (bt s i) <;> simp [h1, h2] at hp ⊢
        intro h3; exact absurd hp h3
      · rw [scan_at isWb s i hi hp]; exact ih (i + 1) (by omega)
    | false =>
      refine Ev.step (f := fun _ => some (i : Int)) (fun k => ?_) ?_
      · simp only [lex_wordEnd.l0]
        rw [if_pos (by omega), if_pos (by omega), isLetter_eq, isDigit_eq]
        simp only [Option.bind_some]
        unfold isWb at hp
        cases h1 : isLb (bt s i) <;> cases h2 : isDb (bt s i) <;> simp [h1, h2] at hp ⊢
        intro h3; exact absurd h3 hp
      · rw [scan_no isWb s i hi hp]; exact Ev.now _
theorem wordEnd_ev (s : ByteArray) (hs : s.size ≤ 140737488351232) (i : Nat) : Ev (fun k => lex_wordEnd.f k s i) (scan isWb s i : Nat) := wordEnd_l s hs _ i rfl

theorem rletter_eq (c : Int) : dataflowref07_letter.f c = some (isLb c) := by
  unfold dataflowref07_letter.f isLb
  by_cases h1 : c ≥ 97 <;> by_cases h2 : c ≤ 122 <;> by_cases h3 : c ≥ 65 <;> by_cases h4 : c ≤ 90 <;> simp [h1, h2, h3, h4] <;> omega
theorem rdigit_eq (c : Int) : dataflowref07_digit.f c = some (isDb c) := by
  unfold dataflowref07_digit.f isDb
  by_cases h1 : c ≥ 48 <;> by_cases h2 : c ≤ 57 <;> simp [h1, h2]
theorem rpart_eq (c : Int) : dataflowref07_part.f c = some (isWb c) := by
  unfold dataflowref07_part.f
  rw [rletter_eq, rdigit_eq]
  unfold isWb
  cases h1 : isLb c <;> cases h2 : isDb c <;> simp
theorem rd_at (l : List ByteArray) (i : Nat) (h : i < l.length) : rdOf ByteArray.empty l (i : Int) = l[i] := by simp [rdOf, h]
theorem rkw_l (s : ByteArray) (l : List ByteArray) (hl : l.length ≤ 1000) : ∀ (d i : Nat), l.length - i = d → Ev (fun k => dataflowref07_Keyword.l0 k s l i) ((l.drop i).any fun x => s.toList == x.toList) := by
  intro d
  induction d with
  | zero =>
    intro i h
    refine Ev.step (f := fun _ => some false) (fun k => ?_) ?_
    · simp only [dataflowref07_Keyword.l0]; rw [if_neg (by omega)]
    · rw [List.drop_of_length_le (by omega)]; exact Ev.now _
  | succ d ih =>
    intro i h
    have hi : i < l.length := by omega
    rw [List.drop_eq_getElem_cons hi, List.any_cons]
    by_cases he : l[i].toList = s.toList
    · refine Ev.step (f := fun _ => some true) (fun k => ?_) ?_
      · simp only [dataflowref07_Keyword.l0]; rw [if_pos (by omega), if_pos (by omega), rd_at l i hi, if_pos he]
      · rw [he]; simp only [beq_self_eq_true, Bool.true_or]; exact Ev.now _
    · refine Ev.step (f := fun k => dataflowref07_Keyword.l0 k s l ((i + 1 : Nat) : Int)) (fun k => ?_) ?_
      · simp only [dataflowref07_Keyword.l0]; rw [if_pos (by omega), if_pos (by omega), rd_at l i hi, if_neg he, w64 (by omega) (by omega)]; rfl
      · have h1 : (s.toList == l[i].toList) = false := beq_eq_false_iff_ne.2 (fun e => he e.symm)
        rw [h1, Bool.false_or]; exact ih (i + 1) (by omega)
theorem rkw_ev (s : ByteArray) : Ev (fun k => dataflowref07_Keyword.f k s) (isKw s) := rkw_l s kwS (by decide) _ 0 rfl
/-- An identifier, in plain words. -/
def wordS (s : ByteArray) : Bool := decide (0 < s.size) && decide (s.size ≤ 32) && isLb (bt s 0) && decide (scan isWb s 0 = s.size)
def identS (s : ByteArray) : Bool := wordS s && !isKw s
theorem toList_nil (s : ByteArray) : s.toList = ([] : List UInt8) ↔ s.size = 0 := by
  rw [Lib.toList_data]
  constructor
  · intro h; have := congrArg List.length h; rw [Array.length_toList] at this; exact this
  · intro h; exact List.eq_nil_of_length_eq_zero (by rw [Array.length_toList]; exact h)
theorem ident_ev (s : ByteArray) (hs : s.size ≤ 9223372036854775807) : Ev (fun k => lex_Ident.f k s) (identS s) := by
  have hnil := toList_nil s
  unfold identS wordS
  by_cases h0 : s.size = 0
  · refine Ev.congr (f := fun _ => some false) (fun k => ?_) (by simpa [h0] using Ev.now false)
    unfold lex_Ident.f; rw [if_pos (hnil.2 h0)]
  · by_cases h1 : s.size ≤ 32
    · cases hl : isLb (bt s 0) with
      | false =>
        refine Ev.congr (f := fun _ => some false) (fun k => ?_) (by simpa [hl] using Ev.now false)
        unfold lex_Ident.f; rw [if_neg (fun h => h0 (hnil.1 h)), if_pos (by omega), if_pos (by omega), isLetter_eq, hl]; rfl
      | true =>
        have hz := scan_le' isWb s 0 (by omega)
        refine Ev.congr (f := fun k => (lex_wordEnd.f k s ((0 : Nat) : Int)).bind fun t => (if t = (s.size : Int) then (some (!isKw s)) else (some false))) (fun k => ?_) (Ev.bind (wordEnd_ev s (by omega) 0) ?_)
        · unfold lex_Ident.f; rw [if_neg (fun h => h0 (hnil.1 h)), if_pos (by omega), if_pos (by omega), isLetter_eq, hl]
          simp only [Option.bind_some, if_true]
          rw [show lex_Keyword.f s = some (isKw s) from rfl]; rfl
        · by_cases he : scan isWb s 0 = s.size
          · refine Ev.congr (f := fun _ => some (!isKw s)) (fun k => by rw [if_pos (by omega)]) ?_
            have : (decide (0 < s.size) && decide (s.size ≤ 32) && true && decide (scan isWb s 0 = s.size) && !isKw s) = !isKw s := by
              rw [decide_eq_true (by omega : 0 < s.size), decide_eq_true h1, decide_eq_true he]; simp
            rw [this]; exact Ev.now _
          · refine Ev.congr (f := fun _ => some false) (fun k => by rw [if_neg (by omega)]) ?_
            rw [decide_eq_false he]; simpa using Ev.now false
    · refine Ev.congr (f := fun _ => some false) (fun k => ?_) (by simpa [h1] using Ev.now false)
      unfold lex_Ident.f; rw [if_neg (fun h => h0 (hnil.1 h)), if_neg (by omega)]
theorem rident_l (s : ByteArray) (hs : s.size ≤ 9223372036854775807) : ∀ (d i : Nat), s.size - i = d → i ≤ s.size → Ev (fun k => dataflowref07_Ident.l0 k s i) (decide (scan isWb s i = s.size)) := by
  intro d
  induction d with
  | zero =>
    intro i h hi
    rw [scan_end isWb s i (by omega), decide_eq_true (by omega)]
    refine Ev.step (f := fun _ => some true) (fun k => ?_) (Ev.now _)
    simp only [dataflowref07_Ident.l0]; rw [if_neg (by omega)]
  | succ d ih =>
    intro i h hi
    have hlt : i < s.size := by omega
    cases hp : isWb (bt s i) with
    | true =>
      rw [scan_at isWb s i hlt hp]
      refine Ev.step (f := fun k => dataflowref07_Ident.l0 k s ((i + 1 : Nat) : Int)) (fun k => ?_) (ih (i + 1) (by omega) (by omega))
      simp only [dataflowref07_Ident.l0]; rw [if_pos (by omega), if_pos (by omega), rpart_eq, hp, w64 (by omega) (by omega)]; rfl
    | false =>
      rw [scan_no isWb s i hlt hp, decide_eq_false (by omega)]
      refine Ev.step (f := fun _ => some false) (fun k => ?_) (Ev.now _)
      simp only [dataflowref07_Ident.l0]; rw [if_pos (by omega), if_pos (by omega), rpart_eq, hp]; rfl
theorem rident_ev (s : ByteArray) (hs : s.size ≤ 9223372036854775807) : Ev (fun k => dataflowref07_Ident.f k s) (identS s) := by
  have hnil := toList_nil s
  have hj : ∀ b : Bool, Ev (fun k => dataflowref07_Ident.j0 k s b) (!b && decide (scan isWb s 0 = s.size)) := by
    intro b
    cases b with
    | true => exact Ev.step (f := fun _ => some false) (fun k => by simp [dataflowref07_Ident.j0]) (Ev.now _)
    | false => exact Ev.step (f := fun k => dataflowref07_Ident.l0 k s ((0 : Nat) : Int)) (fun k => by simp [dataflowref07_Ident.j0]) (rident_l s hs _ 0 rfl (by omega))
  unfold identS wordS
  by_cases h0 : s.size = 0
  · refine Ev.congr (f := fun k => dataflowref07_Ident.j0 k s true) (fun k => ?_) (by simpa [h0] using hj true)
    unfold dataflowref07_Ident.f; rw [if_pos (hnil.2 h0)]
  · by_cases h1 : s.size ≤ 32
    · cases hl : isLb (bt s 0) with
      | false =>
        refine Ev.congr (f := fun k => dataflowref07_Ident.j0 k s true) (fun k => ?_) (by simpa [hl] using hj true)
        unfold dataflowref07_Ident.f; rw [if_neg (fun h => h0 (hnil.1 h)), if_neg (by omega), if_pos (by omega), rletter_eq, hl]; rfl
      | true =>
        refine Ev.congr (f := fun k => (dataflowref07_Keyword.f k s).bind fun t => dataflowref07_Ident.j0 k s t) (fun k => ?_) (Ev.bind (rkw_ev s) ?_)
        · unfold dataflowref07_Ident.f; rw [if_neg (fun h => h0 (hnil.1 h)), if_neg (by omega), if_pos (by omega), rletter_eq, hl]; rfl
        · have := hj (isKw s)
          rw [decide_eq_true (by omega : 0 < s.size), decide_eq_true h1]
          rw [show (true && true && true && decide (scan isWb s 0 = s.size) && !isKw s) = (!isKw s && decide (scan isWb s 0 = s.size)) by simp [Bool.and_comm]]
          exact this
    · refine Ev.congr (f := fun k => dataflowref07_Ident.j0 k s true) (fun k => ?_) (by simpa [h1] using hj true)
      unfold dataflowref07_Ident.f; rw [if_neg (fun h => h0 (hnil.1 h)), if_pos (by omega)]
end Go.Proofs.YthfhbdncphkdaaaDoor.H

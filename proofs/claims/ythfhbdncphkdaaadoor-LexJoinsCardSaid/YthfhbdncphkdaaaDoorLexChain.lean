/- The tokens of a text as a chain: token, gap, token. -/
import Derived.Test.YthfhbdncphkdaaaDoorLexTok
import Derived.Test.YthfhbdncphkdaaaDoorGf17
import Derived.Test.YthfhbdncphkdaaaDoorGa
namespace Go.Proofs.YthfhbdncphkdaaaDoor.G
open Go.RowKit Go.Proofs.YthfhbdncphkdaaaDoorW.PrintWords
set_option linter.unusedVariables false

def endT (s : ByteArray) : S30 := ⟨5, s.size, ⟨#[]⟩, 0⟩
/-- From i on the tokens are l. -/
inductive Chain (s : ByteArray) : Nat → List S30 → Prop
  | done (i : Nat) (hi : i ≤ s.size) (h : skipS s i = s.size) : Chain s i [endT s]
  | tok (i : Nat) (hi : i ≤ s.size) (l : List S30) (h : skipS s i < s.size) (he : (tokS s (skipS s i)).2.2.2.2 = 0) (hl : Chain s (skipS s i + (tokS s (skipS s i)).2.2.1.size) l) : Chain s i (tk (tokS s (skipS s i)) :: l)
/-- From i on there is an error at p. -/
inductive Bad (s : ByteArray) (p : Nat) (e : Int) : Nat → Prop
  | here (i : Nat) (hi : i ≤ s.size) (h : skipS s i < s.size) (hp : skipS s i = p) (he : (tokS s p).2.2.2.2 = e) (h0 : e ≠ 0) : Bad s p e i
  | tok (i : Nat) (hi : i ≤ s.size) (h : skipS s i < s.size) (he : (tokS s (skipS s i)).2.2.2.2 = 0) (hl : Bad s p e (skipS s i + (tokS s (skipS s i)).2.2.1.size)) : Bad s p e i
theorem chain_toks (s : ByteArray) {i : Nat} {l : List S30} (h : Chain s i l) : ∀ acc, toks s i i acc = (acc ++ l, 0, 0) := by
  induction h with
  | done i hi h => intro acc; rw [toks_gap s acc i hi, h, toks_end s _ _ acc (by omega)]; rfl
  | tok i hi l h he hl ih =>
    intro acc
    obtain ⟨a1, a2⟩ := skip_stop s i h
    rw [toks_gap s acc i hi, toks_one s _ acc h a1 a2 he, ih]
    simp
theorem bad_toks (s : ByteArray) {p : Nat} {e : Int} {i : Nat} (h : Bad s p e i) : ∀ acc, toks s i i acc = ([], (p : Int), e) := by
  induction h with
  | here i hi h hp he h0 =>
    intro acc
    obtain ⟨a1, a2⟩ := skip_stop s i h
    rw [toks_gap s acc i hi, toks_err s _ _ acc h (by simp [a1]) a2 (by rw [hp, he]; exact h0), hp, he]
  | tok i hi h he hl ih =>
    intro acc
    obtain ⟨a1, a2⟩ := skip_stop s i h
    rw [toks_gap s acc i hi, toks_one s _ acc h a1 a2 he, ih]
theorem chain_or_bad (s : ByteArray) : ∀ (d i : Nat), s.size - i ≤ d → i ≤ s.size → (∃ l, Chain s i l) ∨ ∃ p e, Bad s p e i := by
  intro d
  induction d with
  | zero =>
    intro i h hi
    exact .inl ⟨_, .done i hi (by rw [skipS_end s i (by omega)]; omega)⟩
  | succ d ih =>
    intro i h hi
    obtain ⟨h1, h2⟩ := skip_le s i hi
    by_cases hlt : skipS s i < s.size
    · by_cases he : (tokS s (skipS s i)).2.2.2.2 = 0
      · obtain ⟨g1, g2, _⟩ := tok_tells s _ hlt he
        rcases ih (skipS s i + (tokS s (skipS s i)).2.2.1.size) (by omega) g2 with ⟨l, hl⟩ | ⟨p, e, hb⟩
        · exact .inl ⟨_, .tok i hi l hlt he hl⟩
        · exact .inr ⟨p, e, .tok i hi hlt he hb⟩
      · exact .inr ⟨_, _, .here i hi hlt rfl rfl he⟩
    · exact .inl ⟨_, .done i hi (by omega)⟩
/-- The whole: too long; a chain; an error. -/
theorem tokens_cases (s : ByteArray) : (s.size > 65536 ∧ tokensS s = ([], 0, 3)) ∨ (s.size ≤ 65536 ∧ ((∃ l, Chain s 0 l ∧ tokensS s = (l, 0, 0)) ∨ ∃ p e, Bad s p e 0 ∧ tokensS s = ([], (p : Int), e))) := by
  by_cases h : s.size > 65536
  · exact .inl ⟨h, by unfold tokensS; rw [if_pos h]⟩
  · refine .inr ⟨by omega, ?_⟩
    have hu : tokensS s = toks s 0 0 [] := by unfold tokensS; rw [if_neg h]
    rcases chain_or_bad s _ 0 (Nat.le_refl _) (by omega) with ⟨l, hl⟩ | ⟨p, e, hb⟩
    · exact .inl ⟨l, hl, by rw [hu, chain_toks s hl []]; rfl⟩
    · exact .inr ⟨p, e, hb, by rw [hu, bad_toks s hb []]⟩
theorem bad_err {s : ByteArray} {p : Nat} {e : Int} {i : Nat} (h : Bad s p e i) : e ≠ 0 ∧ p < s.size ∧ (tokS s p).2.2.2.2 = e ∧ i ≤ p := by
  induction h with
  | here i hi h hp he h0 => exact ⟨h0, by omega, he, by have := skip_le s i hi; omega⟩
  | tok i hi h he hl ih => exact ⟨ih.1, ih.2.1, ih.2.2.1, by have := skip_le s i hi; have := ih.2.2.2; omega⟩
/-- An identifier, in plain words. -/
def wordS (s : ByteArray) : Bool := decide (0 < s.size) && decide (s.size ≤ 32) && isLb (bt s 0) && decide (scan isWb s 0 = s.size)
def identS (s : ByteArray) : Bool := wordS s && !isKw s
theorem toList_nil (s : ByteArray) : s.toList = ([] : List UInt8) ↔ s.size = 0 := by
  rw [Lib.toList_data]
  constructor
  · intro h; have := congrArg List.length h; rw [Array.length_toList] at this; exact this
  · intro h; exact List.eq_nil_of_length_eq_zero (by rw [Array.length_toList]; exact h)
theorem ident_ev (s : ByteArray) (hs : s.size ≤ 140737488351232) : Ev (fun k => lex_Ident.f k s) (identS s) := by
  have hnil := toList_nil s
  unfold identS wordS
  by_cases h0 : s.size = 0
  · refine Ev.congr (f := fun _ => some false) (fun k => ?_) (by simpa [h0] using Ev.now false)
    unfold lex_Ident.f; rw [if_pos (hnil.2 h0)]
  · by_cases h1 : s.size ≤ 32
    · cases hl : isLb (bt s 0) with
      | false =>
        refine Ev.congr (f := fun _ => some false) (fun k => ?_) (by simpa [hl] using Ev.now false)
        unfold lex_Ident.f; rw [if_neg (fun h => h0 (hnil.1 h)), if_pos (by omega), if_pos (by omega), isLetter_eq, hl]; rfl
      | true =>
        have hz := scan_le' isWb s 0 (by omega)
        refine Ev.congr (f := fun k => (lex_wordEnd.f k s ((0 : Nat) : Int)).bind fun t => (if t = (s.size : Int) then (some (!isKw s)) else (some false))) (fun k => ?_) (Ev.bind (wordEnd_ev s hs 0) ?_)
        · unfold lex_Ident.f; rw [if_neg (fun h => h0 (hnil.1 h)), if_pos (by omega), if_pos (by omega), isLetter_eq, hl]
          simp only [Option.bind_some, if_true]
          rw [show lex_Keyword.f s = some (isKw s) from rfl]; rfl
        · by_cases he : scan isWb s 0 = s.size
          · refine Ev.congr (f := fun _ => some (!isKw s)) (fun k => by rw [if_pos (by omega)]) ?_
            have : (decide (0 < s.size) && decide (s.size ≤ 32) && true && decide (scan isWb s 0 = s.size) && !isKw s) = !isKw s := by
              rw [decide_eq_true (by omega : 0 < s.size), decide_eq_true h1, decide_eq_true he]; simp
            rw [this]; exact Ev.now _
          · refine Ev.congr (f := fun _ => some false) (fun k => by rw [if_neg (by omega)]) ?_
            rw [decide_eq_false he]; simpa using Ev.now false
    · refine Ev.congr (f := fun _ => some false) (fun k => ?_) (by simpa [h1] using Ev.now false)
      unfold lex_Ident.f; rw [if_neg (fun h => h0 (hnil.1 h)), if_neg (by omega)]
theorem rident_l (s : ByteArray) (hs : s.size ≤ 140737488351232) : ∀ (d i : Nat), s.size - i = d → i ≤ s.size → Ev (fun k => dataflowref07_Ident.l0 k s i) (decide (scan isWb s i = s.size)) := by
  intro d
  induction d with
  | zero =>
    intro i h hi
    rw [scan_end isWb s i (by omega), decide_eq_true (by omega)]
    refine Ev.step (f := fun _ => some true) (fun k => ?_) (Ev.now _)
    simp only [dataflowref07_Ident.l0]; rw [if_neg (by omega)]
  | succ d ih =>
    intro i h hi
    have hlt : i < s.size := by omega
    cases hp : isWb (bt s i) with
    | true =>
      rw [scan_at isWb s i hlt hp]
      refine Ev.step (f := fun k => dataflowref07_Ident.l0 k s ((i + 1 : Nat) : Int)) (fun k => ?_) (ih (i + 1) (by omega) (by omega))
      simp only [dataflowref07_Ident.l0]; rw [if_pos (by omega), if_pos (by omega), rpart_eq, hp, w64 (by omega) (by omega)]; rfl
    | false =>
      rw [scan_no isWb s i hlt hp, decide_eq_false (by omega)]
      refine Ev.step (f := fun _ => some false) (fun k => ?_) (Ev.now _)
      simp only [dataflowref07_Ident.l0]; rw [if_pos (by omega), if_pos (by omega), rpart_eq, hp]; rfl
theorem rident_ev (s : ByteArray) (hs : s.size ≤ 140737488351232) : Ev (fun k => dataflowref07_Ident.f k s) (identS s) := by
  have hnil := toList_nil s
  have hj : ∀ b : Bool, Ev (fun k => dataflowref07_Ident.j0 k s b) (!b && decide (scan isWb s 0 = s.size)) := by
    intro b
    cases b with
    | true => exact Ev.step (f := fun _ => some false) (fun k => by simp [dataflowref07_Ident.j0]) (Ev.now _)
    | false => exact Ev.step (f := fun k => dataflowref07_Ident.l0 k s ((0 : Nat) : Int)) (fun k => by simp [dataflowref07_Ident.j0]) (rident_l s hs _ 0 rfl (by omega))
  unfold identS wordS
  by_cases h0 : s.size = 0
  · refine Ev.congr (f := fun k => dataflowref07_Ident.j0 k s true) (fun k => ?_) (by simpa [h0] using hj true)
    unfold dataflowref07_Ident.f; rw [if_pos (hnil.2 h0)]
  · by_cases h1 : s.size ≤ 32
    · cases hl : isLb (bt s 0) with
      | false =>
        refine Ev.congr (f := fun k => dataflowref07_Ident.j0 k s true) (fun k => ?_) (by simpa [hl] using hj true)
        unfold dataflowref07_Ident.f; rw [if_neg (fun h => h0 (hnil.1 h)), if_neg (by omega), if_pos (by omega), rletter_eq, hl]; rfl
      | true =>
        refine Ev.congr (f := fun k => (dataflowref07_Keyword.f k s).bind fun t => dataflowref07_Ident.j0 k s t) (fun k => ?_) (Ev.bind (rkw_ev s) ?_)
        · unfold dataflowref07_Ident.f; rw [if_neg (fun h => h0 (hnil.1 h)), if_neg (by omega), if_pos (by omega), rletter_eq, hl]; rfl
        · have := hj (isKw s)
          rw [decide_eq_true (by omega : 0 < s.size), decide_eq_true h1]
          rw [show (true && true && true && decide (scan isWb s 0 = s.size) && !isKw s) = (!isKw s && decide (scan isWb s 0 = s.size)) by simp [Bool.and_comm]]
          exact this
    · refine Ev.congr (f := fun k => dataflowref07_Ident.j0 k s true) (fun k => ?_) (by simpa [h1] using hj true)
      unfold dataflowref07_Ident.f; rw [if_neg (fun h => h0 (hnil.1 h)), if_pos (by omega)]
/-- A keyword is a word. -/
theorem kw_word (s : ByteArray) (h : isKw s = true) : wordS s = true := by
  unfold isKw at h
  rw [List.any_eq_true] at h
  obtain ⟨x, hx, he⟩ := h
  have he : s.toList = x.toList := by simpa using he
  have hsx : s = x := by rw [Lib.toList_data, Lib.toList_data] at he; exact ByteArray.ext (Array.toList_inj.1 he)
  subst hsx
  have key : ∀ x ∈ kwS, (0 < x.size ∧ x.size ≤ 32 ∧ isLb (bt x 0) = true) ∧ ∀ j : Nat, j < x.size → isWb (bt x j) = true := by decide +kernel
  obtain ⟨⟨h1, h2, h3⟩, h4⟩ := key s hx
  have h5 : scan isWb s 0 = s.size := scan_eq isWb s 0 s.size (by omega) (Nat.le_refl _) (fun j _ hj => h4 j hj) (fun hh => by omega)
  unfold wordS
  rw [decide_eq_true h1, decide_eq_true h2, h3, decide_eq_true h5]; rfl
theorem isLb_notSp {c : Int} (h : isLb c = true) : isSp c = false ∧ c ≠ 47 := by
  unfold isLb at h; unfold isSp; simp at h ⊢; omega
/-- A word is one token. -/
theorem word_one (s : ByteArray) (h : wordS s = true) : tokensS s = ([⟨if isKw s then 2 else 1, 0, s, 0⟩, endT s], 0, 0) := by
  unfold wordS at h
  simp only [Bool.and_eq_true, decide_eq_true_eq] at h
  obtain ⟨⟨⟨h1, h2⟩, h3⟩, h4⟩ := h
  have hcut : cut s 0 s.size = s := by unfold cut; exact ByteArray.extract_zero_size
  have ht : tokS s 0 = (if isKw s then 2 else 1, 0, s, 0, 0) := by
    unfold tokS
    rw [show ((0 : Nat) : Int) = 0 from rfl, if_pos h3, h4, if_neg (by omega), hcut]
  obtain ⟨n1, n2⟩ := isLb_notSp h3
  have hc : isCm s 0 = false := by unfold isCm; rw [show (bt s ((0 : Nat) : Int) == 47) = false from beq_eq_false_iff_ne.2 n2]; rfl
  unfold tokensS
  rw [if_neg (by omega), toks_one s 0 [] h1 n1 hc (by rw [ht]), ht]
  simp only [Nat.zero_add]
  rw [toks_end s _ _ _ (by omega)]
  rfl
/-- One token whose text is all: a word, if it is of these kinds. -/
theorem one_word (s : ByteArray) {t e : S30} (h : tokensS s = ([t, e], 0, 0)) (ht : t.f2 = s) (hk : t.f0 = 1 ∨ t.f0 = 2) : wordS s = true ∧ (t.f0 = 2 ↔ isKw s = true) := by
  rcases tokens_cases s with ⟨_, h1⟩ | ⟨hle, ⟨l, hl, h1⟩ | ⟨p, er, hb, h1⟩⟩
  · rw [h1] at h; simp at h
  · rw [h1] at h
    simp only [Prod.mk.injEq, and_true] at h
    subst h
    cases hl with
    | tok i hi l hlt he hl' =>
      obtain ⟨g1, g2, g3, g4, g5, g6⟩ := tok_tells s _ hlt he
      have h0 : skipS s 0 = 0 := by
        have : (tokS s (skipS s 0)).2.2.1.size = s.size := by rw [show (tokS s (skipS s 0)).2.2.1 = s from ht]
        omega
      rw [h0] at ht hk hlt g1
      simp only [tk] at ht hk ⊢
      rw [h0]
      have hsz : 0 < s.size := by omega
      unfold tokS at ht hk ⊢
      rw [show ((0 : Nat) : Int) = 0 from rfl] at ht hk ⊢
      by_cases hL : isLb (bt s 0) = true
      · rw [if_pos hL] at ht hk ⊢
        by_cases hlen : scan isWb s 0 - 0 > 32
        · rw [if_pos hlen] at hk; simp [noTok] at hk
        · rw [if_neg hlen] at ht hk ⊢
          simp only at ht hk ⊢
          have hz := scan_le' isWb s 0 (by omega)
          have hcs := cut_size s 0 _ hz
          rw [ht] at hcs ⊢
          refine ⟨?_, ?_⟩
          · unfold wordS
            rw [decide_eq_true hsz, decide_eq_true (by omega : s.size ≤ 32), hL, decide_eq_true (by omega : scan isWb s 0 = s.size)]; rfl
          · cases isKw s <;> simp
      · rw [if_neg hL] at hk
        exfalso
        by_cases hd : isDb (bt s 0) = true
        · rw [if_pos hd] at hk
          unfold numS at hk
          simp only at hk
          split at hk
          · simp [noTok] at hk
          · split at hk
            · simp [noTok] at hk
            · simp at hk
        · rw [if_neg hd] at hk
          unfold markS at hk
          split at hk
          · simp at hk
          · simp [noTok] at hk
  · rw [h1] at h; simp at h
end Go.Proofs.YthfhbdncphkdaaaDoor.G

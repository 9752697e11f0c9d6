/- Plain words for the lexer: what its functions compute, over bytes, without the program. -/
import Derived.Test.YthfhbdncphkdaaaDoorWWords
import Derived.Test.YthfhbdncphkdaaaDoorWLast
import Derived.Test.YthfhbdncphkdaaaDoorWMore
namespace Go.Proofs.YthfhbdncphkdaaaDoor.G
open Go.RowKit Go.Proofs.YthfhbdncphkdaaaDoorW.PrintWords

def isLb (c : Int) : Bool := decide (97 ≤ c ∧ c ≤ 122) || decide (65 ≤ c ∧ c ≤ 90)
def isDb (c : Int) : Bool := decide (48 ≤ c ∧ c ≤ 57)
def isWb (c : Int) : Bool := isLb c || isDb c || c == 95
/-- The first place from i on whose byte is not as p says. -/
def scan (p : Int → Bool) (s : ByteArray) (i : Nat) : Nat :=
  if _h : i < s.size then (if p (bt s i) then scan p s (i + 1) else i) else i
termination_by s.size - i
theorem scan_at (p : Int → Bool) (s : ByteArray) (i : Nat) (h : i < s.size) (hp : p (bt s i) = true) : scan p s i = scan p s (i + 1) := by
  rw [scan, dif_pos h, if_pos hp]
theorem scan_no (p : Int → Bool) (s : ByteArray) (i : Nat) (h : i < s.size) (hp : p (bt s i) = false) : scan p s i = i := by
  rw [scan, dif_pos h, if_neg (by simp [hp])]
theorem scan_end (p : Int → Bool) (s : ByteArray) (i : Nat) (h : ¬ i < s.size) : scan p s i = i := by
  rw [scan, dif_neg h]
theorem scan_ge (p : Int → Bool) (s : ByteArray) : ∀ (d i : Nat), s.size - i = d → i ≤ scan p s i := by
  intro d
  induction d with
  | zero => intro i h; rw [scan_end p s i (by omega)]; omega
  | succ d ih =>
    intro i h
    have hi : i < s.size := by omega
    cases hp : p (bt s i) with
    | true => rw [scan_at p s i hi hp]; have := ih (i + 1) (by omega); omega
    | false => rw [scan_no p s i hi hp]; omega
theorem le_scan (p : Int → Bool) (s : ByteArray) (i : Nat) : i ≤ scan p s i := scan_ge p s _ i rfl
theorem scan_le (p : Int → Bool) (s : ByteArray) : ∀ (d i : Nat), s.size - i = d → i ≤ s.size → scan p s i ≤ s.size := by
  intro d
  induction d with
  | zero => intro i h hi; rw [scan_end p s i (by omega)]; omega
  | succ d ih =>
    intro i h hi
    have hi : i < s.size := by omega
    cases hp : p (bt s i) with
    | true => rw [scan_at p s i hi hp]; exact ih (i + 1) (by omega) (by omega)
    | false => rw [scan_no p s i hi hp]; omega
theorem scan_le' (p : Int → Bool) (s : ByteArray) (i : Nat) (h : i ≤ s.size) : scan p s i ≤ s.size := scan_le p s _ i rfl h
theorem scan_in (p : Int → Bool) (s : ByteArray) : ∀ (d i : Nat), s.size - i = d → ∀ j, i ≤ j → j < scan p s i → p (bt s j) = true := by
  intro d
  induction d with
  | zero => intro i h j h1 h2; rw [scan_end p s i (by omega)] at h2; omega
  | succ d ih =>
    intro i h j h1 h2
    have hi : i < s.size := by omega
    cases hp : p (bt s i) with
    | true =>
      rw [scan_at p s i hi hp] at h2
      by_cases e : j = i
      · subst e; exact hp
      · exact ih (i + 1) (by omega) j (by omega) h2
    | false => rw [scan_no p s i hi hp] at h2; omega
theorem scan_all (p : Int → Bool) (s : ByteArray) (i j : Nat) (h1 : i ≤ j) (h2 : j < scan p s i) : p (bt s j) = true := scan_in p s _ i rfl j h1 h2
theorem scan_stop (p : Int → Bool) (s : ByteArray) : ∀ (d i : Nat), s.size - i = d → scan p s i < s.size → p (bt s (scan p s i : Nat)) = false := by
  intro d
  induction d with
  | zero => intro i h h2; rw [scan_end p s i (by omega)] at h2; omega
  | succ d ih =>
    intro i h h2
    have hi : i < s.size := by omega
    cases hp : p (bt s i) with
    | true => rw [scan_at p s i hi hp] at h2 ⊢; exact ih (i + 1) (by omega) h2
    | false => rw [scan_no p s i hi hp]; exact hp
theorem scan_off (p : Int → Bool) (s : ByteArray) (i : Nat) (h : scan p s i < s.size) : p (bt s (scan p s i : Nat)) = false := scan_stop p s _ i rfl h
/-- What is told by its places is the scan's end. -/
theorem scan_eq (p : Int → Bool) (s : ByteArray) (i e : Nat) (h1 : i ≤ e) (h2 : e ≤ s.size) (h3 : ∀ j, i ≤ j → j < e → p (bt s j) = true) (h4 : e < s.size → p (bt s e) = false) : scan p s i = e := by
  rcases Nat.lt_trichotomy (scan p s i) e with h | h | h
  · have h5 := scan_off p s i (by omega)
    have h6 := h3 _ (le_scan p s i) h
    rw [h5] at h6; cases h6
  · exact h
  · have h5 := scan_all p s i e h1 h
    have h6 := scan_le' p s i (by omega)
    rw [h4 (by omega)] at h5; cases h5
/-- The value of the decimal digits from i to e, behind the value v. -/
def val (s : ByteArray) (v : Nat) (i e : Nat) : Nat :=
  if _h : i < e then val s (v * 10 + (bt s i - 48).toNat) (i + 1) e else v
termination_by e - i
theorem val_at (s : ByteArray) (v i e : Nat) (h : i < e) : val s v i e = val s (v * 10 + (bt s i - 48).toNat) (i + 1) e := by rw [val, dif_pos h]
theorem val_end (s : ByteArray) (v i e : Nat) (h : ¬ i < e) : val s v i e = v := by rw [val, dif_neg h]
theorem val_grows (s : ByteArray) : ∀ (d v i e : Nat), e - i = d → v ≤ val s v i e := by
  intro d
  induction d with
  | zero => intro v i e h; rw [val_end s v i e (by omega)]; omega
  | succ d ih => intro v i e h; rw [val_at s v i e (by omega)]; have := ih (v * 10 + (bt s i - 48).toNat) (i + 1) e (by omega); omega
theorem le_val (s : ByteArray) (v i e : Nat) : v ≤ val s v i e := val_grows s _ v i e rfl
abbrev Tok5 := Int × Int × ByteArray × Int × Int
def noTok (e : Int) : Tok5 := (0, 0, (⟨#[]⟩ : ByteArray), 0, e)
def cut (s : ByteArray) (i e : Nat) : ByteArray := s.extract i e
/-- The number at i. -/
def numS (s : ByteArray) (i : Nat) : Tok5 :=
  let e := scan isDb s i
  if (bt s i = 48 ∧ e - i > 1) ∨ scan isWb s e > e then noTok 2
  else if val s 0 i e > 9223372036854775807 then noTok 4
  else (3, i, cut s i e, val s 0 i e, 0)
def kwS : List ByteArray := [⟨#[99, 108, 97, 115, 115]⟩, ⟨#[101, 120, 116, 101, 110, 100, 115]⟩, ⟨#[118, 97, 114]⟩, ⟨#[100, 101, 102]⟩, ⟨#[115, 116, 97, 116, 105, 99]⟩, ⟨#[105, 102]⟩, ⟨#[101, 108, 115, 101]⟩, ⟨#[119, 104, 105, 108, 101]⟩, ⟨#[116, 114, 121]⟩, ⟨#[99, 97, 116, 99, 104]⟩, ⟨#[116, 104, 114, 111, 119]⟩, ⟨#[114, 101, 116, 117, 114, 110]⟩, ⟨#[110, 101, 119]⟩, ⟨#[110, 117, 108, 108]⟩, ⟨#[116, 104, 105, 115]⟩, ⟨#[105, 110, 112, 117, 116]⟩, ⟨#[105, 110, 116]⟩]
def mkS : List ByteArray := [⟨#[58, 58]⟩, ⟨#[61, 61]⟩, ⟨#[58]⟩, ⟨#[123]⟩, ⟨#[125]⟩, ⟨#[40]⟩, ⟨#[41]⟩, ⟨#[59]⟩, ⟨#[44]⟩, ⟨#[46]⟩, ⟨#[61]⟩, ⟨#[60]⟩, ⟨#[43]⟩, ⟨#[45]⟩, ⟨#[42]⟩]
def isKw (s : ByteArray) : Bool := kwS.any fun x => s.toList == x.toList
/-- Does m stand at i? -/
def standsAt (s : ByteArray) (i : Nat) (m : ByteArray) : Bool := decide (i + m.size ≤ s.size) && ((s.extract i (i + m.size)).toList == m.toList)
def markS (s : ByteArray) (i : Nat) : Tok5 := match mkS.find? (standsAt s i) with
  | some m => (4, i, m, 0, 0)
  | none => noTok 2
/-- The token at i. -/
def tokS (s : ByteArray) (i : Nat) : Tok5 :=
  if isLb (bt s i) then
    (if scan isWb s i - i > 32 then noTok 3 else ((if isKw (cut s i (scan isWb s i)) then 2 else 1), i, cut s i (scan isWb s i), 0, 0))
  else if isDb (bt s i) then numS s i
  else markS s i
end Go.Proofs.YthfhbdncphkdaaaDoor.G

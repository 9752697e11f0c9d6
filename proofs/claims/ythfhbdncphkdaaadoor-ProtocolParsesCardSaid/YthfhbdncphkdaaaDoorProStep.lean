/- A step of a protocol: the program's binary search finds what the reference's search in line finds. -/
import Derived.Test.YthfhbdncphkdaaaDoorProCheck
import Derived.Test.YthfhbdncphkdaaaDoorHd
import Derived.Test.YthfhbdncphkdaaaDoorHf24
namespace Go.Proofs.YthfhbdncphkdaaaDoor.H
open Go.RowKit Go.Proofs.YthfhbdncphkdaaaDoorW.PrintWords
set_option linter.unusedVariables false
set_option linter.unusedSimpArgs false

theorem bl_irr : ∀ a : List UInt8, Op.bytesLess a a = false
  | [] => rfl
  | a :: x => by
    have h : ¬ a < a := fun h => by have := UInt8.lt_iff_toNat_lt.1 h; omega
    simp [Op.bytesLess, bl_irr x, h]
theorem bl_trans : ∀ a b c : List UInt8, Op.bytesLess a b = true → Op.bytesLess b c = true → Op.bytesLess a c = true
  | _, [], _, h, _ => by cases ‹List UInt8› <;> simp [Op.bytesLess] at h
  | [], b :: y, [], _, h => by simp [Op.bytesLess] at h
  | [], b :: y, c :: z, _, _ => rfl
  | a :: x, b :: y, [], _, h => by simp [Op.bytesLess] at h
  | a :: x, b :: y, c :: z, h1, h2 => by
    have ih := bl_trans x y z
    simp only [Op.bytesLess, Bool.or_eq_true, decide_eq_true_eq, Bool.and_eq_true, beq_iff_eq] at h1 h2 ⊢
    rcases h1 with h1 | ⟨rfl, h1⟩
    · rcases h2 with h2 | ⟨rfl, h2⟩
      · left; exact UInt8.lt_iff_toNat_lt.2 (by have := UInt8.lt_iff_toNat_lt.1 h1; have := UInt8.lt_iff_toNat_lt.1 h2; omega)
      · left; exact h1
    · rcases h2 with h2 | ⟨rfl, h2⟩
      · left; exact h2
      · right; exact ⟨rfl, ih h1 h2⟩
theorem bl_eq (a b : List UInt8) (h1 : ¬ Op.bytesLess a b = true) (h2 : ¬ Op.bytesLess b a = true) : a = b := by
  have := xs_tri a b
  have e1 := Bool.eq_false_iff.2 h1
  have e2 := Bool.eq_false_iff.2 h2
  rw [e1, e2] at this
  simpa using this
theorem cmpM_lt (a : Int) (s : ByteArray) (b : Int) (t : ByteArray) : cmpM a s b t < 0 ↔ a < b ∨ (a = b ∧ Op.bytesLess s.toList t.toList = true) := by
  unfold cmpM cmpI cmpS
  by_cases h1 : a < b
  · simp [h1]
  · by_cases h2 : a > b
    · rw [if_neg h1, if_pos h2, if_neg (by omega)]; constructor
      · intro h; omega
      · intro h; omega
    · obtain rfl : a = b := by omega
      rw [if_neg h1, if_neg h2, if_pos rfl]
      by_cases h3 : Op.bytesLess s.toList t.toList = true
      · rw [if_pos h3]; simp [h3]
      · rw [if_neg h3]; constructor
        · intro h; split at h <;> omega
        · intro h; rcases h with h | h; omega; exact absurd h.2 h3
theorem cmpM_zero (a : Int) (s : ByteArray) (b : Int) (t : ByteArray) : cmpM a s b t = 0 ↔ a = b ∧ s.toList = t.toList := by
  unfold cmpM cmpI cmpS
  by_cases h1 : a < b
  · rw [if_pos h1, if_neg (by omega)]; constructor
    · intro h; omega
    · intro h; omega
  · by_cases h2 : a > b
    · rw [if_neg h1, if_pos h2, if_neg (by omega)]; constructor
      · intro h; omega
      · intro h; omega
    · obtain rfl : a = b := by omega
      rw [if_neg h1, if_neg h2, if_pos rfl]
      by_cases h3 : Op.bytesLess s.toList t.toList = true
      · rw [if_pos h3]; constructor
        · intro h; omega
        · intro h; rw [h.2, bl_irr] at h3; cases h3
      · rw [if_neg h3]
        by_cases h4 : Op.bytesLess t.toList s.toList = true
        · rw [if_pos h4]; constructor
          · intro h; omega
          · intro h; rw [h.2, bl_irr] at h4; cases h4
        · rw [if_neg h4]; exact ⟨fun _ => ⟨rfl, bl_eq _ _ h3 h4⟩, fun _ => rfl⟩
theorem cmpM_trans {a b c : Int} {s t u : ByteArray} (h1 : cmpM a s b t < 0) (h2 : cmpM b t c u < 0) : cmpM a s c u < 0 := by
  rw [cmpM_lt] at *
  rcases h1 with h1 | ⟨rfl, h1⟩
  · left; rcases h2 with h2 | ⟨rfl, _⟩ <;> omega
  · rcases h2 with h2 | ⟨rfl, h2⟩
    · left; exact h2
    · right; exact ⟨rfl, bl_trans _ _ _ h1 h2⟩
theorem cmpM_like {a b c : Int} {s t u : ByteArray} (h1 : cmpM a s b t < 0) (h2 : cmpM b t c u = 0) : cmpM a s c u < 0 := by
  obtain ⟨rfl, h3⟩ := (cmpM_zero _ _ _ _).1 h2
  rw [cmpM_lt] at *
  rw [← h3]; exact h1
/-- The state after a call, searched in line. -/
def stepL : List S64 → Int → ByteArray → Int
  | [], st, _ => st
  | x :: r, st, m => if x.f0 = st ∧ x.f1.toList = m.toList then x.f2 else stepL r st m
theorem stepL_hit (st : Int) (m : ByteArray) : ∀ (l : List S64) (i : Nat) (hi : i < l.length), (∀ j (hj : j < i), ¬ (l[j].f0 = st ∧ l[j].f1.toList = m.toList)) → (l[i].f0 = st ∧ l[i].f1.toList = m.toList) → stepL l st m = l[i].f2 := by
  intro l
  induction l with
  | nil => intro i hi; exact absurd hi (Nat.not_lt_zero _)
  | cons x r ih =>
    intro i hi hno hyes
    cases i with
    | zero => unfold stepL; rw [if_pos (show x.f0 = st ∧ x.f1.toList = m.toList from hyes)]; rfl
    | succ i =>
      unfold stepL
      rw [if_neg (show ¬ (x.f0 = st ∧ x.f1.toList = m.toList) from hno 0 (by omega))]
      exact ih i (by simpa using hi) (fun j hj => hno (j + 1) (by omega)) hyes
theorem stepL_miss (st : Int) (m : ByteArray) : ∀ (l : List S64), (∀ j (hj : j < l.length), ¬ (l[j].f0 = st ∧ l[j].f1.toList = m.toList)) → stepL l st m = st := by
  intro l
  induction l with
  | nil => intro _; rfl
  | cons x r ih =>
    intro hno
    unfold stepL
    rw [if_neg (show ¬ (x.f0 = st ∧ x.f1.toList = m.toList) from hno 0 (by simp))]
    exact ih (fun j hj => hno (j + 1) (by simpa using hj))
/-- Each move stands before the next. -/
def Asc (ms : List S64) : Prop := ∀ i j (hj : j < ms.length) (hi : i < j), cmpM (ms[i]'(by omega)).f0 (ms[i]'(by omega)).f1 ms[j].f0 ms[j].f1 < 0
theorem asc_cons {x : S64} {r : List S64} (h : Asc r) (hx : ∀ y ∈ r.head?, cmpM x.f0 x.f1 y.f0 y.f1 < 0) : Asc (x :: r) := by
  intro i j hj hi
  cases j with
  | zero => omega
  | succ j =>
    have hr : j < r.length := by simpa using hj
    cases i with
    | zero =>
      show cmpM x.f0 x.f1 r[j].f0 r[j].f1 < 0
      cases r with
      | nil => simp at hr
      | cons y r' =>
        have h0 := hx y rfl
        cases j with
        | zero => exact h0
        | succ j => exact cmpM_trans h0 (h 0 (j + 1) hr (by omega))
    | succ i => exact h i j hr (by omega)
/-- What no error of the moves tells. -/
theorem mvF_zero (n er : Int) : ∀ (l : List S64) (pr : Option S64), mvF n er pr l = 0 →
    (∀ m ∈ l, 0 ≤ m.f0 ∧ m.f0 < n ∧ 0 ≤ m.f2 ∧ m.f2 < n ∧ identS m.f1 = true ∧ m.f0 ≠ er) ∧ Asc l ∧ ∀ x, pr = some x → ∀ y ∈ l.head?, cmpM x.f0 x.f1 y.f0 y.f1 < 0 := by
  intro l
  induction l with
  | nil => intro pr _; exact ⟨fun m h => (by cases h), fun i j hj => absurd hj (Nat.not_lt_zero _), fun x _ y h => by cases h⟩
  | cons m r ih =>
    intro pr h
    unfold mvF at h
    by_cases h1 : 0 ≤ m.f0 ∧ m.f0 < n ∧ 0 ≤ m.f2 ∧ m.f2 < n
    · rw [if_pos h1] at h
      by_cases h2 : identS m.f1 = true
      · rw [if_pos h2] at h
        by_cases h3 : m.f0 = er
        · rw [if_pos h3] at h; omega
        · rw [if_neg h3] at h
          have key : ∀ b : Bool, (if b = true then (13 : Int) else mvF n er (some m) r) = 0 → b = false ∧ mvF n er (some m) r = 0 := by
            intro b hb
            cases b with
            | true => simp at hb
            | false => exact ⟨rfl, by simpa using hb⟩
          obtain ⟨h4, h5⟩ := key _ h
          obtain ⟨a1, a2, a3⟩ := ih (some m) h5
          refine ⟨fun x hx => ?_, asc_cons a2 (a3 m rfl), fun x hx y hy => ?_⟩
          · rcases List.mem_cons.1 hx with rfl | hx
            · exact ⟨h1.1, h1.2.1, h1.2.2.1, h1.2.2.2, h2, h3⟩
            · exact a1 x hx
          · subst hx
            obtain rfl : m = y := by simpa using hy
            simp only [decide_eq_false_iff_not] at h4
            omega
      · rw [if_neg h2] at h; omega
    · rw [if_neg h1] at h; omega
/-- Binary search over the places from lo up to hi. -/
def bsr (p : Nat → Bool) (lo hi : Nat) : Nat := if _h : lo < hi then (if p ((lo + hi) / 2) then bsr p ((lo + hi) / 2 + 1) hi else bsr p lo ((lo + hi) / 2)) else lo
termination_by hi - lo
theorem bsr_up (p : Nat → Bool) (lo hi : Nat) (h : lo < hi) (hp : p ((lo + hi) / 2) = true) : bsr p lo hi = bsr p ((lo + hi) / 2 + 1) hi := by rw [bsr, dif_pos h, if_pos hp]
theorem bsr_dn (p : Nat → Bool) (lo hi : Nat) (h : lo < hi) (hp : p ((lo + hi) / 2) = false) : bsr p lo hi = bsr p lo ((lo + hi) / 2) := by rw [bsr, dif_pos h, if_neg (by simp [hp])]
theorem bsr_end (p : Nat → Bool) (lo hi : Nat) (h : ¬ lo < hi) : bsr p lo hi = lo := by rw [bsr, dif_neg h]
theorem bsr_spec (p : Nat → Bool) (n : Nat) (hm : ∀ a b, a ≤ b → b < n → p b = true → p a = true) : ∀ (d lo hi : Nat), hi - lo ≤ d → lo ≤ hi → hi ≤ n → (∀ j, j < lo → p j = true) → (∀ j, hi ≤ j → j < n → p j = false) →
    bsr p lo hi ≤ n ∧ (∀ j, j < bsr p lo hi → p j = true) ∧ ∀ j, bsr p lo hi ≤ j → j < n → p j = false := by
  intro d
  induction d with
  | zero =>
    intro lo hi h h1 h2 h3 h4
    rw [bsr_end p lo hi (by omega)]
    exact ⟨by omega, h3, fun j h5 h6 => h4 j (by omega) h6⟩
  | succ d ih =>
    intro lo hi h h1 h2 h3 h4
    by_cases hlt : lo < hi
    · cases hp : p ((lo + hi) / 2) with
      | true =>
        rw [bsr_up p lo hi hlt hp]
        exact ih _ hi (by omega) (by omega) h2 (fun j hj => hm j _ (by omega) (by omega) hp) h4
      | false =>
        rw [bsr_dn p lo hi hlt hp]
        refine ih lo _ (by omega) (by omega) (by omega) h3 (fun j h5 h6 => ?_)
        cases hj : p j with
        | false => rfl
        | true => rw [hm _ j h5 h6 hj] at hp; cases hp
    · rw [bsr_end p lo hi hlt]
      exact ⟨by omega, h3, fun j h5 h6 => h4 j (by omega) h6⟩
def belowM (l : List S64) (st : Int) (m : ByteArray) (h : Nat) : Bool := decide (cmpM (rd_T64 l (h : Int)).f0 (rd_T64 l (h : Int)).f1 st m < 0)
def findM (l : List S64) (st : Int) (m : ByteArray) : Nat := bsr (belowM l st m) 0 l.length
def foundM (l : List S64) (st : Int) (m : ByteArray) : Bool := decide (findM l st m < l.length) && (cmpM (rd_T64 l (findM l st m : Nat)).f0 (rd_T64 l (findM l st m : Nat)).f1 st m == 0)
theorem search_l (ms : List S64) (hL : ms.length ≤ 1000000) (st : Int) (m : ByteArray) (z : Int) : ∀ (d lo hi : Nat), hi - lo ≤ d → lo ≤ hi → hi ≤ ms.length → bsr (belowM ms st m) lo hi = findM ms st m →
    Ev (fun k => api_Move.l0 k ms ms.length lo hi st m z) ((findM ms st m : Int), foundM ms st m) := by
  have hend : ∀ lo hi : Nat, ¬ lo < hi → bsr (belowM ms st m) lo hi = findM ms st m → Ev (fun k => api_Move.l0 k ms ms.length lo hi st m z) ((findM ms st m : Int), foundM ms st m) := by
    intro lo hi h hf
    rw [bsr_end _ _ _ h] at hf
    subst hf
    by_cases c : findM ms st m < ms.length
    · refine Ev.step (f := fun k => (protocol_compare.f k (rd_T64 ms (findM ms st m : Nat)).f0 (rd_T64 ms (findM ms st m : Nat)).f1 (rd_T64 ms (findM ms st m : Nat)).f2 st m z).bind fun t => some (((findM ms st m : Nat) : Int), (t == 0))) (fun k => ?_) (Ev.bind (cmpM_ev _ _ _ _ _ _) ?_)
      · simp only [api_Move.l0]
        rw [if_neg (by omega), if_pos (by omega), if_pos (by omega), if_pos (by omega)]
      · unfold foundM; rw [decide_eq_true c, Bool.true_and]; exact Ev.now _
    · refine Ev.step (f := fun _ => some (((findM ms st m : Nat) : Int), false)) (fun k => ?_) (by unfold foundM; rw [decide_eq_false c, Bool.false_and]; exact Ev.now _)
      simp only [api_Move.l0]
      rw [if_neg (by omega), if_neg (by omega)]
  intro d
  induction d with
  | zero => intro lo hi h h1 h2 hf; exact hend lo hi (by omega) hf
  | succ d ih =>
    intro lo hi h h1 h2 hf
    by_cases hlt : lo < hi
    · have e1 : wrap64 ((IntKind.u64.wrap (wrap64 ((lo : Int) + (hi : Int)))) / 2) = (((lo + hi) / 2 : Nat) : Int) := by
        have wu : ∀ x : Int, IntKind.u64.wrap x = x % 18446744073709551616 := fun x => rfl
        rw [w64 (i := (lo : Int) + hi) (by omega) (by omega), wu, w64 (by omega) (by omega)]; omega
      have e2 : wrap64 ((((lo + hi) / 2 : Nat) : Int) + 1) = (((lo + hi) / 2 + 1 : Nat) : Int) := by rw [w64 (by omega) (by omega)]; rfl
      refine Ev.step (f := fun k => (protocol_compare.f k (rd_T64 ms (((lo + hi) / 2 : Nat) : Int)).f0 (rd_T64 ms (((lo + hi) / 2 : Nat) : Int)).f1 (rd_T64 ms (((lo + hi) / 2 : Nat) : Int)).f2 st m z).bind fun t => (if t < 0 then (api_Move.l0 k ms ms.length (((lo + hi) / 2 + 1 : Nat) : Int) hi st m z) else (api_Move.l0 k ms ms.length lo (((lo + hi) / 2 : Nat) : Int) st m z))) (fun k => ?_) (Ev.bind (cmpM_ev _ _ _ _ _ _) ?_)
      · simp only [api_Move.l0]
        rw [if_pos (by omega), e1, e2, if_pos (by omega), if_pos (by omega)]
      · by_cases hc : cmpM (rd_T64 ms (((lo + hi) / 2 : Nat) : Int)).f0 (rd_T64 ms (((lo + hi) / 2 : Nat) : Int)).f1 st m < 0
        · refine Ev.congr (fun k => by rw [if_pos hc]) (ih _ hi (by omega) (by omega) h2 ?_)
          rw [← hf, bsr_up _ lo hi hlt (decide_eq_true hc)]
        · refine Ev.congr (fun k => by rw [if_neg hc]) (ih lo _ (by omega) (by omega) (by omega) ?_)
          rw [← hf, bsr_dn _ lo hi hlt (decide_eq_false hc)]
    · exact hend lo hi hlt hf
theorem rd_get (ms : List S64) (i : Nat) (h : i < ms.length) : rd_T64 ms (i : Int) = ms[i] := by
  unfold rd_T64
  rw [Int.toNat_natCast, List.getD_eq_getElem?_getD, List.getElem?_eq_getElem h]; rfl
/-- The binary search finds what the search in line finds. -/
theorem find_step (ms : List S64) (ha : Asc ms) (st : Int) (m : ByteArray) : stepL ms st m = if foundM ms st m = true then (rd_T64 ms (findM ms st m : Nat)).f2 else st := by
  have hmono : ∀ a b, a ≤ b → b < ms.length → belowM ms st m b = true → belowM ms st m a = true := by
    intro a b hab hb h
    by_cases e : a = b
    · subst e; exact h
    · unfold belowM at h ⊢
      rw [decide_eq_true_eq] at h ⊢
      rw [rd_get ms b hb] at h
      rw [rd_get ms a (by omega)]
      exact cmpM_trans (ha a b hb (by omega)) h
  obtain ⟨h1, h2, h3⟩ := bsr_spec (belowM ms st m) ms.length hmono _ 0 ms.length (Nat.le_refl _) (Nat.zero_le _) (Nat.le_refl _) (fun j hj => absurd hj (Nat.not_lt_zero _)) (fun j h5 h6 => by omega)
  have hlow : ∀ j (hj : j < findM ms st m), ¬ ((ms[j]'(by have : findM ms st m ≤ ms.length := h1; omega)).f0 = st ∧ (ms[j]'(by have : findM ms st m ≤ ms.length := h1; omega)).f1.toList = m.toList) := by
    intro j hj e
    have hlt : j < ms.length := by have : findM ms st m ≤ ms.length := h1; omega
    have h4 := h2 j hj
    unfold belowM at h4
    rw [decide_eq_true_eq, rd_get ms j hlt, (cmpM_zero _ _ _ _).2 e] at h4
    omega
  by_cases hf : foundM ms st m = true
  · rw [if_pos hf]
    unfold foundM at hf
    simp only [Bool.and_eq_true, decide_eq_true_eq, beq_iff_eq] at hf
    rw [rd_get ms _ hf.1]
    exact stepL_hit st m ms _ hf.1 hlow ((cmpM_zero _ _ _ _).1 (by rw [← rd_get ms _ hf.1]; exact hf.2))
  · rw [if_neg hf]
    refine stepL_miss st m ms (fun j hj e => ?_)
    by_cases c : j < findM ms st m
    · exact hlow j c e
    · have hz : cmpM ms[j].f0 ms[j].f1 st m = 0 := (cmpM_zero _ _ _ _).2 e
      by_cases hje : j = findM ms st m
      · subst hje
        apply hf
        unfold foundM
        rw [decide_eq_true hj, Bool.true_and, rd_get ms _ hj, hz]; rfl
      · have hi : findM ms st m < ms.length := by omega
        have h5 := h3 (findM ms st m) (Nat.le_refl _) hi
        unfold belowM at h5
        rw [decide_eq_false_iff_not, rd_get ms _ hi] at h5
        exact h5 (cmpM_like (ha _ j hj (by omega)) hz)
theorem lstep_ev (c : ByteArray) (ss : List ByteArray) (st er : Int) (ms : List S64) (hL : ms.length ≤ 1000000) (ha : Asc ms) (q : Int) (m : ByteArray) : Ev (fun k => protocol_step.f k c ss st er ms q m) (stepL ms q m) := by
  refine Ev.congr (f := fun k => (api_Move.l0 k ms ms.length ((0 : Nat) : Int) ms.length q m 0).bind fun t => (if t.2 = true then (if 0 ≤ t.1 then (if t.1 < (ms.length : Int) then (some ((rd_T64 ms t.1).f2)) else (none)) else (none)) else (some q))) (fun k => rfl) (Ev.bind (search_l ms hL q m 0 _ 0 ms.length (Nat.le_refl _) (Nat.zero_le _) (Nat.le_refl _) rfl) ?_)
  rw [find_step ms ha q m]
  by_cases hf : foundM ms q m = true
  · have hlt : findM ms q m < ms.length := by unfold foundM at hf; simp only [Bool.and_eq_true, decide_eq_true_eq] at hf; exact hf.1
    rw [if_pos hf]
    exact Ev.congr (fun k => by (try dsimp only); rw [if_pos hf, if_pos (by omega), if_pos (by omega)]) (Ev.now _)
  · rw [if_neg hf]
    exact Ev.congr (fun k => by (try dsimp only); rw [if_neg hf]) (Ev.now _)
theorem awake39 : Ev (fun k => dataflowlaw39_awake.f k) true := Ev.of (k := 100) (fun k => dataflowlaw39_awake.mono k) (by kernel_rfl)
theorem checkF_zero {c : ByteArray} {ss : List ByteArray} {st er : Int} {ms : List S64} (h : checkF c ss st er ms = 0) :
    identS c = true ∧ ss.length ≤ 16 ∧ ms.length ≤ 256 ∧ 0 < ss.length ∧ stF ss ss 0 = 0 ∧ (0 ≤ st ∧ st < (ss.length : Int) ∧ 0 ≤ er ∧ er < (ss.length : Int)) ∧ st ≠ er ∧ mvF ss.length er none ms = 0 := by
  unfold checkF at h
  by_cases h1 : identS c = true
  · rw [if_pos h1] at h
    by_cases h2 : ss.length > 16 ∨ ms.length > 256
    · rw [if_pos h2] at h; omega
    · rw [if_neg h2] at h
      by_cases h3 : ss.length = 0
      · rw [if_pos h3] at h; omega
      · rw [if_neg h3] at h
        by_cases h4 : stF ss ss 0 = 0
        · rw [if_pos h4] at h
          by_cases h5 : 0 ≤ st ∧ st < (ss.length : Int) ∧ 0 ≤ er ∧ er < (ss.length : Int)
          · rw [if_pos h5] at h
            by_cases h6 : st = er
            · rw [if_pos h6] at h; omega
            · rw [if_neg h6] at h; exact ⟨h1, by omega, by omega, by omega, h4, h5, h6, h⟩
          · rw [if_neg h5] at h; omega
        · rw [if_neg h4] at h; exact absurd h h4
  · rw [if_neg h1] at h; omega
end Go.Proofs.YthfhbdncphkdaaaDoor.H

/- The check of a suppression, in plain words: the program's and the reference's say the same. What 'awake' comes to. -/
import Derived.Test.YtnoangbidnigdaaDoorIdent
import Derived.Test.YtnoangbidnigdaaDoorHf8
import Derived.Test.YtnoangbidnigdaaDoorHf9
import Derived.Test.YtnoangbidnigdaaDoorHc
import Derived.Test.YtnoangbidnigdaaDoorHf10
import Derived.Test.YtnoangbidnigdaaDoorHf11
import Derived.Test.YtnoangbidnigdaaDoorHf12
namespace Go.Proofs.YtnoangbidnigdaaDoor.H
open Go.RowKit Go.Proofs.YtnoangbidnigdaaDoorW.PrintWords
set_option linter.unusedVariables false
set_option linter.unusedSimpArgs false

def okB (least : Int) (c : Int) : Bool := decide (least ≤ c ∧ c ≤ 126)
/-- All bytes are from least to 126. -/
def winS (least : Int) (s : ByteArray) : Bool := decide (scan (okB least) s 0 = s.size)
theorem within_l (least : Int) (s : ByteArray) (hs : s.size ≤ 9223372036854775807) : ∀ (d i : Nat), s.size - i = d → i ≤ s.size → Ev (fun k => suppress_within.l0 k s least s.size i) (decide (scan (okB least) s i = s.size)) := by
  intro d
  induction d with
  | zero =>
    intro i h hi
    refine Ev.step (f := fun _ => some true) (fun k => ?_) ?_
    · simp only [suppress_within.l0]; rw [if_neg (by omega)]
    · rw [scan_end _ s i (by omega), decide_eq_true (by omega)]; exact Ev.now _
  | succ d ih =>
    intro i h hi
    have hlt : i < s.size := by omega
    have e1 : wrap64 ((i : Int) + 1) = ((i + 1 : Nat) : Int) := by rw [w64 (by omega) (by omega)]; rfl
    by_cases h1 : bt s i < least
    · have hp : okB least (bt s i) = false := decide_eq_false (by omega)
      refine Ev.step (f := fun _ => some false) (fun k => ?_) ?_
      · simp only [suppress_within.l0]; rw [if_pos (by omega), if_pos (by omega), if_pos (by omega), if_pos h1]
      · rw [scan_no _ s i hlt hp, decide_eq_false (by omega)]; exact Ev.now _
    · by_cases h2 : bt s i > 126
      · have hp : okB least (bt s i) = false := decide_eq_false (by omega)
        refine Ev.step (f := fun _ => some false) (fun k => ?_) ?_
        · simp only [suppress_within.l0]; rw [if_pos (by omega), if_pos (by omega), if_pos (by omega), if_neg h1, if_pos h2]
        · rw [scan_no _ s i hlt hp, decide_eq_false (by omega)]; exact Ev.now _
      · have hp : okB least (bt s i) = true := decide_eq_true (by omega)
        refine Ev.step (fun k => ?_) (by rw [scan_at _ s i hlt hp]; exact ih (i + 1) (by omega) (by omega))
        simp only [suppress_within.l0]; rw [if_pos (by omega), if_pos (by omega), if_pos (by omega), if_neg h1, if_neg h2, e1]
theorem within_ev (least : Int) (s : ByteArray) (hs : s.size ≤ 9223372036854775807) : Ev (fun k => suppress_within.f k s least) (winS least s) := within_l least s hs _ 0 rfl (Nat.zero_le _)
theorem word_l (s : ByteArray) (hs : s.size ≤ 9223372036854775807) : ∀ (d i : Nat), s.size - i = d → i ≤ s.size → Ev (fun k => dataflowref45_Word.l0 k s i) (decide (scan (okB 33) s i = s.size) && decide (1 ≤ s.size ∧ s.size ≤ 32)) := by
  intro d
  induction d with
  | zero =>
    intro i h hi
    rw [scan_end _ s i (by omega), decide_eq_true (by omega : i = s.size), Bool.true_and]
    by_cases h1 : (s.size : Int) ≥ 1
    · refine Ev.step (f := fun _ => some (decide ((s.size : Int) ≤ 32))) (fun k => ?_) ?_
      · simp only [dataflowref45_Word.l0]; rw [if_neg (by omega), if_pos h1]
      · have : decide ((s.size : Int) ≤ 32) = decide (1 ≤ s.size ∧ s.size ≤ 32) := decide_eq_decide.2 (by omega)
        rw [this]; exact Ev.now _
    · refine Ev.step (f := fun _ => some false) (fun k => ?_) ?_
      · simp only [dataflowref45_Word.l0]; rw [if_neg (by omega), if_neg h1]
      · rw [decide_eq_false (by omega)]; exact Ev.now _
  | succ d ih =>
    intro i h hi
    have hlt : i < s.size := by omega
    have e1 : wrap64 ((i : Int) + 1) = ((i + 1 : Nat) : Int) := by rw [w64 (by omega) (by omega)]; rfl
    by_cases h1 : bt s i < 33
    · have hp : okB 33 (bt s i) = false := decide_eq_false (by omega)
      refine Ev.step (f := fun _ => some false) (fun k => ?_) ?_
      · simp only [dataflowref45_Word.l0]; rw [if_pos (by omega), if_pos (by omega), if_pos h1]
      · rw [scan_no _ s i hlt hp, decide_eq_false (by omega : ¬ i = s.size)]; exact Ev.now _
    · by_cases h2 : bt s i > 126
      · have hp : okB 33 (bt s i) = false := decide_eq_false (by omega)
        refine Ev.step (f := fun _ => some false) (fun k => ?_) ?_
        · simp only [dataflowref45_Word.l0]; rw [if_pos (by omega), if_pos (by omega), if_neg h1, if_pos h2]
        · rw [scan_no _ s i hlt hp, decide_eq_false (by omega : ¬ i = s.size)]; exact Ev.now _
      · have hp : okB 33 (bt s i) = true := decide_eq_true (by omega)
        refine Ev.step (fun k => ?_) (by rw [scan_at _ s i hlt hp]; exact ih (i + 1) (by omega) (by omega))
        simp only [dataflowref45_Word.l0]; rw [if_pos (by omega), if_pos (by omega), if_neg h1, if_neg h2, e1]
theorem word_ev (s : ByteArray) (hs : s.size ≤ 9223372036854775807) : Ev (fun k => dataflowref45_Word.f k s) (winS 33 s && decide (1 ≤ s.size ∧ s.size ≤ 32)) := word_l s hs _ 0 rfl (Nat.zero_le _)
theorem reason_l (s : ByteArray) (hs : s.size ≤ 9223372036854775807) : ∀ (d i : Nat), s.size - i = d → i ≤ s.size → Ev (fun k => dataflowref46_reason.l0 k s i) (decide (scan (okB 32) s i = s.size)) := by
  intro d
  induction d with
  | zero =>
    intro i h hi
    refine Ev.step (f := fun _ => some true) (fun k => ?_) ?_
    · simp only [dataflowref46_reason.l0]; rw [if_neg (by omega)]
    · rw [scan_end _ s i (by omega), decide_eq_true (by omega)]; exact Ev.now _
  | succ d ih =>
    intro i h hi
    have hlt : i < s.size := by omega
    have e1 : wrap64 ((i : Int) + 1) = ((i + 1 : Nat) : Int) := by rw [w64 (by omega) (by omega)]; rfl
    by_cases h1 : bt s i < 32
    · have hp : okB 32 (bt s i) = false := decide_eq_false (by omega)
      refine Ev.step (f := fun _ => some false) (fun k => ?_) ?_
      · simp only [dataflowref46_reason.l0]; rw [if_pos (by omega), if_pos (by omega), if_pos h1]
      · rw [scan_no _ s i hlt hp, decide_eq_false (by omega)]; exact Ev.now _
    · by_cases h2 : bt s i > 126
      · have hp : okB 32 (bt s i) = false := decide_eq_false (by omega)
        refine Ev.step (f := fun _ => some false) (fun k => ?_) ?_
        · simp only [dataflowref46_reason.l0]; rw [if_pos (by omega), if_pos (by omega), if_neg h1, if_pos h2]
        · rw [scan_no _ s i hlt hp, decide_eq_false (by omega)]; exact Ev.now _
      · have hp : okB 32 (bt s i) = true := decide_eq_true (by omega)
        refine Ev.step (fun k => ?_) (by rw [scan_at _ s i hlt hp]; exact ih (i + 1) (by omega) (by omega))
        simp only [dataflowref46_reason.l0]; rw [if_pos (by omega), if_pos (by omega), if_neg h1, if_neg h2, e1]
theorem nil_size (s : ByteArray) : s.toList = ([] : List UInt8) ↔ s.size = 0 := by
  rw [Lib.toList_data]
  constructor
  · intro h; have h2 := congrArg List.length h; rw [Array.length_toList] at h2; exact h2
  · intro h; apply List.eq_nil_of_length_eq_zero; rw [Array.length_toList]; exact h
/-- Is a text empty or an identifier? -/
def freeS (s : ByteArray) : Bool := decide (s.toList = ([] : List UInt8)) || identS s
def whatS (s : ByteArray) : Bool := decide (s.size ≤ 32) && (!(s.toList == ([42] : List UInt8)) && winS 33 s)
def reasS (s : ByteArray) : Bool := decide (1 ≤ s.size ∧ s.size ≤ 200) && (winS 32 s && (bt s 0 != 32 && bt s ((s.size : Int) - 1) != 32))
/-- What the check of a suppression says. -/
def chkF (kd : Int) (c m w r : ByteArray) : Int := if kd < 0 ∨ 4 < kd then 12 else if freeS c = true ∧ freeS m = true ∧ whatS w = true then (if reasS r = true then 0 else 23) else 5
theorem freeS_nil {s : ByteArray} (h : s.toList = ([] : List UInt8)) : freeS s = true := by unfold freeS; rw [decide_eq_true h, Bool.true_or]
theorem freeS_ne {s : ByteArray} (h : ¬ s.toList = ([] : List UInt8)) : freeS s = identS s := by unfold freeS; rw [decide_eq_false h, Bool.false_or]
theorem free_ev (s : ByteArray) (hs : s.size ≤ 9223372036854775807) : Ev (fun k => suppress_free.f k s) (freeS s) := by
  by_cases h : s.toList = ([] : List UInt8)
  · rw [freeS_nil h]
    exact Ev.congr (fun k => by unfold suppress_free.f; rw [if_pos h]) (Ev.now _)
  · rw [freeS_ne h]
    exact Ev.congr (f := fun k => (lex_Ident.f k s).bind fun t => some t) (fun k => by unfold suppress_free.f; rw [if_neg h]) (Ev.bind (ident_ev s hs) (Ev.now _))
theorem lj1 (r : ByteArray) (hr : r.size ≤ 9223372036854775807) (b : Bool) : Ev (fun k => suppress_Check.j1 k r b) (if b = true then 5 else if reasS r = true then 0 else 23) := by
  cases b with
  | true => exact Ev.step (f := fun _ => some 5) (fun k => by simp only [suppress_Check.j1]; rw [if_pos trivial]) (Ev.now _)
  | false =>
    rw [if_neg (by simp)]
    unfold reasS
    by_cases h0 : r.toList = ([] : List UInt8)
    · have := (nil_size r).1 h0
      rw [decide_eq_false (by omega : ¬ (1 ≤ r.size ∧ r.size ≤ 200)), Bool.false_and, if_neg (by simp)]
      exact Ev.step (f := fun _ => some 23) (fun k => by simp only [suppress_Check.j1]; rw [if_neg (by simp), if_pos h0]) (Ev.now _)
    · have hne : 0 < r.size := by
        rcases Nat.eq_zero_or_pos r.size with h | h
        · exact absurd ((nil_size r).2 h) h0
        · exact h
      by_cases h1 : (r.size : Int) > 200
      · rw [decide_eq_false (by omega : ¬ (1 ≤ r.size ∧ r.size ≤ 200)), Bool.false_and, if_neg (by simp)]
        exact Ev.step (f := fun _ => some 23) (fun k => by simp only [suppress_Check.j1]; rw [if_neg (by simp), if_neg h0, if_pos h1]) (Ev.now _)
      · rw [decide_eq_true (by omega : 1 ≤ r.size ∧ r.size ≤ 200), Bool.true_and]
        have e1 : wrap64 ((r.size : Int) - 1) = (r.size : Int) - 1 := w64 (by omega) (by omega)
        refine Ev.step (f := fun k => (suppress_within.f k r 32).bind fun t => (if t = true then (if bt r 0 = 32 then some 23 else if bt r ((r.size : Int) - 1) = 32 then some 23 else some 0) else some 23)) (fun k => ?_) (Ev.bind (within_ev 32 r hr) ?_)
        · simp only [suppress_Check.j1]; rw [if_neg (by simp), if_neg h0, if_neg h1, e1]
          simp only [if_pos (show (0 : Int) < (r.size : Int) by omega), if_pos (show (0 : Int) ≤ (r.size : Int) - 1 by omega), if_pos (show (r.size : Int) - 1 < (r.size : Int) by omega)]
        · cases winS 32 r with
          | false => exact Ev.now _
          | true =>
            by_cases h2 : bt r 0 = 32
            · have : (bt r 0 != 32) = false := by simp [h2]
              rw [this]; exact Ev.congr (f := fun _ => some 23) (fun k => by rw [if_pos rfl, if_pos h2]) (Ev.now _)
            · have : (bt r 0 != 32) = true := by simp [h2]
              rw [this]
              by_cases h3 : bt r ((r.size : Int) - 1) = 32
              · have : (bt r ((r.size : Int) - 1) != 32) = false := by simp [h3]
                rw [this]; exact Ev.congr (f := fun _ => some 23) (fun k => by rw [if_pos rfl, if_neg h2, if_pos h3]) (Ev.now _)
              · have : (bt r ((r.size : Int) - 1) != 32) = true := by simp [h3]
                rw [this]; exact Ev.congr (f := fun _ => some 0) (fun k => by rw [if_pos rfl, if_neg h2, if_neg h3]) (Ev.now _)
theorem reason_ev (r : ByteArray) (hr : r.size ≤ 9223372036854775807) : Ev (fun k => dataflowref46_reason.f k r) (reasS r) := by
  have ht : Ev (fun k => dataflowref46_reason.j0 k r true) false := Ev.step (f := fun _ => some false) (fun k => by simp only [dataflowref46_reason.j0]; rw [if_pos trivial]) (Ev.now _)
  have hf : Ev (fun k => dataflowref46_reason.j0 k r false) (winS 32 r) := Ev.step (f := fun k => dataflowref46_reason.l0 k r ((0 : Nat) : Int)) (fun k => by simp only [dataflowref46_reason.j0]; rw [if_neg (by simp)]; rfl) (reason_l r hr _ 0 rfl (Nat.zero_le _))
  unfold reasS
  by_cases h0 : (r.size : Int) < 1
  · rw [decide_eq_false (by omega : ¬ (1 ≤ r.size ∧ r.size ≤ 200)), Bool.false_and]
    exact Ev.congr (fun k => by unfold dataflowref46_reason.f; rw [if_pos h0]) ht
  · by_cases h1 : (r.size : Int) > 200
    · rw [decide_eq_false (by omega : ¬ (1 ≤ r.size ∧ r.size ≤ 200)), Bool.false_and]
      exact Ev.congr (fun k => by unfold dataflowref46_reason.f; rw [if_neg h0, if_pos h1]) ht
    · rw [decide_eq_true (by omega : 1 ≤ r.size ∧ r.size ≤ 200), Bool.true_and]
      have e1 : wrap64 ((r.size : Int) - 1) = (r.size : Int) - 1 := w64 (by omega) (by omega)
      by_cases h2 : bt r 0 = 32
      · have : (bt r 0 != 32) = false := by simp [h2]
        rw [this, Bool.false_and, Bool.and_false]
        exact Ev.congr (fun k => by unfold dataflowref46_reason.f; rw [if_neg h0, if_neg h1, if_pos (by omega), if_pos h2]) ht
      · have : (bt r 0 != 32) = true := by simp [h2]
        rw [this, Bool.true_and]
        refine Ev.congr (f := fun k => dataflowref46_reason.j0 k r (bt r ((r.size : Int) - 1) == 32)) (fun k => by unfold dataflowref46_reason.f; rw [if_neg h0, if_neg h1, if_pos (by omega), if_neg h2, e1, if_pos (by omega), if_pos (by omega)]) ?_
        by_cases h3 : bt r ((r.size : Int) - 1) = 32
        · have e2 : (bt r ((r.size : Int) - 1) == 32) = true := by simp [h3]
          have e3 : (bt r ((r.size : Int) - 1) != 32) = false := by simp [h3]
          rw [e3, Bool.and_false]; simp only [e2]; exact ht
        · have e2 : (bt r ((r.size : Int) - 1) == 32) = false := by simp [h3]
          have e3 : (bt r ((r.size : Int) - 1) != 32) = true := by simp [h3]
          rw [e3, Bool.and_true]; simp only [e2]; exact hf
theorem lCheck_ev (kd : Int) (c m w r : ByteArray) (hc : c.size ≤ 9223372036854775807) (hm : m.size ≤ 9223372036854775807) (hw : w.size ≤ 9223372036854775807) (hr : r.size ≤ 9223372036854775807) : Ev (fun k => suppress_Check.f k kd c m w r) (chkF kd c m w r) := by
  have ht : Ev (fun k => suppress_Check.j0 k r true kd c m w r) 12 := Ev.step (f := fun _ => some 12) (fun k => by simp only [suppress_Check.j0]; rw [if_pos trivial]) (Ev.now _)
  have h5 := lj1 r hr true
  rw [if_pos rfl] at h5
  have h0 := lj1 r hr false
  rw [if_neg (by simp)] at h0
  unfold chkF
  by_cases h1 : kd < 0
  · rw [if_pos (.inl h1)]; exact Ev.congr (fun k => by unfold suppress_Check.f; rw [if_pos h1]) ht
  · by_cases h2 : kd ≥ 5
    · rw [if_pos (.inr (by omega))]; exact Ev.congr (fun k => by unfold suppress_Check.f; rw [if_neg h1, decide_eq_true h2]) ht
    · rw [if_neg (by omega)]
      refine Ev.congr (f := fun k => suppress_Check.j0 k r false kd c m w r) (fun k => by unfold suppress_Check.f; rw [if_neg h1, decide_eq_false h2]) ?_
      refine Ev.step (f := fun k => (suppress_free.f k c).bind fun t => (if t = true then ((suppress_free.f k m).bind fun t2 => (if t2 = true then (if (w.size : Int) > 32 then (suppress_Check.j1 k r true) else (if w.toList = ([42] : List UInt8) then (suppress_Check.j1 k r true) else ((suppress_within.f k w 33).bind fun t3 => (suppress_Check.j1 k r (!t3))))) else (suppress_Check.j1 k r true))) else (suppress_Check.j1 k r true))) (fun k => by simp only [suppress_Check.j0]; rw [if_neg (by simp)]) (Ev.bind (free_ev c hc) ?_)
      cases freeS c with
      | false => rw [if_neg (by simp)]; exact h5
      | true =>
        simp only [if_true]
        refine Ev.bind (free_ev m hm) ?_
        cases freeS m with
        | false => rw [if_neg (by simp)]; exact h5
        | true =>
          simp only [if_true]
          unfold whatS
          by_cases h3 : (w.size : Int) > 32
          · rw [decide_eq_false (by omega : ¬ w.size ≤ 32), if_neg (by simp)]
            exact Ev.congr (fun k => by rw [if_pos h3]) h5
          · rw [decide_eq_true (by omega : w.size ≤ 32)]
            by_cases h4 : w.toList = ([42] : List UInt8)
            · have : (w.toList == ([42] : List UInt8)) = true := by simp [h4]
              rw [this, if_neg (by simp)]
              exact Ev.congr (fun k => by rw [if_neg h3, if_pos h4]) h5
            · have : (w.toList == ([42] : List UInt8)) = false := by simp [h4]
              rw [this]
              refine Ev.congr (f := fun k => (suppress_within.f k w 33).bind fun t3 => (suppress_Check.j1 k r (!t3))) (fun k => by rw [if_neg h3, if_neg h4]) (Ev.bind (within_ev 33 w hw) ?_)
              cases winS 33 w with
              | false => rw [if_neg (by simp)]; exact h5
              | true => rw [if_pos (by simp)]; exact h0
theorem rj1 (kd : Int) (c m w r : ByteArray) (hr : r.size ≤ 9223372036854775807) (b : Bool) : Ev (fun k => dataflowref46_Check.j1 k b kd c m w r) (if b = true then 5 else if reasS r = true then 0 else 23) := by
  cases b with
  | true => exact Ev.step (f := fun _ => some 5) (fun k => by simp only [dataflowref46_Check.j1]; rw [if_pos trivial]) (Ev.now _)
  | false =>
    rw [if_neg (by simp)]
    refine Ev.step (f := fun k => (dataflowref46_reason.f k r).bind fun t => (if t = true then some 0 else some 23)) (fun k => by simp only [dataflowref46_Check.j1]; rw [if_neg (by simp)]) (Ev.bind (reason_ev r hr) ?_)
    cases reasS r <;> exact Ev.now _
theorem rCheck_ev (kd : Int) (c m w r : ByteArray) (hc : c.size ≤ 9223372036854775807) (hm : m.size ≤ 9223372036854775807) (hw : w.size ≤ 9223372036854775807) (hr : r.size ≤ 9223372036854775807) : Ev (fun k => dataflowref46_Check.f k kd c m w r) (chkF kd c m w r) := by
  have ht : Ev (fun k => dataflowref46_Check.j0 k true kd c m w r) 12 := Ev.step (f := fun _ => some 12) (fun k => by simp only [dataflowref46_Check.j0]; rw [if_pos trivial]) (Ev.now _)
  have h5 := rj1 kd c m w r hr true
  rw [if_pos rfl] at h5
  have hB : Ev (fun k => if w.toList = ([] : List UInt8) then (dataflowref46_Check.j1 k (w.toList == ([42] : List UInt8)) kd c m w r) else ((dataflowref45_Word.f k w).bind fun t => (if t = true then (dataflowref46_Check.j1 k (w.toList == ([42] : List UInt8)) kd c m w r) else (dataflowref46_Check.j1 k true kd c m w r)))) (if whatS w = true then (if reasS r = true then 0 else 23) else 5) := by
    have hj := rj1 kd c m w r hr (w.toList == ([42] : List UInt8))
    by_cases h : w.toList = ([] : List UInt8)
    · have hz := (nil_size w).1 h
      have hv : whatS w = true := by
        unfold whatS winS
        rw [h, scan_end _ w 0 (by omega), hz]; decide
      rw [hv, if_pos rfl]
      refine Ev.congr (fun k => by rw [if_pos h]) ?_
      rw [h] at hj ⊢
      simpa using hj
    · have hne : 1 ≤ w.size := by
        rcases Nat.eq_zero_or_pos w.size with h2 | h2
        · exact absurd ((nil_size w).2 h2) h
        · exact h2
      refine Ev.congr (fun k => by rw [if_neg h]) (Ev.bind (word_ev w hw) ?_)
      unfold whatS
      have e : decide (1 ≤ w.size ∧ w.size ≤ 32) = decide (w.size ≤ 32) := decide_eq_decide.2 (by omega)
      rw [e]
      cases h1 : winS 33 w <;> cases h2 : decide (w.size ≤ 32)
      · rw [if_neg (by simp)]; simpa using h5
      · rw [if_neg (by simp)]; simpa using h5
      · rw [if_neg (by simp)]; simpa using h5
      · revert hj
        cases (w.toList == ([42] : List UInt8)) <;> intro hj <;> simpa using hj
  have hA : Ev (fun k => if m.toList = ([] : List UInt8) then (if w.toList = ([] : List UInt8) then (dataflowref46_Check.j1 k (w.toList == ([42] : List UInt8)) kd c m w r) else ((dataflowref45_Word.f k w).bind fun t => (if t = true then (dataflowref46_Check.j1 k (w.toList == ([42] : List UInt8)) kd c m w r) else (dataflowref46_Check.j1 k true kd c m w r)))) else ((dataflowref07_Ident.f k m).bind fun t => (if t = true then (if w.toList = ([] : List UInt8) then (dataflowref46_Check.j1 k (w.toList == ([42] : List UInt8)) kd c m w r) else ((dataflowref45_Word.f k w).bind fun t => (if t = true then (dataflowref46_Check.j1 k (w.toList == ([42] : List UInt8)) kd c m w r) else (dataflowref46_Check.j1 k true kd c m w r)))) else (dataflowref46_Check.j1 k true kd c m w r)))) (if freeS m = true ∧ whatS w = true then (if reasS r = true then 0 else 23) else 5) := by
    by_cases h : m.toList = ([] : List UInt8)
    · rw [freeS_nil h]
      refine Ev.congr (fun k => by rw [if_pos h]) ?_
      simpa using hB
    · rw [freeS_ne h]
      refine Ev.congr (fun k => by rw [if_neg h]) (Ev.bind (rident_ev m hm) ?_)
      cases identS m with
      | false => rw [if_neg (by simp)]; simpa using h5
      | true => simpa using hB
  unfold chkF
  by_cases h1 : kd < 0
  · rw [if_pos (.inl h1)]; exact Ev.congr (fun k => by unfold dataflowref46_Check.f; rw [if_pos h1]) ht
  · by_cases h2 : kd > 4
    · rw [if_pos (.inr (by omega))]; exact Ev.congr (fun k => by unfold dataflowref46_Check.f; rw [if_neg h1, decide_eq_true h2]) ht
    · rw [if_neg (by omega)]
      refine Ev.congr (f := fun k => dataflowref46_Check.j0 k false kd c m w r) (fun k => by unfold dataflowref46_Check.f; rw [if_neg h1, decide_eq_false h2]) ?_
      by_cases h : c.toList = ([] : List UInt8)
      · rw [freeS_nil h]
        refine Ev.step (fun k => ?_) (by simpa using hA)
        simp only [dataflowref46_Check.j0]; rw [if_neg (by simp), if_pos h]
      · rw [freeS_ne h]
        refine Ev.step (f := fun k => (dataflowref07_Ident.f k c).bind fun t => (if t = true then (if m.toList = ([] : List UInt8) then (if w.toList = ([] : List UInt8) then (dataflowref46_Check.j1 k (w.toList == ([42] : List UInt8)) kd c m w r) else ((dataflowref45_Word.f k w).bind fun t => (if t = true then (dataflowref46_Check.j1 k (w.toList == ([42] : List UInt8)) kd c m w r) else (dataflowref46_Check.j1 k true kd c m w r)))) else ((dataflowref07_Ident.f k m).bind fun t => (if t = true then (if w.toList = ([] : List UInt8) then (dataflowref46_Check.j1 k (w.toList == ([42] : List UInt8)) kd c m w r) else ((dataflowref45_Word.f k w).bind fun t => (if t = true then (dataflowref46_Check.j1 k (w.toList == ([42] : List UInt8)) kd c m w r) else (dataflowref46_Check.j1 k true kd c m w r)))) else (dataflowref46_Check.j1 k true kd c m w r)))) else (dataflowref46_Check.j1 k true kd c m w r))) (fun k => ?_) (Ev.bind (rident_ev c hc) ?_)
        · simp only [dataflowref46_Check.j0]; rw [if_neg (by simp), if_neg h]
        · cases identS c with
          | false => rw [if_neg (by simp)]; simpa using h5
          | true => simpa using hA
theorem awake46 : Ev (fun k => dataflowlaw46_awake.f k) true := Ev.of (k := 100) (fun k => dataflowlaw46_awake.mono k) (by kernel_rfl)
theorem fitR_eq (a b : ByteArray) : fitR a b = fitsB a b := by
  unfold fitR fitsB
  by_cases h : a.toList = ([] : List UInt8)
  · rw [if_pos h, h]; rfl
  · rw [if_neg h, beq_eq_false_iff_ne.2 h, Bool.false_or]
theorem match_eq (a0_0 : Int) (a0_1 a0_2 a0_3 a0_4 : ByteArray) (a1_0 : Int) (a1_1 a1_2 : ByteArray) (a1_3 : Int) (a1_4 : ByteArray) (l1_5 : List S25) : dataflowref46_Match.f a0_0 a0_1 a0_2 a0_3 a0_4 a1_0 a1_1 a1_2 a1_3 a1_4 l1_5 = suppress_Match.f a0_0 a0_1 a0_2 a0_3 a0_4 a1_0 a1_1 a1_2 a1_3 a1_4 l1_5 := by
  unfold dataflowref46_Match.f suppress_Match.f
  rw [fitR_eq, fitR_eq, fitR_eq]
end Go.Proofs.YtnoangbidnigdaaDoor.H

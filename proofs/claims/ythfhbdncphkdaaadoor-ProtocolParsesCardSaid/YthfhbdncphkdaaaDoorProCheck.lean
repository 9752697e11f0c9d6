/- The check of a protocol, in plain words: the program's and the reference's say the same. -/
import Derived.Test.YthfhbdncphkdaaaDoorIdent
import Derived.Test.YthfhbdncphkdaaaDoorHc
import Derived.Test.YthfhbdncphkdaaaDoorHe
import Derived.Test.YthfhbdncphkdaaaDoorHb
namespace Go.Proofs.YthfhbdncphkdaaaDoor.H
open Go.RowKit Go.Proofs.YthfhbdncphkdaaaDoorW.PrintWords
set_option linter.unusedVariables false
set_option linter.unusedSimpArgs false

def cmpI (a b : Int) : Int := if a < b then -1 else if a > b then 1 else 0
def cmpS (a b : ByteArray) : Int := if Op.bytesLess a.toList b.toList = true then -1 else if Op.bytesLess b.toList a.toList = true then 1 else 0
/-- How moves compare: by state, then by method. -/
def cmpM (a : Int) (s : ByteArray) (b : Int) (t : ByteArray) : Int := if cmpI a b = 0 then cmpS s t else cmpI a b
theorem cmpI_eq (a b : Int) : cmp_Compare_int.f a b = some (cmpI a b) := by
  unfold cmp_Compare_int.f cmp_isNaN_int.f cmpI
  simp only [bne_self_eq_false, Option.bind_some, Bool.false_eq_true, if_false]
  split
  · rfl
  · split <;> rfl
theorem cmpS_eq (a b : ByteArray) : cmp_Compare_string.f a b = some (cmpS a b) := by
  unfold cmp_Compare_string.f cmp_isNaN_string.f cmpS
  simp only [bne_self_eq_false, Option.bind_some, Bool.false_eq_true, if_false]
  split
  · rfl
  · split <;> rfl
theorem cmpM_eq (a : Int) (s : ByteArray) (z : Int) (b : Int) (t : ByteArray) (y : Int) : protocol_compare.f 4 a s z b t y = some (cmpM a s b t) := by
  unfold protocol_compare.f
  rw [cmpI_eq, cmpS_eq]
  simp only [Option.bind_some]
  generalize hu : cmpI a b = u
  generalize hv : cmpS s t = v
  have e : cmp_Or_int.f 4 [u, v] = some (if u = 0 then v else u) := by
    unfold cmp_Or_int.f
    simp only [cmp_Or_int.l0, List.length_cons, List.length_nil]
    by_cases h : u = 0
    · subst h
      by_cases h2 : v = 0
      · subst h2; simp [rd, wrap64]
      · simp [rd, wrap64, h2]
    · simp [rd, wrap64, h]
  rw [e]
  unfold cmpM
  rw [hu, hv]; rfl
theorem cmpM_ev (a : Int) (s : ByteArray) (z : Int) (b : Int) (t : ByteArray) (y : Int) : Ev (fun k => protocol_compare.f k a s z b t y) (cmpM a s b t) := Ev.of (k := 4) (fun k => protocol_compare.mono _ _ _ _ _ _ k) (cmpM_eq a s z b t y)
/-- The index of a word, counted from i, or -1. -/
def idxF (s : ByteArray) : List ByteArray → Nat → Int
  | [], _ => -1
  | x :: r, i => if x.toList = s.toList then (i : Int) else idxF s r (i + 1)
theorem idxF_range (s : ByteArray) : ∀ (l : List ByteArray) (i : Nat), idxF s l i = -1 ∨ ((i : Int) ≤ idxF s l i ∧ idxF s l i < ((i + l.length : Nat) : Int)) := by
  intro l
  induction l with
  | nil => intro i; exact .inl rfl
  | cons x r ih =>
    intro i
    unfold idxF
    split
    · right; simp only [List.length_cons]; omega
    · rcases ih (i + 1) with h | h
      · exact .inl h
      · right; simp only [List.length_cons] at *; omega
theorem rdS_drop (L : List ByteArray) (i : Nat) (t : ByteArray) (r : List ByteArray) (h : L.drop i = t :: r) : rdOf ByteArray.empty L (i : Int) = t ∧ i < L.length ∧ L.drop (i + 1) = r := by
  have hlt : i < L.length := by
    by_cases c : i < L.length
    · exact c
    · rw [List.drop_of_length_le (by omega)] at h; cases h
  rw [List.drop_eq_getElem_cons hlt] at h
  injection h with h1 h2
  refine ⟨?_, hlt, h2⟩
  unfold rdOf
  rw [Int.toNat_natCast, List.getD_eq_getElem?_getD, List.getElem?_eq_getElem hlt, h1]; rfl
theorem rdM_drop (L : List S64) (i : Nat) (t : S64) (r : List S64) (h : L.drop i = t :: r) : rd_T64 L (i : Int) = t ∧ i < L.length ∧ L.drop (i + 1) = r := by
  have hlt : i < L.length := by
    by_cases c : i < L.length
    · exact c
    · rw [List.drop_of_length_le (by omega)] at h; cases h
  rw [List.drop_eq_getElem_cons hlt] at h
  injection h with h1 h2
  refine ⟨?_, hlt, h2⟩
  unfold rd_T64
  rw [Int.toNat_natCast, List.getD_eq_getElem?_getD, List.getElem?_eq_getElem hlt, h1]; rfl
theorem drop_end {α : Type} (L : List α) (i : Nat) (h : L.drop i = []) : L.length ≤ i := by
  by_cases c : i < L.length
  · rw [List.drop_eq_getElem_cons c] at h; cases h
  · omega
theorem lindex_l (s : ByteArray) (L : List ByteArray) (hL : L.length ≤ 1000000) : ∀ (l : List ByteArray) (i : Nat), L.drop i = l → Ev (fun k => slices_Index_string_string.l0 k L s L.length i) (idxF s l i) := by
  intro l
  induction l with
  | nil =>
    intro i h
    have := drop_end L i h
    refine Ev.step (f := fun _ => some (-1)) (fun k => ?_) (Ev.now _)
    simp only [slices_Index_string_string.l0]; rw [if_neg (by omega)]
  | cons x r ih =>
    intro i h
    obtain ⟨h1, h2, h3⟩ := rdS_drop L i x r h
    unfold idxF
    by_cases c : x.toList = s.toList
    · rw [if_pos c]
      refine Ev.step (f := fun _ => some (i : Int)) (fun k => ?_) (Ev.now _)
      simp only [slices_Index_string_string.l0]; rw [if_pos (by omega), if_pos (by omega), if_pos (by omega), h1, if_pos c.symm]
    · rw [if_neg c]
      refine Ev.step (fun k => ?_) (ih (i + 1) h3)
      simp only [slices_Index_string_string.l0]; rw [if_pos (by omega), if_pos (by omega), if_pos (by omega), h1, if_neg (fun e => c e.symm), w64 (by omega) (by omega)]; rfl
theorem lcont_ev (s : ByteArray) (L : List ByteArray) (hL : L.length ≤ 1000000) : Ev (fun k => slices_Contains_string_string.f k L s) (decide (idxF s L 0 ≥ 0)) :=
  Ev.congr (f := fun k => (slices_Index_string_string.l0 k L s L.length ((0 : Nat) : Int)).bind fun t => some (decide (t ≥ 0))) (fun k => rfl) (Ev.bind (lindex_l s L hL L 0 rfl) (Ev.now _))
theorem rat_l (s : ByteArray) (L : List ByteArray) (hL : L.length ≤ 1000000) : ∀ (l : List ByteArray) (i : Nat), L.drop i = l → Ev (fun k => dataflowref39_at.l0 k L s i) (idxF s l i) := by
  intro l
  induction l with
  | nil =>
    intro i h
    have := drop_end L i h
    refine Ev.step (f := fun _ => some (-1)) (fun k => ?_) (Ev.now _)
    simp only [dataflowref39_at.l0]; rw [if_neg (by omega)]
  | cons x r ih =>
    intro i h
    obtain ⟨h1, h2, h3⟩ := rdS_drop L i x r h
    unfold idxF
    by_cases c : x.toList = s.toList
    · rw [if_pos c]
      refine Ev.step (f := fun _ => some (i : Int)) (fun k => ?_) (Ev.now _)
      simp only [dataflowref39_at.l0]; rw [if_pos (by omega), if_pos (by omega), h1, if_pos c]
    · rw [if_neg c]
      refine Ev.step (fun k => ?_) (ih (i + 1) h3)
      simp only [dataflowref39_at.l0]; rw [if_pos (by omega), if_pos (by omega), h1, if_neg c, w64 (by omega) (by omega)]; rfl
theorem rat_ev (s : ByteArray) (L : List ByteArray) (hL : L.length ≤ 1000000) : Ev (fun k => dataflowref39_at.f k L s) (idxF s L 0) := rat_l s L hL L 0 rfl
/-- The error of the states. -/
def stF (ss : List ByteArray) : List ByteArray → Nat → Int
  | [], _ => 0
  | x :: r, i => if identS x = true then (if 0 ≤ idxF x (ss.take i) 0 then 7 else stF ss r (i + 1)) else 5
theorem lstates_l (ss : List ByteArray) (hs : ∀ x ∈ ss, x.size ≤ 9223372036854775807) (hL : ss.length ≤ 1000) : ∀ (l : List ByteArray) (i : Nat), ss.drop i = l → Ev (fun k => protocol_checkStates.l0 k ss ss ss.length i) (stF ss l i) := by
  intro l
  induction l with
  | nil =>
    intro i h
    have := drop_end ss i h
    refine Ev.step (f := fun _ => some 0) (fun k => ?_) (Ev.now _)
    simp only [protocol_checkStates.l0]; rw [if_neg (by omega)]
  | cons x r ih =>
    intro i h
    obtain ⟨h1, h2, h3⟩ := rdS_drop ss i x r h
    have hx : x.size ≤ 9223372036854775807 := hs x (List.mem_of_mem_drop (by rw [h]; exact List.mem_cons_self))
    refine Ev.step (f := fun k => (lex_Ident.f k x).bind fun t => (if t = true then ((slices_Contains_string_string.f k (ss.take i) x).bind fun t2 => (if t2 = true then (some 7) else (protocol_checkStates.l0 k ss ss ss.length ((i + 1 : Nat) : Int)))) else (some 5))) (fun k => ?_) (Ev.bind (ident_ev x hx) ?_)
    · simp only [protocol_checkStates.l0]
      rw [if_pos (by omega), if_pos (by omega), if_pos (by omega), h1, if_pos (by omega), Int.toNat_natCast, w64 (by omega) (by omega)]; rfl
    · unfold stF
      cases identS x with
      | false => exact Ev.now _
      | true =>
        simp only [if_true]
        refine Ev.bind (lcont_ev x (ss.take i) (by rw [List.length_take]; omega)) ?_
        by_cases c : 0 ≤ idxF x (ss.take i) 0
        · rw [if_pos c, decide_eq_true (show idxF x (ss.take i) 0 ≥ 0 from c)]; exact Ev.now _
        · rw [if_neg c, decide_eq_false (show ¬ idxF x (ss.take i) 0 ≥ 0 from c)]; exact ih (i + 1) h3
/-- The error of the moves. -/
def mvF (n er : Int) : Option S64 → List S64 → Int
  | _, [] => 0
  | pr, m :: r =>
    if 0 ≤ m.f0 ∧ m.f0 < n ∧ 0 ≤ m.f2 ∧ m.f2 < n then
      if identS m.f1 = true then
        if m.f0 = er then 22
        else if (match pr with | none => false | some x => decide (0 ≤ cmpM x.f0 x.f1 m.f0 m.f1)) = true then 13
        else mvF n er (some m) r
      else 5
    else 4
def prevM (L : List S64) (i : Nat) : Option S64 := if i = 0 then none else some (rd_T64 L ((i - 1 : Nat) : Int))
theorem in_eq (c : ByteArray) (ss : List ByteArray) (st er : Int) (ms : List S64) (q : Int) : protocol_in.f c ss st er ms q = some (decide (0 ≤ q ∧ q < (ss.length : Int))) := by
  unfold protocol_in.f
  by_cases h : q ≥ 0
  · rw [if_pos h]; simp [h]
  · rw [if_neg h]; simp; omega
theorem prevM_next (L : List S64) (i : Nat) : prevM L (i + 1) = some (rd_T64 L (i : Int)) := by unfold prevM; rw [if_neg (by omega)]; rfl
theorem lmoves_l (c : ByteArray) (ss : List ByteArray) (st er : Int) (ms : List S64) (hs : ∀ x ∈ ms, x.f1.size ≤ 9223372036854775807) (hL : ms.length ≤ 1000) :
    ∀ (l : List S64) (i : Nat), ms.drop i = l → Ev (fun k => protocol_checkMoves.l0 k ms ms.length i c ss st er ms) (mvF ss.length er (prevM ms i) l) := by
  intro l
  induction l with
  | nil =>
    intro i h
    have := drop_end ms i h
    refine Ev.step (f := fun _ => some 0) (fun k => ?_) (Ev.now _)
    simp only [protocol_checkMoves.l0]; rw [if_neg (by omega)]
  | cons m r ih =>
    intro i h
    obtain ⟨h1, h2, h3⟩ := rdM_drop ms i m r h
    have hx : m.f1.size ≤ 9223372036854775807 := hs m (List.mem_of_mem_drop (by rw [h]; exact List.mem_cons_self))
    have hn := ih (i + 1) h3
    rw [prevM_next, h1] at hn
    have w2 : wrap64 ((i : Int) + 1) = ((i + 1 : Nat) : Int) := by rw [w64 (by omega) (by omega)]; rfl
    have j : ∀ b : Bool, Ev (fun k => protocol_checkMoves.j1 k i ms ms.length i b c ss st er ms m.f0 m.f1 m.f2) (if b = true then 4 else if identS m.f1 = true then (if m.f0 = er then 22 else if (match prevM ms i with | none => false | some x => decide (0 ≤ cmpM x.f0 x.f1 m.f0 m.f1)) = true then 13 else mvF ss.length er (some m) r) else 5) := by
      intro b
      cases b with
      | true => exact Ev.step (f := fun _ => some 4) (fun k => by simp only [protocol_checkMoves.j1]; rw [if_pos trivial]) (Ev.now _)
      | false =>
        simp only [Bool.false_eq_true, if_false]
        by_cases hi : i = 0
        · subst hi
          refine Ev.step (f := fun k => (lex_Ident.f k m.f1).bind fun t => (if t = true then (if m.f0 = er then (some 22) else (protocol_checkMoves.l0 k ms ms.length ((0 + 1 : Nat) : Int) c ss st er ms)) else (some 5))) (fun k => ?_) (Ev.bind (ident_ev m.f1 hx) ?_)
          · simp only [protocol_checkMoves.j1]
            rw [if_neg (by simp), if_neg (show ¬ (((0 : Nat) : Int) > 0) by omega), w2]
          · cases identS m.f1 with
            | false => exact Ev.now _
            | true =>
              simp only [if_true]
              by_cases he : m.f0 = er
              · rw [if_pos he]; exact Ev.congr (fun k => by rw [if_pos he]) (Ev.now _)
              · rw [if_neg he, if_neg (by simp [prevM])]
                exact Ev.congr (fun k => by rw [if_neg he]) hn
        · have w1 : wrap64 ((i : Int) - 1) = ((i - 1 : Nat) : Int) := by rw [w64 (by omega) (by omega)]; omega
          have hp : prevM ms i = some (rd_T64 ms ((i - 1 : Nat) : Int)) := by unfold prevM; rw [if_neg hi]
          rw [hp]
          obtain ⟨p, hpp⟩ : ∃ p, rd_T64 ms ((i - 1 : Nat) : Int) = p := ⟨_, rfl⟩
          rw [hpp]
          refine Ev.step (f := fun k => (lex_Ident.f k m.f1).bind fun t => (if t = true then (if m.f0 = er then (some 22) else ((protocol_compare.f k p.f0 p.f1 p.f2 m.f0 m.f1 m.f2).bind fun t2 => (if t2 ≥ 0 then (some 13) else (protocol_checkMoves.l0 k ms ms.length ((i + 1 : Nat) : Int) c ss st er ms)))) else (some 5))) (fun k => ?_) (Ev.bind (ident_ev m.f1 hx) ?_)
          · simp only [protocol_checkMoves.j1]
            rw [if_neg (by simp), if_pos (show (i : Int) > 0 by omega), w1, if_pos (show (0 : Int) ≤ ((i - 1 : Nat) : Int) by omega), if_pos (show ((i - 1 : Nat) : Int) < (ms.length : Int) by omega), hpp, w2]
          · cases identS m.f1 with
            | false => exact Ev.now _
            | true =>
              simp only [if_true]
              by_cases he : m.f0 = er
              · rw [if_pos he]; exact Ev.congr (fun k => by rw [if_pos he]) (Ev.now _)
              · rw [if_neg he]
                refine Ev.congr (fun k => by rw [if_neg he]) (Ev.bind (cmpM_ev p.f0 p.f1 p.f2 m.f0 m.f1 m.f2) ?_)
                by_cases hc : 0 ≤ cmpM p.f0 p.f1 m.f0 m.f1
                · rw [if_pos (decide_eq_true hc)]; exact Ev.congr (fun k => by rw [if_pos hc]) (Ev.now _)
                · rw [if_neg (by simpa using hc)]; exact Ev.congr (fun k => by rw [if_neg hc]) hn
    have hin : ∀ P : Prop, [Decidable P] → (P ↔ ¬ (0 ≤ m.f0 ∧ m.f0 < (ss.length : Int) ∧ 0 ≤ m.f2 ∧ m.f2 < (ss.length : Int))) → Ev (fun k => protocol_checkMoves.j1 k i ms ms.length i (decide P) c ss st er ms m.f0 m.f1 m.f2) (mvF ss.length er (prevM ms i) (m :: r)) := by
      intro P _ hP
      have := j (decide P)
      unfold mvF
      by_cases hp : P
      · rw [if_neg (hP.1 hp)]; rw [decide_eq_true hp] at this ⊢; simpa using this
      · rw [if_pos (Classical.not_not.1 (fun h => hp (hP.2 h)))]; rw [decide_eq_false hp] at this ⊢; simpa using this
    by_cases c0 : 0 ≤ m.f0 ∧ m.f0 < (ss.length : Int)
    · refine Ev.step (f := fun k => protocol_checkMoves.j1 k i ms ms.length i (decide (¬ (0 ≤ m.f2 ∧ m.f2 < (ss.length : Int)))) c ss st er ms m.f0 m.f1 m.f2) (fun k => ?_) (hin _ (by omega))
      simp only [protocol_checkMoves.l0]
      rw [if_pos (by omega), if_pos (by omega), if_pos (by omega), h1, in_eq, in_eq]
      simp only [Option.bind_some]
      rw [if_pos (decide_eq_true c0), decide_not]
    · refine Ev.step (f := fun k => protocol_checkMoves.j1 k i ms ms.length i (decide True) c ss st er ms m.f0 m.f1 m.f2) (fun k => ?_) (hin _ (by simp; omega))
      simp only [protocol_checkMoves.l0]
      rw [if_pos (by omega), if_pos (by omega), if_pos (by omega), h1, in_eq]
      simp only [Option.bind_some]
      rw [if_neg (by simpa using c0)]; rfl
theorem rmoves_l (c : ByteArray) (ss : List ByteArray) (st er : Int) (ms : List S64) (hs : ∀ x ∈ ms, x.f1.size ≤ 9223372036854775807) (hL : ms.length ≤ 1000) :
    ∀ (l : List S64) (i : Nat), ms.drop i = l → Ev (fun k => dataflowref39_moves.l0 k i c ss st er ms) (mvF ss.length er (prevM ms i) l) := by
  intro l
  induction l with
  | nil =>
    intro i h
    have := drop_end ms i h
    refine Ev.step (f := fun _ => some 0) (fun k => ?_) (Ev.now _)
    simp only [dataflowref39_moves.l0]; rw [if_neg (by omega)]
  | cons m r ih =>
    intro i h
    obtain ⟨h1, h2, h3⟩ := rdM_drop ms i m r h
    have hx : m.f1.size ≤ 9223372036854775807 := hs m (List.mem_of_mem_drop (by rw [h]; exact List.mem_cons_self))
    have hn := ih (i + 1) h3
    rw [prevM_next, h1] at hn
    have w2 : wrap64 ((i : Int) + 1) = ((i + 1 : Nat) : Int) := by rw [w64 (by omega) (by omega)]; rfl
    have j : ∀ b : Bool, Ev (fun k => dataflowref39_moves.j1 k i b c ss st er ms m.f0 m.f1 m.f2) (if b = true then 4 else if identS m.f1 = true then (if m.f0 = er then 22 else if (match prevM ms i with | none => false | some x => decide (0 ≤ cmpM x.f0 x.f1 m.f0 m.f1)) = true then 13 else mvF ss.length er (some m) r) else 5) := by
      intro b
      cases b with
      | true => exact Ev.step (f := fun _ => some 4) (fun k => by simp only [dataflowref39_moves.j1]; rw [if_pos trivial]) (Ev.now _)
      | false =>
        simp only [Bool.false_eq_true, if_false]
        by_cases hi : i = 0
        · subst hi
          refine Ev.step (f := fun k => (dataflowref07_Ident.f k m.f1).bind fun t => (if t = true then (if m.f0 = er then (some 22) else (dataflowref39_moves.l0 k ((0 + 1 : Nat) : Int) c ss st er ms)) else (some 5))) (fun k => ?_) (Ev.bind (rident_ev m.f1 hx) ?_)
          · simp only [dataflowref39_moves.j1]
            rw [if_neg (by simp), if_neg (show ¬ (((0 : Nat) : Int) > 0) by omega), w2]
          · cases identS m.f1 with
            | false => exact Ev.now _
            | true =>
              simp only [if_true]
              by_cases he : m.f0 = er
              · rw [if_pos he]; exact Ev.congr (fun k => by rw [if_pos he]) (Ev.now _)
              · rw [if_neg he, if_neg (by simp [prevM])]
                exact Ev.congr (fun k => by rw [if_neg he]) hn
        · have w1 : wrap64 ((i : Int) - 1) = ((i - 1 : Nat) : Int) := by rw [w64 (by omega) (by omega)]; omega
          have hp : prevM ms i = some (rd_T64 ms ((i - 1 : Nat) : Int)) := by unfold prevM; rw [if_neg hi]
          rw [hp]
          obtain ⟨p, hpp⟩ : ∃ p, rd_T64 ms ((i - 1 : Nat) : Int) = p := ⟨_, rfl⟩
          rw [hpp]
          refine Ev.step (f := fun k => (dataflowref07_Ident.f k m.f1).bind fun t => (if t = true then (if m.f0 = er then (some 22) else (if p.f0 > m.f0 then (some 13) else (if p.f0 = m.f0 then (if Op.bytesLess p.f1.toList m.f1.toList = true then (dataflowref39_moves.l0 k ((i + 1 : Nat) : Int) c ss st er ms) else (some 13)) else (dataflowref39_moves.l0 k ((i + 1 : Nat) : Int) c ss st er ms)))) else (some 5))) (fun k => ?_) (Ev.bind (rident_ev m.f1 hx) ?_)
          · simp only [dataflowref39_moves.j1]
            rw [if_neg (by simp), if_pos (show (i : Int) > 0 by omega), w1, if_pos (show (0 : Int) ≤ ((i - 1 : Nat) : Int) by omega), if_pos (show ((i - 1 : Nat) : Int) < (ms.length : Int) by omega), hpp, w2]
          · cases identS m.f1 with
            | false => exact Ev.now _
            | true =>
              simp only [if_true]
              by_cases he : m.f0 = er
              · rw [if_pos he]; exact Ev.congr (fun k => by rw [if_pos he]) (Ev.now _)
              · rw [if_neg he]
                refine Ev.congr (f := fun k => (if p.f0 > m.f0 then (some 13) else (if p.f0 = m.f0 then (if Op.bytesLess p.f1.toList m.f1.toList = true then (dataflowref39_moves.l0 k ((i + 1 : Nat) : Int) c ss st er ms) else (some 13)) else (dataflowref39_moves.l0 k ((i + 1 : Nat) : Int) c ss st er ms)))) (fun k => by rw [if_neg he]) ?_
                by_cases hgt : p.f0 > m.f0
                · have hc : 0 ≤ cmpM p.f0 p.f1 m.f0 m.f1 := by
                    have e1 : cmpI p.f0 m.f0 = 1 := by unfold cmpI; rw [if_neg (by omega), if_pos hgt]
                    unfold cmpM; rw [e1, if_neg (by omega)]; omega
                  rw [if_pos (decide_eq_true hc)]; exact Ev.congr (fun k => by rw [if_pos hgt]) (Ev.now _)
                · by_cases heq : p.f0 = m.f0
                  · have e1 : cmpI p.f0 m.f0 = 0 := by unfold cmpI; rw [if_neg (by omega), if_neg hgt]
                    by_cases hb : Op.bytesLess p.f1.toList m.f1.toList = true
                    · have hc : ¬ 0 ≤ cmpM p.f0 p.f1 m.f0 m.f1 := by unfold cmpM cmpS; rw [e1, if_pos rfl, if_pos hb]; omega
                      rw [if_neg (by simpa using hc)]; exact Ev.congr (fun k => by rw [if_neg hgt, if_pos heq, if_pos hb]) hn
                    · have hc : 0 ≤ cmpM p.f0 p.f1 m.f0 m.f1 := by unfold cmpM cmpS; rw [e1, if_pos rfl, if_neg hb]; split <;> omega
                      rw [if_pos (decide_eq_true hc)]; exact Ev.congr (fun k => by rw [if_neg hgt, if_pos heq, if_neg hb]) (Ev.now _)
                  · have hc : ¬ 0 ≤ cmpM p.f0 p.f1 m.f0 m.f1 := by
                      have e1 : cmpI p.f0 m.f0 = -1 := by unfold cmpI; rw [if_pos (by omega)]
                      unfold cmpM; rw [e1, if_neg (by omega)]; omega
                    rw [if_neg (by simpa using hc)]; exact Ev.congr (fun k => by rw [if_neg hgt, if_neg heq]) hn
    have hin : ∀ P : Prop, [Decidable P] → (P ↔ ¬ (0 ≤ m.f0 ∧ m.f0 < (ss.length : Int) ∧ 0 ≤ m.f2 ∧ m.f2 < (ss.length : Int))) → Ev (fun k => dataflowref39_moves.j1 k i (decide P) c ss st er ms m.f0 m.f1 m.f2) (mvF ss.length er (prevM ms i) (m :: r)) := by
      intro P _ hP
      have := j (decide P)
      unfold mvF
      by_cases hp : P
      · rw [if_neg (hP.1 hp)]; rw [decide_eq_true hp] at this ⊢; simpa using this
      · rw [if_pos (Classical.not_not.1 (fun h => hp (hP.2 h)))]; rw [decide_eq_false hp] at this ⊢; simpa using this
    by_cases c0 : m.f0 < 0
    · refine Ev.step (f := fun k => dataflowref39_moves.j1 k i (decide True) c ss st er ms m.f0 m.f1 m.f2) (fun k => ?_) (hin _ (by simp; omega))
      simp only [dataflowref39_moves.l0]
      rw [if_pos (by omega), if_pos (by omega), h1, if_pos c0]; rfl
    · by_cases c1 : m.f0 ≥ (ss.length : Int)
      · refine Ev.step (f := fun k => dataflowref39_moves.j1 k i (decide True) c ss st er ms m.f0 m.f1 m.f2) (fun k => ?_) (hin _ (by simp; omega))
        simp only [dataflowref39_moves.l0]
        rw [if_pos (by omega), if_pos (by omega), h1, if_neg c0, if_pos c1]; rfl
      · by_cases c2 : m.f2 < 0
        · refine Ev.step (f := fun k => dataflowref39_moves.j1 k i (decide True) c ss st er ms m.f0 m.f1 m.f2) (fun k => ?_) (hin _ (by simp; omega))
          simp only [dataflowref39_moves.l0]
          rw [if_pos (by omega), if_pos (by omega), h1, if_neg c0, if_neg c1, if_pos c2]; rfl
        · refine Ev.step (f := fun k => dataflowref39_moves.j1 k i (decide (m.f2 ≥ (ss.length : Int))) c ss st er ms m.f0 m.f1 m.f2) (fun k => ?_) (hin _ (by omega))
          simp only [dataflowref39_moves.l0]
          rw [if_pos (by omega), if_pos (by omega), h1, if_neg c0, if_neg c1, if_neg c2]
/-- The error of a protocol, or 0. -/
def checkF (c : ByteArray) (ss : List ByteArray) (st er : Int) (ms : List S64) : Int :=
  if identS c = true then
    if ss.length > 16 ∨ ms.length > 256 then 3
    else if ss.length = 0 then 4
    else if stF ss ss 0 = 0 then
      (if 0 ≤ st ∧ st < (ss.length : Int) ∧ 0 ≤ er ∧ er < (ss.length : Int) then (if st = er then 1 else mvF ss.length er none ms) else 4)
    else stF ss ss 0
  else 5
def GoodP (c : ByteArray) (ss : List ByteArray) (ms : List S64) : Prop := c.size ≤ 9223372036854775807 ∧ (∀ x ∈ ss, x.size ≤ 9223372036854775807) ∧ ∀ x ∈ ms, x.f1.size ≤ 9223372036854775807
theorem lcheck_ev (c : ByteArray) (ss : List ByteArray) (st er : Int) (ms : List S64) (hg : GoodP c ss ms) : Ev (fun k => protocol_Check.f k c ss st er ms) (checkF c ss st er ms) := by
  obtain ⟨g1, g2, g3⟩ := hg
  have hj1 : ss.length ≤ 16 → ms.length ≤ 256 → ∀ b : Bool, Ev (fun k => protocol_Check.j1 k b c ss st er ms) (if b = true then 4 else if st = er then 1 else mvF ss.length er none ms) := by
    intro l1 l2 b
    cases b with
    | true => exact Ev.step (f := fun _ => some 4) (fun k => by simp only [protocol_Check.j1]; rw [if_pos trivial]) (Ev.now _)
    | false =>
      simp only [Bool.false_eq_true, if_false]
      by_cases h : st = er
      · rw [if_pos h]; exact Ev.step (f := fun _ => some 1) (fun k => by simp only [protocol_Check.j1]; rw [if_neg (by simp), if_pos h]) (Ev.now _)
      · rw [if_neg h]
        exact Ev.step (f := fun k => (protocol_checkMoves.l0 k ms ms.length ((0 : Nat) : Int) c ss st er ms).bind fun t => some t) (fun k => by simp only [protocol_Check.j1]; rw [if_neg (by simp), if_neg h]; rfl) (Ev.bind (lmoves_l c ss st er ms g3 (by omega) ms 0 rfl) (Ev.now _))
  have hj0 : ∀ b : Bool, (b = false → ss.length ≤ 16 ∧ ms.length ≤ 256) → Ev (fun k => protocol_Check.j0 k b c ss st er ms) (if b = true then 3 else if ss.length = 0 then 4 else if stF ss ss 0 = 0 then (if 0 ≤ st ∧ st < (ss.length : Int) ∧ 0 ≤ er ∧ er < (ss.length : Int) then (if st = er then 1 else mvF ss.length er none ms) else 4) else stF ss ss 0) := by
    intro b hb
    cases b with
    | true => exact Ev.step (f := fun _ => some 3) (fun k => by simp only [protocol_Check.j0]; rw [if_pos trivial]) (Ev.now _)
    | false =>
      obtain ⟨l1, l2⟩ := hb rfl
      simp only [Bool.false_eq_true, if_false]
      by_cases h0 : ss.length = 0
      · rw [if_pos h0]; exact Ev.step (f := fun _ => some 4) (fun k => by simp only [protocol_Check.j0]; rw [if_neg (by simp), if_pos (by omega)]) (Ev.now _)
      · rw [if_neg h0]
        refine Ev.step (f := fun k => (protocol_checkStates.l0 k ss ss ss.length ((0 : Nat) : Int)).bind fun t => (if t = 0 then (if (decide (0 ≤ st ∧ st < (ss.length : Int))) = true then (protocol_Check.j1 k (!(decide (0 ≤ er ∧ er < (ss.length : Int)))) c ss st er ms) else (protocol_Check.j1 k true c ss st er ms)) else (some t))) (fun k => ?_) (Ev.bind (lstates_l ss g2 (by omega) ss 0 rfl) ?_)
        · simp only [protocol_Check.j0]
          rw [if_neg (by simp), if_neg (by omega), in_eq, in_eq]
          simp only [Option.bind_some]; rfl
        · by_cases hs : stF ss ss 0 = 0
          · rw [if_pos hs]
            by_cases c1 : 0 ≤ st ∧ st < (ss.length : Int)
            · refine Ev.congr (f := fun k => protocol_Check.j1 k (!(decide (0 ≤ er ∧ er < (ss.length : Int)))) c ss st er ms) (fun k => by rw [if_pos hs, if_pos (decide_eq_true c1)]) ?_
              have := hj1 l1 l2 (!(decide (0 ≤ er ∧ er < (ss.length : Int))))
              by_cases c2 : 0 ≤ er ∧ er < (ss.length : Int)
              · rw [if_pos ⟨c1.1, c1.2, c2.1, c2.2⟩]; rw [decide_eq_true c2] at this ⊢; simpa using this
              · rw [if_neg (by omega)]; rw [decide_eq_false c2] at this ⊢; simpa using this
            · rw [if_neg (by omega)]
              refine Ev.congr (f := fun k => protocol_Check.j1 k true c ss st er ms) (fun k => by rw [if_pos hs, if_neg (by simpa using c1)]) ?_
              simpa using hj1 l1 l2 true
          · rw [if_neg hs]; exact Ev.congr (fun k => by rw [if_neg hs]) (Ev.now _)
  unfold checkF
  refine Ev.congr (f := fun k => (lex_Ident.f k c).bind fun t => (if t = true then (if (ss.length : Int) > 16 then (protocol_Check.j0 k true c ss st er ms) else (protocol_Check.j0 k (decide ((ms.length : Int) > 256)) c ss st er ms)) else (some 5))) (fun k => rfl) (Ev.bind (ident_ev c g1) ?_)
  cases identS c with
  | false => exact Ev.now _
  | true =>
    simp only [if_true]
    by_cases h1 : ss.length > 16
    · rw [if_pos (.inl h1)]; exact Ev.congr (fun k => by rw [if_pos (by omega)]) (by simpa using hj0 true (fun h => by cases h))
    · by_cases h2 : ms.length > 256
      · rw [if_pos (.inr h2)]; exact Ev.congr (fun k => by rw [if_neg (by omega), decide_eq_true (by omega)]) (by simpa using hj0 true (fun h => by cases h))
      · rw [if_neg (by omega)]; exact Ev.congr (fun k => by rw [if_neg (by omega), decide_eq_false (by omega)]) (by simpa using hj0 false (fun _ => ⟨by omega, by omega⟩))
theorem rstates_l (c : ByteArray) (ss : List ByteArray) (st er : Int) (ms : List S64) (hs : ∀ x ∈ ss, x.size ≤ 9223372036854775807) (hL : ss.length ≤ 1000) (T : Int)
    (hT : Ev (fun k => (if st < 0 then (dataflowref39_Check.j2 k true c ss st er ms) else (if st ≥ (ss.length : Int) then (dataflowref39_Check.j2 k true c ss st er ms) else (if er < 0 then (dataflowref39_Check.j2 k true c ss st er ms) else (dataflowref39_Check.j2 k (decide (er ≥ (ss.length : Int))) c ss st er ms))))) T) :
    ∀ (l : List ByteArray) (i : Nat), ss.drop i = l → Ev (fun k => dataflowref39_Check.l0 k i c ss st er ms) (if stF ss l i = 0 then T else stF ss l i) := by
  intro l
  induction l with
  | nil =>
    intro i h
    have := drop_end ss i h
    rw [if_pos (show stF ss [] i = 0 from rfl)]
    refine Ev.step (fun k => ?_) hT
    simp only [dataflowref39_Check.l0]; rw [if_neg (show ¬ (i : Int) < (ss.length : Int) by omega)]
  | cons x r ih =>
    intro i h
    obtain ⟨h1, h2, h3⟩ := rdS_drop ss i x r h
    have hx : x.size ≤ 9223372036854775807 := hs x (List.mem_of_mem_drop (by rw [h]; exact List.mem_cons_self))
    refine Ev.step (f := fun k => (dataflowref07_Ident.f k x).bind fun t => (if t = true then ((dataflowref39_at.f k (ss.take i) x).bind fun t2 => (if t2 ≥ 0 then (some 7) else (dataflowref39_Check.l0 k ((i + 1 : Nat) : Int) c ss st er ms))) else (some 5))) (fun k => ?_) (Ev.bind (rident_ev x hx) ?_)
    · simp only [dataflowref39_Check.l0]
      rw [if_pos (show (i : Int) < (ss.length : Int) by omega), if_pos (show (0 : Int) ≤ (i : Int) by omega), h1, if_pos (show (i : Int) ≤ (ss.length : Int) by omega), Int.toNat_natCast, w64 (by omega) (by omega)]; rfl
    · unfold stF
      cases identS x with
      | false => simpa using Ev.now (5 : Int)
      | true =>
        simp only [if_true]
        refine Ev.bind (rat_ev x (ss.take i) (by rw [List.length_take]; omega)) ?_
        by_cases hc : 0 ≤ idxF x (ss.take i) 0
        · rw [if_pos hc, if_neg (by omega)]; exact Ev.congr (fun k => by rw [if_pos (show idxF x (ss.take i) 0 ≥ 0 from hc)]) (Ev.now _)
        · rw [if_neg hc]; exact Ev.congr (fun k => by rw [if_neg (show ¬ idxF x (ss.take i) 0 ≥ 0 from hc)]) (ih (i + 1) h3)
theorem rcheck_ev (c : ByteArray) (ss : List ByteArray) (st er : Int) (ms : List S64) (hg : GoodP c ss ms) : Ev (fun k => dataflowref39_Check.f k c ss st er ms) (checkF c ss st er ms) := by
  obtain ⟨g1, g2, g3⟩ := hg
  have hj1 : ss.length ≤ 16 → ms.length ≤ 256 → ∀ b : Bool, Ev (fun k => dataflowref39_Check.j2 k b c ss st er ms) (if b = true then 4 else if st = er then 1 else mvF ss.length er none ms) := by
    intro l1 l2 b
    cases b with
    | true => exact Ev.step (f := fun _ => some 4) (fun k => by simp only [dataflowref39_Check.j2]; rw [if_pos trivial]) (Ev.now _)
    | false =>
      simp only [Bool.false_eq_true, if_false]
      by_cases h : st = er
      · rw [if_pos h]; exact Ev.step (f := fun _ => some 1) (fun k => by simp only [dataflowref39_Check.j2]; rw [if_neg (by simp), if_pos h]) (Ev.now _)
      · rw [if_neg h]
        exact Ev.step (f := fun k => (dataflowref39_moves.l0 k ((0 : Nat) : Int) c ss st er ms).bind fun t => some t) (fun k => by simp only [dataflowref39_Check.j2]; rw [if_neg (by simp), if_neg h]; rfl) (Ev.bind (rmoves_l c ss st er ms g3 (by omega) ms 0 rfl) (Ev.now _))
  have hT : ss.length ≤ 16 → ms.length ≤ 256 → Ev (fun k => (if st < 0 then (dataflowref39_Check.j2 k true c ss st er ms) else (if st ≥ (ss.length : Int) then (dataflowref39_Check.j2 k true c ss st er ms) else (if er < 0 then (dataflowref39_Check.j2 k true c ss st er ms) else (dataflowref39_Check.j2 k (decide (er ≥ (ss.length : Int))) c ss st er ms))))) (if 0 ≤ st ∧ st < (ss.length : Int) ∧ 0 ≤ er ∧ er < (ss.length : Int) then (if st = er then 1 else mvF ss.length er none ms) else 4) := by
    intro l1 l2
    have ht := hj1 l1 l2 true
    have hf := hj1 l1 l2 (decide (er ≥ (ss.length : Int)))
    simp only [if_true] at ht
    by_cases c1 : st < 0
    · rw [if_neg (by omega)]; exact Ev.congr (fun k => by rw [if_pos c1]) ht
    · by_cases c2 : st ≥ (ss.length : Int)
      · rw [if_neg (by omega)]; exact Ev.congr (fun k => by rw [if_neg c1, if_pos c2]) ht
      · by_cases c3 : er < 0
        · rw [if_neg (by omega)]; exact Ev.congr (fun k => by rw [if_neg c1, if_neg c2, if_pos c3]) ht
        · refine Ev.congr (f := fun k => dataflowref39_Check.j2 k (decide (er ≥ (ss.length : Int))) c ss st er ms) (fun k => by rw [if_neg c1, if_neg c2, if_neg c3]) ?_
          by_cases c4 : er ≥ (ss.length : Int)
          · rw [if_neg (by omega)]; rw [decide_eq_true c4] at hf ⊢; simpa using hf
          · rw [if_pos (by omega)]; rw [decide_eq_false c4] at hf ⊢; simpa using hf
  have hj0 : ∀ b : Bool, (b = false → ss.length ≤ 16 ∧ ms.length ≤ 256) → Ev (fun k => dataflowref39_Check.j0 k b c ss st er ms) (if b = true then 3 else if ss.length = 0 then 4 else if stF ss ss 0 = 0 then (if 0 ≤ st ∧ st < (ss.length : Int) ∧ 0 ≤ er ∧ er < (ss.length : Int) then (if st = er then 1 else mvF ss.length er none ms) else 4) else stF ss ss 0) := by
    intro b hb
    cases b with
    | true => exact Ev.step (f := fun _ => some 3) (fun k => by simp only [dataflowref39_Check.j0]; rw [if_pos trivial]) (Ev.now _)
    | false =>
      obtain ⟨l1, l2⟩ := hb rfl
      simp only [Bool.false_eq_true, if_false]
      by_cases h0 : ss.length = 0
      · rw [if_pos h0]; exact Ev.step (f := fun _ => some 4) (fun k => by simp only [dataflowref39_Check.j0]; rw [if_neg (by simp), if_pos (by omega)]) (Ev.now _)
      · rw [if_neg h0]
        refine Ev.step (f := fun k => dataflowref39_Check.l0 k ((0 : Nat) : Int) c ss st er ms) (fun k => ?_) (rstates_l c ss st er ms g2 (by omega) _ (hT l1 l2) ss 0 rfl)
        simp only [dataflowref39_Check.j0]
        rw [if_neg (by simp), if_neg (by omega)]; rfl
  unfold checkF
  refine Ev.congr (f := fun k => (dataflowref07_Ident.f k c).bind fun t => (if t = true then (if (ss.length : Int) > 16 then (dataflowref39_Check.j0 k true c ss st er ms) else (dataflowref39_Check.j0 k (decide ((ms.length : Int) > 256)) c ss st er ms)) else (some 5))) (fun k => rfl) (Ev.bind (rident_ev c g1) ?_)
  cases identS c with
  | false => exact Ev.now _
  | true =>
    simp only [if_true]
    by_cases h1 : ss.length > 16
    · rw [if_pos (.inl h1)]; exact Ev.congr (fun k => by rw [if_pos (by omega)]) (by simpa using hj0 true (fun h => by cases h))
    · by_cases h2 : ms.length > 256
      · rw [if_pos (.inr h2)]; exact Ev.congr (fun k => by rw [if_neg (by omega), decide_eq_true (by omega)]) (by simpa using hj0 true (fun h => by cases h))
      · rw [if_neg (by omega)]; exact Ev.congr (fun k => by rw [if_neg (by omega), decide_eq_false (by omega)]) (by simpa using hj0 false (fun _ => ⟨by omega, by omega⟩))
end Go.Proofs.YthfhbdncphkdaaaDoor.H

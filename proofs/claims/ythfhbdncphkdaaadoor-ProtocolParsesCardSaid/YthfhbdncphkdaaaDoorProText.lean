/- The text of a protocol is parsed as the protocol; what is parsed has this text: in plain words. -/
import Derived.Test.YthfhbdncphkdaaaDoorProLines
import Derived.Test.YthfhbdncphkdaaaDoorProStep
import Derived.Lib.Join
import Derived.Test.YthfhbdncphkdaaaDoorHf35
import Derived.Test.YthfhbdncphkdaaaDoorHf37
import Derived.Test.YthfhbdncphkdaaaDoorHf36
import Derived.Test.YthfhbdncphkdaaaDoorHf38
namespace Go.Proofs.YthfhbdncphkdaaaDoor.H
open Go.RowKit Go.Proofs.YthfhbdncphkdaaaDoorW.PrintWords
set_option linter.unusedVariables false
set_option linter.unusedSimpArgs false

/-! #### what is parsed, without a bound on the rounds -/
def takeF (i : Nat) (ws : List ByteArray) (p : Pr) : Pr × Int :=
  match i with
  | 0 => ((rdOf ByteArray.empty ws 1, p.2), 0)
  | 1 => ((p.1, ws.drop 1, p.2.2), 0)
  | 2 => ((p.1, p.2.1, (if idxF (rdOf ByteArray.empty ws 1) p.2.1 0 < 0 then p.2.2.1 else idxF (rdOf ByteArray.empty ws 1) p.2.1 0), p.2.2.2), if idxF (rdOf ByteArray.empty ws 1) p.2.1 0 < 0 then 6 else 0)
  | 3 => ((p.1, p.2.1, p.2.2.1, (if idxF (rdOf ByteArray.empty ws 1) p.2.1 0 < 0 then p.2.2.2.1 else idxF (rdOf ByteArray.empty ws 1) p.2.1 0), p.2.2.2.2), if idxF (rdOf ByteArray.empty ws 1) p.2.1 0 < 0 then 6 else 0)
  | _ => ((p.1, p.2.1, p.2.2.1, p.2.2.2.1, p.2.2.2.2 ++ [⟨idxF (rdOf ByteArray.empty ws 1) p.2.1 0, rdOf ByteArray.empty ws 2, idxF (rdOf ByteArray.empty ws 3) p.2.1 0⟩]), if idxF (rdOf ByteArray.empty ws 1) p.2.1 0 < 0 ∨ idxF (rdOf ByteArray.empty ws 3) p.2.1 0 < 0 then 6 else 0)
def lineF (i : Nat) (ended : Bool) (p : Pr) (l : ByteArray) : Bool × Pr × Int :=
  if 4 ≤ i ∧ l.toList = endB ∧ ended = false then (true, p, 0)
  else if ended = true ∨ ¬ (rdOf ByteArray.empty (spl 32 l) 0).toList = (formW i).toList ∨ (spl 32 l).length < formLo i ∨ formHi i < (spl 32 l).length then (ended, p, 2)
  else if idxF (⟨#[]⟩ : ByteArray) (spl 32 l) 0 ≥ 0 then (ended, p, 2) else (ended, (takeF i (spl 32 l) p).1, (takeF i (spl 32 l) p).2)
def parFl : List ByteArray → Nat → Bool → Pr → Bool × Pr × Int × Int
  | [], _, e, p => (e, p, 0, 0)
  | l :: r, i, e, p => if (lineF i e p l).2.2 = 0 then parFl r (i + 1) (lineF i e p l).1 (lineF i e p l).2.1 else ((lineF i e p l).1, (lineF i e p l).2.1, (i : Int) + 1, (lineF i e p l).2.2)
def chkPr (p : Pr) : Int := checkF p.1 p.2.1 p.2.2.1 p.2.2.2.1 p.2.2.2.2
def parF (s : ByteArray) : Pr × Int × Int :=
  if s.size > 65536 then (pr0, 0, 3) else
  let x := parFl ((spl 10 s).take ((spl 10 s).length - 1)) 0 false pr0
  if x.2.2.2 = 0 then (if x.1 = false then (pr0, ((spl 10 s).length : Int), 21) else if (rdOf ByteArray.empty (spl 10 s) ((spl 10 s).length - 1)).toList = ([] : List UInt8) then
    (if chkPr x.2.1 = 0 then (x.2.1, 0, 0) else (pr0, 0, chkPr x.2.1)) else (pr0, ((spl 10 s).length : Int), 2))
  else (pr0, x.2.2.1, x.2.2.2)
theorem lidx_ev (s : ByteArray) (L : List ByteArray) (hL : L.length ≤ 1000000) : Ev (fun k => slices_Index_string_string.f k L s) (idxF s L 0) := lindex_l s L hL L 0 rfl
theorem or2_ev (a b : Prop) [Decidable a] [Decidable b] : Ev (fun k => api_Errno.f k [if a then 6 else 0, if b then 6 else 0]) (if a ∨ b then 6 else 0) := by
  by_cases h1 : a <;> by_cases h2 : b
  · rw [if_pos h1, if_pos h2, if_pos (Or.inl h1)]; exact Ev.of (k := 5) (fun k => api_Errno.mono _ k) (by kernel_rfl)
  · rw [if_pos h1, if_neg h2, if_pos (Or.inl h1)]; exact Ev.of (k := 5) (fun k => api_Errno.mono _ k) (by kernel_rfl)
  · rw [if_neg h1, if_pos h2, if_pos (Or.inr h2)]; exact Ev.of (k := 5) (fun k => api_Errno.mono _ k) (by kernel_rfl)
  · rw [if_neg h1, if_neg h2, if_neg (by rintro (h | h); exact h1 h; exact h2 h)]; exact Ev.of (k := 5) (fun k => api_Errno.mono _ k) (by kernel_rfl)
theorem take_ev (i : Nat) (ws : List ByteArray) (p : Pr) (h : p.2.1.length ≤ 1000000) : Ev (fun k => takeP k i ws p) (takeF i ws p) := by
  rcases i with _ | _ | _ | _ | i
  · exact Ev.now _
  · exact Ev.now _
  · exact Ev.bind (lidx_ev _ _ h) (Ev.now _)
  · exact Ev.bind (lidx_ev _ _ h) (Ev.now _)
  · refine Ev.bind (lidx_ev _ _ h) (Ev.bind (lidx_ev _ _ h) (Ev.bind (or2_ev _ _) ?_))
    refine Ev.congr (f := fun _ => some (takeF (i + 4) ws p)) (fun k => ?_) (Ev.now _)
    rw [if_pos]
    · rfl
    · intro h0
      by_cases c : idxF (rdOf ByteArray.empty ws 1) p.2.1 0 < 0 ∨ idxF (rdOf ByteArray.empty ws 3) p.2.1 0 < 0
      · rw [if_pos c] at h0; cases h0
      · omega
theorem line_ev (i : Nat) (e : Bool) (p : Pr) (l : ByteArray) (h : p.2.1.length ≤ 1000000) (hl : l.size ≤ 65536) : Ev (fun k => lineP k i e p l) (lineF i e p l) := by
  have hz : (spl 32 l).length ≤ 1000000 := by have := spl_len 32 l; have := cnt_le 32 l; omega
  unfold lineP lineF
  by_cases c1 : 4 ≤ i ∧ l.toList = endB ∧ e = false
  · rw [if_pos c1]; exact Ev.congr (fun k => if_pos c1) (Ev.now _)
  · rw [if_neg c1]
    refine Ev.congr (fun k => if_neg c1) ?_
    by_cases c2 : e = true ∨ ¬ (rdOf ByteArray.empty (spl 32 l) 0).toList = (formW i).toList ∨ (spl 32 l).length < formLo i ∨ formHi i < (spl 32 l).length
    · rw [if_pos c2]; exact Ev.congr (fun k => if_pos c2) (Ev.now _)
    · rw [if_neg c2]
      refine Ev.congr (fun k => if_neg c2) (Ev.bind (lcont_ev _ _ hz) ?_)
      by_cases c3 : idxF (⟨#[]⟩ : ByteArray) (spl 32 l) 0 ≥ 0
      · rw [if_pos c3]; exact Ev.congr (fun k => if_pos (decide_eq_true c3)) (Ev.now _)
      · rw [if_neg c3]
        exact Ev.congr (fun k => if_neg (by simp [c3])) (Ev.bind (take_ev i _ p h) (Ev.now _))
theorem take_len (i : Nat) (ws : List ByteArray) (p : Pr) (h : p.2.1.length ≤ 1000000) (hw : ws.length ≤ 1000000) : (takeF i ws p).1.2.1.length ≤ 1000000 := by
  rcases i with _ | _ | _ | _ | i
  · exact h
  · show (ws.drop 1).length ≤ _; rw [List.length_drop]; omega
  · exact h
  · exact h
  · exact h
theorem line_len (i : Nat) (e : Bool) (p : Pr) (l : ByteArray) (h : p.2.1.length ≤ 1000000) (hl : l.size ≤ 65536) : (lineF i e p l).2.1.2.1.length ≤ 1000000 := by
  have hz : (spl 32 l).length ≤ 1000000 := by have := spl_len 32 l; have := cnt_le 32 l; omega
  unfold lineF
  split
  · exact h
  · split
    · exact h
    · split
      · exact h
      · exact take_len i _ p h hz
theorem parFl_ev : ∀ (ls : List ByteArray) (i : Nat) (e : Bool) (p : Pr), p.2.1.length ≤ 1000000 → (∀ l ∈ ls, l.size ≤ 65536) → Ev (fun k => parG k ls i e p) (parFl ls i e p) := by
  intro ls
  induction ls with
  | nil => intro i e p _ _; exact Ev.now _
  | cons l r ih =>
    intro i e p h hl
    refine Ev.bind (line_ev i e p l h (hl l List.mem_cons_self)) ?_
    unfold parFl
    by_cases c : (lineF i e p l).2.2 = 0
    · rw [if_pos c]
      exact Ev.congr (fun k => if_pos c) (ih _ _ _ (line_len i e p l h (hl l List.mem_cons_self)) (fun z hz => hl z (List.mem_cons_of_mem _ hz)))
    · rw [if_neg c]
      exact Ev.congr (fun k => if_neg c) (Ev.now _)
def GoodPr (p : Pr) : Prop := GoodP p.1 p.2.1 p.2.2.2.2
def SmallPr (p : Pr) : Prop := p.1.size ≤ 65536 ∧ (∀ x ∈ p.2.1, x.size ≤ 65536) ∧ ∀ x ∈ p.2.2.2.2, x.f1.size ≤ 65536
theorem SmallPr.good {p : Pr} (h : SmallPr p) : GoodPr p := ⟨Nat.le_trans h.1 (by decide), fun x hx => Nat.le_trans (h.2.1 x hx) (by decide), fun x hx => Nat.le_trans (h.2.2 x hx) (by decide)⟩
theorem rd_size (ws : List ByteArray) (n : Nat) (i : Int) (h : ∀ x ∈ ws, x.size ≤ n) : (rdOf ByteArray.empty ws i).size ≤ n := by
  unfold rdOf
  rw [List.getD_eq_getElem?_getD]
  cases e : ws[i.toNat]? with
  | none => exact Nat.zero_le _
  | some x => exact h x (List.mem_of_getElem? e)
theorem take_small (i : Nat) (ws : List ByteArray) (p : Pr) (h : SmallPr p) (hw : ∀ x ∈ ws, x.size ≤ 65536) : SmallPr (takeF i ws p).1 := by
  rcases i with _ | _ | _ | _ | i
  · exact ⟨rd_size ws _ 1 hw, h.2⟩
  · exact ⟨h.1, fun x hx => hw x (List.mem_of_mem_drop hx), h.2.2⟩
  · exact h
  · exact h
  · refine ⟨h.1, h.2.1, fun x hx => ?_⟩
    rcases List.mem_append.1 hx with hx | hx
    · exact h.2.2 x hx
    · rw [List.mem_singleton.1 hx]; exact rd_size ws _ 2 hw
theorem line_small (i : Nat) (e : Bool) (p : Pr) (l : ByteArray) (h : SmallPr p) (hl : l.size ≤ 65536) : SmallPr (lineF i e p l).2.1 := by
  unfold lineF
  split
  · exact h
  · split
    · exact h
    · split
      · exact h
      · exact take_small i _ p h (fun x hx => Nat.le_trans (spl_size 32 l x hx) hl)
theorem parFl_small : ∀ (ls : List ByteArray) (i : Nat) (e : Bool) (p : Pr), SmallPr p → (∀ l ∈ ls, l.size ≤ 65536) → SmallPr (parFl ls i e p).2.1 := by
  intro ls
  induction ls with
  | nil => intro i e p h _; exact h
  | cons l r ih =>
    intro i e p h hl
    unfold parFl
    split
    · exact ih _ _ _ (line_small i e p l h (hl l List.mem_cons_self)) (fun z hz => hl z (List.mem_cons_of_mem _ hz))
    · exact line_small i e p l h (hl l List.mem_cons_self)
theorem small0 : SmallPr pr0 := ⟨Nat.zero_le _, fun x hx => (by cases hx), fun x hx => by cases hx⟩
theorem lines_small (s : ByteArray) (h : s.size ≤ 65536) : ∀ l ∈ (spl 10 s).take ((spl 10 s).length - 1), l.size ≤ 65536 := fun l hl => Nat.le_trans (spl_size 10 s l (List.mem_of_mem_take hl)) h
theorem par_ev (s : ByteArray) : Ev (fun k => parP k s) (parF s) := by
  unfold parP parF
  by_cases c : s.size > 65536
  · rw [if_pos c]; exact Ev.congr (fun k => if_pos c) (Ev.now _)
  · rw [if_neg c]
    have hl := lines_small s (by omega)
    have hsm := parFl_small _ 0 false pr0 small0 hl
    refine Ev.congr (fun k => if_neg c) (Ev.bind (parFl_ev _ 0 false pr0 (Nat.zero_le _) hl) ?_)
    dsimp only
    generalize parFl ((spl 10 s).take ((spl 10 s).length - 1)) 0 false pr0 = x at hsm ⊢
    by_cases c1 : x.2.2.2 = 0
    · rw [if_pos c1]
      refine Ev.congr (fun k => if_pos c1) ?_
      by_cases c2 : x.1 = false
      · rw [if_pos c2]; exact Ev.congr (fun k => if_pos c2) (Ev.now _)
      · rw [if_neg c2]
        refine Ev.congr (fun k => if_neg c2) ?_
        by_cases c3 : (rdOf ByteArray.empty (spl 10 s) ((spl 10 s).length - 1)).toList = ([] : List UInt8)
        · rw [if_pos c3]
          refine Ev.congr (fun k => if_pos c3) (Ev.bind (lcheck_ev _ _ _ _ _ hsm.good) ?_)
          by_cases c4 : chkPr x.2.1 = 0
          · rw [if_pos c4]; exact Ev.congr (fun k => if_pos c4) (Ev.now _)
          · rw [if_neg c4]; exact Ev.congr (fun k => if_neg c4) (Ev.now _)
        · rw [if_neg c3]; exact Ev.congr (fun k => if_neg c3) (Ev.now _)
    · rw [if_neg c1]; exact Ev.congr (fun k => if_neg c1) (Ev.now _)
theorem lparse_ev (s : ByteArray) : Ev (fun k => protocol_Parse.f k s) ((parF s).1.1, (parF s).1.2.1, (parF s).1.2.2.1, (parF s).1.2.2.2.1, (parF s).1.2.2.2.2, (parF s).2.1, (parF s).2.2) := by
  obtain ⟨K, hK⟩ := par_ev s
  exact ⟨K, fun k hk => by (have h : parP k s = some (parF s) := hK k hk); show (parP k s).map _ = _; rw [h]; rfl⟩
end Go.Proofs.YthfhbdncphkdaaaDoor.H

/- The reference's parse of a protocol is the program's; what is parsed has this text: in plain words. -/
import Derived.Test.YthfhbdncphkdaaaDoorProTexts
import Derived.Test.YthfhbdncphkdaaaDoorRefParse
import Derived.Test.YthfhbdncphkdaaaDoorHf68
import Derived.Test.YthfhbdncphkdaaaDoorHe
import Derived.Test.YthfhbdncphkdaaaDoorHf66
import Derived.Test.YthfhbdncphkdaaaDoorHf65
import Derived.Test.YthfhbdncphkdaaaDoorHf69
import Derived.Test.YthfhbdncphkdaaaDoorHf39
namespace Go.Proofs.YthfhbdncphkdaaaDoor.H
open Go.RowKit Go.Proofs.YthfhbdncphkdaaaDoorW.PrintWords
set_option linter.unusedVariables false
set_option linter.unusedSimpArgs false

theorem ext_size (s : ByteArray) (a : Nat) : (s.extract a s.size).size = s.size - a := by rw [ByteArray.size_extract]; omega
theorem ext_head (s : ByteArray) (a n : Nat) (h : a + n ≤ s.size) : (s.extract a s.size).extract 0 n = s.extract a (a + n) := by
  apply ByteArray.ext
  apply Array.toList_inj.1
  rw [Lib.extract_data, ext_data, Lib.extract_data, List.drop_zero, Nat.sub_zero, Nat.add_sub_cancel_left]
theorem ext_rest (s : ByteArray) (a m : Nat) : (s.extract a s.size).extract m (s.extract a s.size).size = s.extract (a + m) s.size := by
  apply ByteArray.ext
  apply Array.toList_inj.1
  rw [ext_data, ext_data, ext_data, List.drop_drop]
theorem bt_ext (s : ByteArray) (a j : Nat) (h : a + j < s.size) : bt (s.extract a s.size) j = bt s ((a + j : Nat) : Int) := by
  have h1 : j < (s.extract a s.size).size := by rw [ext_size]; omega
  have hc := (bt_is (s.extract a s.size) (s[a + j]'h) j h1)
  rw [ext_data, List.getElem?_drop] at hc
  have hl : a + j < s.data.toList.length := by rw [Array.length_toList]; exact h
  rw [bt_nat' s (a + j) h]
  refine hc.2 ?_
  rw [List.getElem?_eq_getElem hl]
  congr 1
theorem ext_pos (c : Int) (s : ByteArray) (a : Nat) (ha : a ≤ s.size) : pos c (s.extract a s.size) = scan (nb c) s a - a := by
  have h1 := le_scan (nb c) s a
  have h2 := scan_le' (nb c) s a ha
  refine scan_eq _ _ 0 _ (Nat.zero_le _) (by rw [ext_size]; omega) (fun j _ hj => ?_) (fun hp => ?_)
  · rw [bt_ext s a j (by omega)]
    exact scan_all (nb c) s a (a + j) (by omega) (by omega)
  · rw [ext_size] at hp
    rw [bt_ext s a _ (by omega)]
    have : a + (scan (nb c) s a - a) = scan (nb c) s a := by omega
    rw [this]
    exact scan_off (nb c) s a (by omega)
theorem ext_whole (s : ByteArray) : s.extract 0 s.size = s := by
  apply ByteArray.ext
  apply Array.toList_inj.1
  rw [ext_data, List.drop_zero]
/-- A piece of a text that has no such byte before i, and this byte at i. -/
theorem spl_at (c : UInt8) (s : ByteArray) (a i : Nat) (hai : a ≤ i) (hi : i < s.size) (hb : bt s i = (c.toNat : Int)) (hsc : scan (nb c.toNat) s i = scan (nb c.toNat) s a) : spl c (s.extract a s.size) = s.extract a i :: spl c (s.extract (i + 1) s.size) := by
  rw [scan_no _ s i hi (by unfold nb; simp [hb])] at hsc
  have hp := ext_pos c.toNat s a (by omega)
  have hz := ext_size s a
  rw [← hsc] at hp
  have hhead : headB c.toNat (s.extract a s.size) = s.extract a i := by
    unfold headB
    rw [hp, ext_head s a (i - a) (by omega)]
    congr 1; omega
  have hrest : restB c.toNat (s.extract a s.size) = s.extract (i + 1) s.size := by
    unfold restB
    rw [hp, ext_rest s a (i - a + 1)]
    congr 1; omega
  rw [spl_hit c _ (by omega), hhead, hrest]
theorem spl_last (c : UInt8) (s : ByteArray) (a : Nat) (ha : a ≤ s.size) (hsc : scan (nb c.toNat) s s.size = scan (nb c.toNat) s a) : spl c (s.extract a s.size) = [s.extract a s.size] := by
  rw [scan_end _ s s.size (by omega)] at hsc
  have hp := ext_pos c.toNat s a ha
  have hz := ext_size s a
  exact spl_miss c _ (by omega)
/-- All parts but the last; the last. -/
def frontL (l : List ByteArray) : List ByteArray := l.take (l.length - 1)
def lastL (l : List ByteArray) : ByteArray := rdOf ByteArray.empty l ((l.length : Int) - 1)
theorem frontL_cons (x : ByteArray) (l : List ByteArray) (h : l ≠ []) : frontL (x :: l) = x :: frontL l := by
  cases l with
  | nil => exact absurd rfl h
  | cons y r => unfold frontL; simp
theorem lastL_cons (x : ByteArray) (l : List ByteArray) (h : l ≠ []) : lastL (x :: l) = lastL l := by
  cases l with
  | nil => exact absurd rfl h
  | cons y r =>
    unfold lastL
    rw [show ((x :: y :: r).length : Int) - 1 = ((r.length + 1 : Nat) : Int) by simp, show ((y :: r).length : Int) - 1 = ((r.length : Nat) : Int) by simp]
    rw [rd_at _ _ (by simp), rd_at _ _ (by simp)]
    rfl
theorem lines_l (S : ByteArray) (hS : S.size ≤ 1000000000) : ∀ (d i : Nat) (out : List ByteArray) (a : Nat), S.size - i = d → i ≤ S.size → a ≤ i → scan (nb 10) S i = scan (nb 10) S a → out.length ≤ i → Ev (fun k => dataflowref39_Lines.l0 k S out a i) (out ++ frontL (spl 10 (S.extract a S.size)), lastL (spl 10 (S.extract a S.size))) := by
  intro d
  induction d with
  | zero =>
    intro i out a h hi hai hsc ho
    have e : i = S.size := by omega
    subst e
    rw [spl_last 10 S a hai hsc]
    refine Ev.step (f := fun _ => some (out, S.extract a S.size)) (fun k => ?_) (Ev.congr (fun _ => by simp [frontL, lastL, rdOf]) (Ev.now (out ++ frontL [S.extract a S.size], lastL [S.extract a S.size])))
    simp only [dataflowref39_Lines.l0]
    rw [if_neg (by omega), if_pos (by omega), if_pos (by omega), Int.toNat_natCast]
  | succ d ih =>
    intro i out a h hi hai hsc ho
    have hlt : i < S.size := by omega
    have e1 : wrap64 ((i : Int) + 1) = ((i + 1 : Nat) : Int) := by rw [w64 (by omega) (by omega)]; rfl
    by_cases hb : bt S i = 10
    · rw [spl_at 10 S a i hai hlt hb hsc, frontL_cons _ _ (spl_ne 10 _), lastL_cons _ _ (spl_ne 10 _)]
      have := ih (i + 1) (out ++ [S.extract a i]) (i + 1) (by omega) (by omega) (Nat.le_refl _) rfl (by rw [List.length_append, List.length_singleton]; omega)
      rw [List.append_assoc] at this
      refine Ev.step (fun k => ?_) this
      simp only [dataflowref39_Lines.l0]
      rw [if_pos (by omega), if_pos (by omega), if_pos hb, if_pos (by omega), if_pos (by omega), if_pos (by omega), if_pos (by omega), e1, Int.toNat_natCast, Int.toNat_natCast]
    · rw [scan_at _ S i hlt (by unfold nb; simp [hb])] at hsc
      refine Ev.step (fun k => ?_) (ih (i + 1) out a (by omega) (by omega) (by omega) hsc (by omega))
      simp only [dataflowref39_Lines.l0]
      rw [if_pos (by omega), if_pos (by omega), if_neg hb, e1]
theorem lines_ev (s : ByteArray) (hs : s.size ≤ 65536) : Ev (fun k => dataflowref39_Lines.f k s) (frontL (spl 10 s), lastL (spl 10 s)) := by
  have := lines_l s (by omega) _ 0 [] 0 rfl (Nat.zero_le _) (Nat.le_refl _) rfl (Nat.zero_le _)
  rw [ext_whole, List.nil_append] at this
  exact this
theorem ext_snoc (s : ByteArray) (a i : Nat) (h1 : a ≤ i) (h2 : i < s.size) : s.extract a i ++ s.extract i (i + 1) = s.extract a (i + 1) := by
  apply ByteArray.ext
  apply Array.toList_inj.1
  rw [ByteArray.data_append, Array.toList_append, Lib.extract_data, Lib.extract_data, Lib.extract_data]
  rw [show i + 1 - i = 1 by omega, show i + 1 - a = (i - a) + 1 by omega, List.take_add, List.drop_drop, show a + (i - a) = i by omega]
theorem words_l (S : ByteArray) (hS : S.size ≤ 1000000000) : ∀ (d i : Nat) (out : List ByteArray) (a : Nat), S.size - i = d → i ≤ S.size → a ≤ i → scan (nb 32) S i = scan (nb 32) S a → out.length ≤ i → Ev (fun k => dataflowref39_Words.l0 k S out (S.extract a i) i) (out ++ spl 32 (S.extract a S.size)) := by
  intro d
  induction d with
  | zero =>
    intro i out a h hi hai hsc ho
    have e : i = S.size := by omega
    subst e
    rw [spl_last 32 S a hai hsc]
    refine Ev.step (f := fun _ => some (out ++ [S.extract a S.size])) (fun k => ?_) (Ev.now _)
    simp only [dataflowref39_Words.l0]
    rw [if_neg (by omega), if_pos (by omega)]
  | succ d ih =>
    intro i out a h hi hai hsc ho
    have hlt : i < S.size := by omega
    have e1 : wrap64 ((i : Int) + 1) = ((i + 1 : Nat) : Int) := by rw [w64 (by omega) (by omega)]; rfl
    by_cases hb : bt S i = 32
    · rw [spl_at 32 S a i hai hlt hb hsc]
      have := ih (i + 1) (out ++ [S.extract a i]) (i + 1) (by omega) (by omega) (Nat.le_refl _) rfl (by rw [List.length_append, List.length_singleton]; omega)
      rw [List.append_assoc] at this
      have e0 : S.extract (i + 1) (i + 1) = (⟨#[]⟩ : ByteArray) := by
        apply ByteArray.ext; apply Array.toList_inj.1; rw [Lib.extract_data, Nat.sub_self, List.take_zero]
      rw [e0] at this
      refine Ev.step (fun k => ?_) this
      simp only [dataflowref39_Words.l0]
      rw [if_pos (by omega), if_pos (by omega), if_pos hb, if_pos (by omega), e1]
    · rw [scan_at _ S i hlt (by unfold nb; simp [hb])] at hsc
      have := ih (i + 1) out a (by omega) (by omega) (by omega) hsc (by omega)
      rw [← ext_snoc S a i hai hlt] at this
      refine Ev.step (fun k => ?_) this
      simp only [dataflowref39_Words.l0]
      rw [if_pos (by omega), if_pos (by omega), if_neg hb, e1, if_pos (by omega), if_pos (by omega), Int.toNat_natCast, Int.toNat_natCast]
      rw [if_pos (by rw [ByteArray.size_extract, ByteArray.size_extract]; omega)]
theorem words_ev (s : ByteArray) (hs : s.size ≤ 65536) : Ev (fun k => dataflowref39_Words.f k s) (spl 32 s) := by
  have := words_l s (by omega) _ 0 [] 0 rfl (Nat.zero_le _) (Nat.le_refl _) rfl (Nat.zero_le _)
  rw [ext_whole, List.nil_append] at this
  have e0 : s.extract 0 0 = (⟨#[]⟩ : ByteArray) := by
    apply ByteArray.ext; apply Array.toList_inj.1; rw [Lib.extract_data, Nat.sub_self, List.take_zero]
  rw [e0] at this
  exact this
/-- Has a line this first word, so many words, and no empty one? -/
def formF' (ws : List ByteArray) (w : ByteArray) (n : Int) : Bool := decide ((rdOf ByteArray.empty ws 0).toList = w.toList) && (if n > 0 then decide ((ws.length : Int) = n) else decide (2 ≤ ws.length)) && decide (idxF (⟨#[]⟩ : ByteArray) ws 0 < 0)
theorem form_ev (ws : List ByteArray) (w : ByteArray) (n : Int) (h0 : 0 ≤ n) (h : 0 < ws.length) (hL : ws.length ≤ 1000000) : Ev (fun k => dataflowref39_form.f k ws w n) (formF' ws w n) := by
  have ha : Ev (fun k => (dataflowref39_at.f k ws (⟨#[]⟩ : ByteArray)).bind fun t => some (decide (t < 0))) (decide (idxF (⟨#[]⟩ : ByteArray) ws 0 < 0)) := Ev.bind (rat_ev _ ws hL) (Ev.now _)
  unfold dataflowref39_form.f formF'
  refine Ev.congr (fun k => by rw [if_pos (by omega)]) ?_
  by_cases c1 : (rdOf ByteArray.empty ws 0).toList = w.toList
  · refine Ev.congr (fun k => by rw [if_pos c1]) ?_
    rw [decide_eq_true c1, Bool.true_and]
    by_cases c2 : n > 0
    · refine Ev.congr (fun k => by rw [if_pos c2]) ?_
      rw [if_pos c2]
      by_cases c3 : (ws.length : Int) = n
      · refine Ev.congr (fun k => by rw [if_pos c3, if_neg (show ¬ n = 0 by omega)]) ?_
        rw [decide_eq_true c3, Bool.true_and]
        exact ha
      · refine Ev.congr (fun k => by rw [if_neg c3]) ?_
        rw [decide_eq_false c3, Bool.false_and]
        exact Ev.now _
    · refine Ev.congr (fun k => by rw [if_neg c2, if_pos (show n = 0 by omega)]) ?_
      rw [if_neg c2]
      by_cases c3 : (ws.length : Int) < 2
      · refine Ev.congr (fun k => by rw [if_pos c3]) ?_
        rw [decide_eq_false (by omega), Bool.false_and]
        exact Ev.now _
      · refine Ev.congr (fun k => by rw [if_neg c3]) ?_
        rw [decide_eq_true (by omega), Bool.true_and]
        exact ha
  · refine Ev.congr (fun k => by rw [if_neg c1]) ?_
    rw [decide_eq_false c1, Bool.false_and, Bool.false_and]
    exact Ev.now _
/-- The same outcome: the same error; without one, the same in all. -/
def Like (x y : Bool × Pr × Int) : Prop := x.2.2 = y.2.2 ∧ (x.2.2 = 0 → x = y)
theorem form_true {ws : List ByteArray} {w : ByteArray} {n : Int} (h : formF' ws w n = true) : (rdOf ByteArray.empty ws 0).toList = w.toList ∧ (if n > 0 then (ws.length : Int) = n else 2 ≤ ws.length) ∧ idxF (⟨#[]⟩ : ByteArray) ws 0 < 0 := by
  unfold formF' at h
  simp only [Bool.and_eq_true, decide_eq_true_eq] at h
  refine ⟨h.1.1, ?_, h.2⟩
  have := h.1.2
  by_cases c : n > 0
  · rw [if_pos c] at this ⊢; exact of_decide_eq_true this
  · rw [if_neg c] at this ⊢; exact of_decide_eq_true this
theorem form_false {ws : List ByteArray} {w : ByteArray} {n : Int} (h : formF' ws w n = false) : ¬ ((rdOf ByteArray.empty ws 0).toList = w.toList ∧ (if n > 0 then (ws.length : Int) = n else 2 ≤ ws.length) ∧ idxF (⟨#[]⟩ : ByteArray) ws 0 < 0) := by
  rintro ⟨h1, h2, h3⟩
  unfold formF' at h
  rw [decide_eq_true h1, decide_eq_true h3, Bool.true_and, Bool.and_true] at h
  by_cases c : n > 0
  · rw [if_pos c] at h h2; rw [decide_eq_true h2] at h; cases h
  · rw [if_neg c] at h h2; rw [decide_eq_true h2] at h; cases h
theorem join_ge : ∀ (ws : List ByteArray), (∀ x ∈ ws, 0 < x.size) → 2 * ws.length ≤ (joinC 32 ws).size + 1 := by
  intro ws
  induction ws with
  | nil => intro _; exact Nat.zero_le _
  | cons x l ih =>
    intro h
    have hx := h x List.mem_cons_self
    cases l with
    | nil => show 2 ≤ x.size + 1; omega
    | cons y l =>
      have := ih (fun z hz => h z (List.mem_cons_of_mem _ hz))
      rw [joinC_cons 32 x _ (by simp), ByteArray.size_append, ByteArray.size_append, one_size, List.length_cons]
      omega
theorem spl_few (l : ByteArray) (h : idxF (⟨#[]⟩ : ByteArray) (spl 32 l) 0 < 0) : 2 * (spl 32 l).length ≤ l.size + 1 := by
  have := join_ge (spl 32 l) (fun x hx => by
    have h1 := idxF_neg _ _ _ h x hx
    have h2 : x.size ≠ 0 := fun e => h1 (toList_inj ((toList_nil x).2 e |>.trans ((toList_nil _).2 rfl).symm))
    omega)
  rw [joinC_spl] at this
  exact this
theorem head_ev (i : Nat) (hi : i < 4) (p : Pr) (l : ByteArray) (hp : p.2.1.length ≤ 1000000) (hl : l.size ≤ 65536) : ∃ x, Ev (fun k => headP k i (spl 32 l) p) (x : Bool × Pr × Int).2 ∧ x.1 = false ∧ Like x (lineF i false p l) := by
  have hz : (spl 32 l).length ≤ 1000000 := by have := spl_len 32 l; have := cnt_le 32 l; omega
  have h0 : 0 < (spl 32 l).length := by rw [spl_len]; omega
  have hf := form_ev (spl 32 l) (formW i) (if i = 1 then 0 else 2) (by split <;> omega) h0 hz
  unfold headP lineF
  rw [if_neg (show ¬ (4 ≤ i ∧ l.toList = endB ∧ false = false) by omega)]
  cases hb : formF' (spl 32 l) (formW i) (if i = 1 then 0 else 2) with
  | false =>
    rw [hb] at hf
    refine ⟨(false, p, 2), Ev.bind hf (Ev.congr (fun k => if_neg (by simp)) (Ev.now _)), rfl, ?_⟩
    have hn := form_false hb
    by_cases c2 : false = true ∨ ¬ (rdOf ByteArray.empty (spl 32 l) 0).toList = (formW i).toList ∨ (spl 32 l).length < formLo i ∨ formHi i < (spl 32 l).length
    · rw [if_pos c2]; exact ⟨rfl, fun _ => rfl⟩
    · rw [if_neg c2]
      have c3 : idxF (⟨#[]⟩ : ByteArray) (spl 32 l) 0 ≥ 0 := by
        apply Classical.byContradiction
        intro c4
        refine hn ⟨?_, ?_, by omega⟩
        · exact Classical.byContradiction fun h => c2 (Or.inr (Or.inl h))
        · have a1 : ¬ (spl 32 l).length < formLo i := fun h => c2 (Or.inr (Or.inr (Or.inl h)))
          have a2 : ¬ formHi i < (spl 32 l).length := fun h => c2 (Or.inr (Or.inr (Or.inr h)))
          unfold formLo at a1
          unfold formHi at a2
          rw [if_pos hi] at a1
          by_cases e1 : i = 1
          · rw [if_pos e1, if_neg (by omega)]; omega
          · rw [if_neg e1, if_pos (by omega)]
            rw [if_neg e1, if_pos hi] at a2
            omega
      rw [if_pos c3]; exact ⟨rfl, fun _ => rfl⟩
  | true =>
    rw [hb] at hf
    obtain ⟨t1, t2, t3⟩ := form_true hb
    have hlen : 2 ≤ (spl 32 l).length := by
      by_cases e1 : i = 1
      · rw [if_pos e1, if_neg (by omega)] at t2; exact t2
      · rw [if_neg e1, if_pos (by omega)] at t2; omega
    have hc2 : ¬ (false = true ∨ ¬ (rdOf ByteArray.empty (spl 32 l) 0).toList = (formW i).toList ∨ (spl 32 l).length < formLo i ∨ formHi i < (spl 32 l).length) := by
      rintro (h | h | h | h)
      · cases h
      · exact h t1
      · unfold formLo at h; rw [if_pos hi] at h; omega
      · unfold formHi at h
        by_cases e1 : i = 1
        · rw [if_pos e1] at h; have := spl_few l t3; omega
        · rw [if_neg e1, if_pos hi] at h; rw [if_neg e1, if_pos (by omega)] at t2; omega
    rw [if_neg hc2, if_neg (show ¬ idxF (⟨#[]⟩ : ByteArray) (spl 32 l) 0 ≥ 0 by omega)]
    have ha := rat_ev (rdOf ByteArray.empty (spl 32 l) 1) p.2.1 hp
    have hi4 : i = 0 ∨ i = 1 ∨ i = 2 ∨ i = 3 := by omega
    rcases hi4 with rfl | rfl | rfl | rfl
    · exact ⟨(false, (rdOf ByteArray.empty (spl 32 l) 1, p.2), 0), Ev.bind hf (Ev.congr (fun k => by rw [if_pos rfl, if_pos (by omega)]) (Ev.bind ha (Ev.now _))), rfl, rfl, fun _ => rfl⟩
    · exact ⟨(false, (p.1, (spl 32 l).drop 1, p.2.2), 0), Ev.bind hf (Ev.congr (fun k => by rw [if_pos rfl, if_pos (by omega)]) (Ev.bind ha (Ev.now _))), rfl, rfl, fun _ => rfl⟩
    · refine ⟨(false, (p.1, p.2.1, idxF (rdOf ByteArray.empty (spl 32 l) 1) p.2.1 0, p.2.2.2), if idxF (rdOf ByteArray.empty (spl 32 l) 1) p.2.1 0 < 0 then 6 else 0), Ev.bind hf (Ev.congr (fun k => by rw [if_pos rfl, if_pos (by omega)]) (Ev.bind ha (Ev.now _))), rfl, rfl, fun h => ?_⟩
      by_cases c : idxF (rdOf ByteArray.empty (spl 32 l) 1) p.2.1 0 < 0
      · dsimp only at h; rw [if_pos c] at h; cases h
      · show _ = (false, (p.1, p.2.1, (if idxF (rdOf ByteArray.empty (spl 32 l) 1) p.2.1 0 < 0 then p.2.2.1 else idxF (rdOf ByteArray.empty (spl 32 l) 1) p.2.1 0), p.2.2.2), if idxF (rdOf ByteArray.empty (spl 32 l) 1) p.2.1 0 < 0 then (6 : Int) else 0)
        rw [if_neg c, if_neg c]
    · refine ⟨(false, (p.1, p.2.1, p.2.2.1, idxF (rdOf ByteArray.empty (spl 32 l) 1) p.2.1 0, p.2.2.2.2), if idxF (rdOf ByteArray.empty (spl 32 l) 1) p.2.1 0 < 0 then 6 else 0), Ev.bind hf (Ev.congr (fun k => by rw [if_pos rfl, if_pos (by omega)]) (Ev.bind ha (Ev.now _))), rfl, rfl, fun h => ?_⟩
      by_cases c : idxF (rdOf ByteArray.empty (spl 32 l) 1) p.2.1 0 < 0
      · dsimp only at h; rw [if_pos c] at h; cases h
      · show _ = (false, (p.1, p.2.1, p.2.2.1, (if idxF (rdOf ByteArray.empty (spl 32 l) 1) p.2.1 0 < 0 then p.2.2.2.1 else idxF (rdOf ByteArray.empty (spl 32 l) 1) p.2.1 0), p.2.2.2.2), if idxF (rdOf ByteArray.empty (spl 32 l) 1) p.2.1 0 < 0 then (6 : Int) else 0)
        rw [if_neg c, if_neg c]
theorem form_move (p : Pr) (l : ByteArray) (i : Nat) (hi : 4 ≤ i) (hp : p.2.1.length ≤ 1000000) (hm : p.2.2.2.2.length ≤ 1000000) (hl : l.size ≤ 65536) (hne : ¬ l.toList = endB) : ∃ x, Ev (fun k => (moveP k (spl 32 l) p).map fun x => (false, x.1, x.2)) x ∧ Like x (lineF i false p l) := by
  have hz : (spl 32 l).length ≤ 1000000 := by have := spl_len 32 l; have := cnt_le 32 l; omega
  have h0 : 0 < (spl 32 l).length := by rw [spl_len]; omega
  have hf := form_ev (spl 32 l) (⟨#[109, 111, 118, 101]⟩ : ByteArray) 4 (by omega) h0 hz
  obtain ⟨j, rfl⟩ : ∃ j, i = j + 4 := ⟨i - 4, by omega⟩
  have e4 : formW (j + 4) = (⟨#[109, 111, 118, 101]⟩ : ByteArray) := rfl
  have elo : formLo (j + 4) = 4 := formLo4 _ (by omega)
  have ehi : formHi (j + 4) = 4 := by unfold formHi; rw [if_neg (by omega), if_neg (by omega)]
  unfold lineF
  rw [if_neg (fun h => hne h.2.1), e4, elo, ehi]
  have hmap : ∀ (f : Nat → Option (ByteArray × List ByteArray × Int × Int × (List S64) × Int)) (r), Ev f r → Ev (fun k => ((f k).map fun r => ((r.1, r.2.1, r.2.2.1, r.2.2.2.1, r.2.2.2.2.1), r.2.2.2.2.2)).map fun x => (false, x.1, x.2)) (false, (r.1, r.2.1, r.2.2.1, r.2.2.2.1, r.2.2.2.2.1), r.2.2.2.2.2) := fun f r ⟨N, h⟩ => ⟨N, fun k hk => by dsimp only; rw [h k hk]; rfl⟩
  unfold moveP
  cases hb : formF' (spl 32 l) (⟨#[109, 111, 118, 101]⟩ : ByteArray) 4 with
  | false =>
    rw [hb] at hf
    refine ⟨(false, p, 2), hmap _ (p.1, p.2.1, p.2.2.1, p.2.2.2.1, p.2.2.2.2, 2) (by unfold dataflowref39_move.f; exact Ev.bind hf (Ev.congr (fun k => if_neg (by simp)) (Ev.now _))), ?_⟩
    have hn := form_false hb
    by_cases c2 : false = true ∨ ¬ (rdOf ByteArray.empty (spl 32 l) 0).toList = (⟨#[109, 111, 118, 101]⟩ : ByteArray).toList ∨ (spl 32 l).length < 4 ∨ 4 < (spl 32 l).length
    · rw [if_pos c2]; exact ⟨rfl, fun _ => rfl⟩
    · rw [if_neg c2]
      have c3 : idxF (⟨#[]⟩ : ByteArray) (spl 32 l) 0 ≥ 0 := by
        apply Classical.byContradiction
        intro c4
        refine hn ⟨?_, ?_, by omega⟩
        · exact Classical.byContradiction fun h => c2 (Or.inr (Or.inl h))
        · have a1 : ¬ (spl 32 l).length < 4 := fun h => c2 (Or.inr (Or.inr (Or.inl h)))
          have a2 : ¬ 4 < (spl 32 l).length := fun h => c2 (Or.inr (Or.inr (Or.inr h)))
          rw [if_pos (by omega)]; omega
      rw [if_pos c3]; exact ⟨rfl, fun _ => rfl⟩
  | true =>
    rw [hb] at hf
    obtain ⟨t1, t2, t3⟩ := form_true hb
    rw [if_pos (by omega)] at t2
    rw [if_neg (by rintro (h | h | h | h); cases h; exact h t1; omega; omega), if_neg (by omega)]
    have ha := rat_ev (rdOf ByteArray.empty (spl 32 l) 1) p.2.1 hp
    have hb2 := rat_ev (rdOf ByteArray.empty (spl 32 l) 3) p.2.1 hp
    have key : Ev (fun k => dataflowref39_move.f k p.1 p.2.1 p.2.2.1 p.2.2.2.1 p.2.2.2.2 (spl 32 l)) (if idxF (rdOf ByteArray.empty (spl 32 l) 1) p.2.1 0 < 0 then (p.1, p.2.1, p.2.2.1, p.2.2.2.1, p.2.2.2.2, 6) else if idxF (rdOf ByteArray.empty (spl 32 l) 3) p.2.1 0 < 0 then (p.1, p.2.1, p.2.2.1, p.2.2.2.1, p.2.2.2.2, 6) else (p.1, p.2.1, p.2.2.1, p.2.2.2.1, p.2.2.2.2 ++ [(⟨idxF (rdOf ByteArray.empty (spl 32 l) 1) p.2.1 0, rdOf ByteArray.empty (spl 32 l) 2, idxF (rdOf ByteArray.empty (spl 32 l) 3) p.2.1 0⟩ : S64)], 0)) := by
      unfold dataflowref39_move.f
      refine Ev.bind hf (Ev.congr (fun k => by rw [if_pos rfl, if_pos (by omega)]) (Ev.bind ha (Ev.congr (fun k => by rw [if_pos (by omega), if_pos (by omega)]) (Ev.bind hb2 ?_))))
      by_cases c1 : idxF (rdOf ByteArray.empty (spl 32 l) 1) p.2.1 0 < 0
      · rw [if_pos c1, if_pos c1]; exact Ev.now _
      · rw [if_neg c1, if_neg c1]
        by_cases c2 : idxF (rdOf ByteArray.empty (spl 32 l) 3) p.2.1 0 < 0
        · rw [if_pos c2, if_pos c2]; exact Ev.now _
        · rw [if_neg c2, if_neg c2]
          refine Ev.congr (f := fun _ => some (p.1, p.2.1, p.2.2.1, p.2.2.2.1, p.2.2.2.2 ++ [(⟨idxF (rdOf ByteArray.empty (spl 32 l) 1) p.2.1 0, rdOf ByteArray.empty (spl 32 l) 2, idxF (rdOf ByteArray.empty (spl 32 l) 3) p.2.1 0⟩ : S64)], 0)) (fun k => ?_) (Ev.now _)
          simp only [Option.bind_some]
          rw [if_pos (by simp; omega), if_pos (by simp; omega), List.nil_append]
    refine ⟨_, hmap _ _ key, ?_⟩
    have et : takeF (j + 4) (spl 32 l) p = ((p.1, p.2.1, p.2.2.1, p.2.2.2.1, p.2.2.2.2 ++ [⟨idxF (rdOf ByteArray.empty (spl 32 l) 1) p.2.1 0, rdOf ByteArray.empty (spl 32 l) 2, idxF (rdOf ByteArray.empty (spl 32 l) 3) p.2.1 0⟩]), if idxF (rdOf ByteArray.empty (spl 32 l) 1) p.2.1 0 < 0 ∨ idxF (rdOf ByteArray.empty (spl 32 l) 3) p.2.1 0 < 0 then 6 else 0) := rfl
    rw [et]
    by_cases c1 : idxF (rdOf ByteArray.empty (spl 32 l) 1) p.2.1 0 < 0
    · rw [if_pos c1, if_pos (Or.inl c1)]; exact ⟨rfl, fun h => by cases h⟩
    · by_cases c2 : idxF (rdOf ByteArray.empty (spl 32 l) 3) p.2.1 0 < 0
      · rw [if_neg c1, if_pos c2, if_pos (Or.inr c2)]; exact ⟨rfl, fun h => by cases h⟩
      · rw [if_neg c1, if_neg c2, if_neg (by omega)]; exact ⟨rfl, fun _ => rfl⟩
theorem end_iff (l : ByteArray) (hl : l.size ≤ 65536) : formF' (spl 32 l) (⟨#[101, 110, 100]⟩ : ByteArray) 1 = true ↔ l.toList = endB := by
  constructor
  · intro h
    obtain ⟨t1, t2, t3⟩ := form_true h
    rw [if_pos (by omega)] at t2
    have hj := joinC_spl 32 l
    cases hs : spl 32 l with
    | nil => exact absurd hs (spl_ne 32 l)
    | cons a r =>
      rw [hs] at t1 t2 hj
      have : r = [] := by cases r with | nil => rfl | cons b r => simp at t2; omega
      subst this
      have e : a = endW := toList_inj t1
      have e2 : l = a := hj.symm
      rw [e2, e]; exact end_toList
  · intro h
    have e : l = endW := toList_inj (h.trans end_toList.symm)
    subst e
    have hs : spl 32 endW = [endW] := spl_joinC 32 [endW] (by simp) (fun x hx => by rw [List.mem_singleton.1 hx]; unfold NoL; decide)
    unfold formF'
    rw [hs, decide_eq_true (show (rdOf ByteArray.empty [endW] 0).toList = (⟨#[101, 110, 100]⟩ : ByteArray).toList from rfl), if_pos (by omega), decide_eq_true (show (([endW] : List ByteArray).length : Int) = 1 from rfl)]
    rw [idxF_none _ _ _ (fun x hx e => by rw [List.mem_singleton.1 hx] at e; exact absurd (congrArg ByteArray.size e) (by decide))]
    rfl
theorem rline_ev (i : Nat) (e : Bool) (p : Pr) (l : ByteArray) (hp : p.2.1.length ≤ 1000000) (hm : p.2.2.2.2.length ≤ 1000000) (hl : l.size ≤ 65536) : ∃ x, Ev (fun k => rlineP k i e p (spl 32 l)) x ∧ Like x (lineF i e p l) := by
  have hz : (spl 32 l).length ≤ 1000000 := by have := spl_len 32 l; have := cnt_le 32 l; omega
  have h0 : 0 < (spl 32 l).length := by rw [spl_len]; omega
  unfold rlineP
  cases e with
  | true =>
    refine ⟨(true, p, 2), Ev.congr (fun k => if_pos rfl) (Ev.now _), ?_⟩
    have : lineF i true p l = (true, p, 2) := by
      unfold lineF
      rw [if_neg (by simp), if_pos (Or.inl rfl)]
    rw [this]; exact ⟨rfl, fun _ => rfl⟩
  | false =>
    by_cases hi : i < 4
    · obtain ⟨x, ⟨N, hx⟩, h1, h2⟩ := head_ev i hi p l hp hl
      refine ⟨x, ⟨N, fun k hk => ?_⟩, h2⟩
      have hxk : headP k i (spl 32 l) p = some x.2 := hx k hk
      dsimp only
      rw [if_neg (show ¬ (false = true) by decide), if_pos hi, hxk]
      obtain ⟨x1, x2, x3⟩ := x
      have h1 : x1 = false := h1
      subst h1; rfl
    · have hf := form_ev (spl 32 l) (⟨#[101, 110, 100]⟩ : ByteArray) 1 (by omega) h0 hz
      by_cases hend : l.toList = endB
      · rw [(end_iff l hl).2 hend] at hf
        refine ⟨(true, p, 0), Ev.congr (fun k => by rw [if_neg (show ¬ (false = true) by decide), if_neg hi]) (Ev.bind hf (Ev.congr (fun k => if_pos rfl) (Ev.now _))), ?_⟩
        have : lineF i false p l = (true, p, 0) := if_pos ⟨by omega, hend, rfl⟩
        rw [this]; exact ⟨rfl, fun _ => rfl⟩
      · have hb : formF' (spl 32 l) (⟨#[101, 110, 100]⟩ : ByteArray) 1 = false := by
          cases h : formF' (spl 32 l) (⟨#[101, 110, 100]⟩ : ByteArray) 1 with
          | false => rfl
          | true => exact absurd ((end_iff l hl).1 h) hend
        rw [hb] at hf
        obtain ⟨x, hx, h2⟩ := form_move p l i (by omega) hp hm hl hend
        exact ⟨x, Ev.congr (fun k => by rw [if_neg (show ¬ (false = true) by decide), if_neg hi]) (Ev.bind hf (Ev.congr (fun k => if_neg (show ¬ (false = true) by decide)) hx)), h2⟩
theorem line_moves (i : Nat) (e : Bool) (p : Pr) (l : ByteArray) : (lineF i e p l).2.1.2.2.2.2.length ≤ p.2.2.2.2.length + 1 := by
  unfold lineF
  split
  · exact Nat.le_succ _
  · split
    · exact Nat.le_succ _
    · split
      · exact Nat.le_succ _
      · rcases i with _ | _ | _ | _ | i
        · exact Nat.le_succ _
        · exact Nat.le_succ _
        · exact Nat.le_succ _
        · exact Nat.le_succ _
        · show (p.2.2.2.2 ++ [_]).length ≤ _; rw [List.length_append]; exact Nat.le_refl _
theorem rpar_ev : ∀ (ls : List ByteArray) (i : Nat) (e : Bool) (p : Pr), p.2.1.length ≤ 1000000 → p.2.2.2.2.length + ls.length ≤ 1000000 → (∀ l ∈ ls, l.size ≤ 65536) → ∃ y, Ev (fun k => rparG k ls i e p) y ∧ y.2.2 = (parFl ls i e p).2.2 ∧ (y.2.2.2 = 0 → y = parFl ls i e p) := by
  intro ls
  induction ls with
  | nil => intro i e p _ _ _; exact ⟨_, Ev.now _, rfl, fun _ => rfl⟩
  | cons l r ih =>
    intro i e p hp hm hl
    rw [List.length_cons] at hm
    have hls := hl l List.mem_cons_self
    obtain ⟨x, hx, h1, h2⟩ := rline_ev i e p l hp (by omega) hls
    have hmv := line_moves i e p l
    have hln := line_len i e p l hp hls
    by_cases c : x.2.2 = 0
    · have hxe := h2 c
      subst hxe
      obtain ⟨y, hy, a1, a2⟩ := ih (i + 1) (lineF i e p l).1 (lineF i e p l).2.1 hln (by omega) (fun z hz => hl z (List.mem_cons_of_mem _ hz))
      refine ⟨y, Ev.bind (words_ev l hls) (Ev.bind hx (Ev.congr (fun k => if_pos c) hy)), ?_⟩
      unfold parFl
      rw [if_pos c]; exact ⟨a1, a2⟩
    · refine ⟨(x.1, x.2.1, (i : Int) + 1, x.2.2), Ev.bind (words_ev l hls) (Ev.bind hx (Ev.congr (fun k => if_neg c) (Ev.now _))), ?_⟩
      unfold parFl
      rw [if_neg (by rw [← h1]; exact c)]
      exact ⟨by rw [← h1], fun h => absurd h c⟩
theorem rpar0_ev (s : ByteArray) : Ev (fun k => rparP k s) (parF s) := by
  unfold rparP parF
  by_cases c : s.size > 65536
  · rw [if_pos c]; exact Ev.congr (fun k => if_pos c) (Ev.now _)
  · rw [if_neg c]
    have hl := lines_small s (by omega)
    have hsm := parFl_small _ 0 false pr0 small0 hl
    have hln : (spl 10 s).length ≤ 65537 := by have := spl_len 10 s; have := cnt_le 10 s; omega
    have hfl : (frontL (spl 10 s)).length = (spl 10 s).length - 1 := by unfold frontL; rw [List.length_take]; omega
    have h0 : 0 < (spl 10 s).length := by rw [spl_len]; omega
    obtain ⟨y, hy, a1, a2⟩ := rpar_ev (frontL (spl 10 s)) 0 false pr0 (Nat.zero_le _) (by rw [hfl]; show 0 + _ ≤ _; omega) hl
    refine Ev.congr (fun k => if_neg c) (Ev.bind (lines_ev s (by omega)) (Ev.congr (fun k => if_pos (show (frontL (spl 10 s)).length ≤ 1000000 by omega)) (Ev.bind hy ?_)))
    have ha : (spl 10 s).take ((spl 10 s).length - 1) = frontL (spl 10 s) := rfl
    rw [ha] at hsm ⊢
    dsimp only
    have hlen : ((frontL (spl 10 s)).length : Int) + 1 = ((spl 10 s).length : Int) := by omega
    rw [hlen]
    by_cases c1 : y.2.2.2 = 0
    · have hye := a2 c1
      subst hye
      rw [if_pos c1]
      refine Ev.congr (fun k => if_pos c1) ?_
      generalize parFl (frontL (spl 10 s)) 0 false pr0 = x at hsm c1 ⊢
      have hlast : rdOf ByteArray.empty (spl 10 s) (((spl 10 s).length : Int) - 1) = lastL (spl 10 s) := rfl
      rw [hlast]
      by_cases c2 : x.1 = false
      · rw [if_pos c2]
        exact Ev.congr (fun k => by rw [if_neg (by rw [c2]; simp), if_pos c2]) (Ev.now _)
      · rw [if_neg c2]
        have c2' : x.1 = true := by cases h : x.1 with | true => rfl | false => exact absurd h c2
        by_cases c3 : (lastL (spl 10 s)).toList = ([] : List UInt8)
        · rw [if_pos c3]
          refine Ev.congr (fun k => by rw [if_neg (fun h => h.2 c3), if_neg c2]) (Ev.bind (rcheck_ev _ _ _ _ _ hsm.good) ?_)
          by_cases c4 : chkPr x.2.1 = 0
          · rw [if_pos c4]; exact Ev.congr (fun k => if_pos c4) (Ev.now _)
          · rw [if_neg c4]; exact Ev.congr (fun k => if_neg c4) (Ev.now _)
        · rw [if_neg c3]; exact Ev.congr (fun k => if_pos ⟨c2', c3⟩) (Ev.now _)
    · rw [if_neg (by rw [← a1]; exact c1), ← a1]; exact Ev.congr (fun k => if_neg c1) (Ev.now _)
theorem rparse_ev (s : ByteArray) : Ev (fun k => dataflowref39_Parse.f k s) ((parF s).1.1, (parF s).1.2.1, (parF s).1.2.2.1, (parF s).1.2.2.2.1, (parF s).1.2.2.2.2, (parF s).2.1, (parF s).2.2) := by
  obtain ⟨K, hK⟩ := rpar0_ev s
  exact ⟨K, fun k hk => by (have h : rparP k s = some (parF s) := hK k hk); show (rparP k s).map _ = _; rw [h]; rfl⟩
/-! #### what is parsed has this text -/
theorem line_okay {i : Nat} {e : Bool} {p : Pr} {l : ByteArray} (h : (lineF i e p l).2.2 = 0) : e = false ∧ ((4 ≤ i ∧ l = endW ∧ lineF i e p l = (true, p, 0)) ∨
    ((rdOf ByteArray.empty (spl 32 l) 0 = formW i) ∧ formLo i ≤ (spl 32 l).length ∧ (spl 32 l).length ≤ formHi i ∧ lineF i e p l = (false, (takeF i (spl 32 l) p).1, (takeF i (spl 32 l) p).2) ∧ (takeF i (spl 32 l) p).2 = 0)) := by
  by_cases c1 : 4 ≤ i ∧ l.toList = endB ∧ e = false
  · have : lineF i e p l = (true, p, 0) := if_pos c1
    exact ⟨c1.2.2, .inl ⟨c1.1, toList_inj (c1.2.1.trans end_toList.symm), this⟩⟩
  · unfold lineF at h ⊢
    rw [if_neg c1] at h ⊢
    by_cases c2 : e = true ∨ ¬ (rdOf ByteArray.empty (spl 32 l) 0).toList = (formW i).toList ∨ (spl 32 l).length < formLo i ∨ formHi i < (spl 32 l).length
    · rw [if_pos c2] at h; cases h
    · rw [if_neg c2] at h ⊢
      by_cases c3 : idxF (⟨#[]⟩ : ByteArray) (spl 32 l) 0 ≥ 0
      · rw [if_pos c3] at h; cases h
      · rw [if_neg c3] at h ⊢
        have he : e = false := by cases e with | false => rfl | true => exact absurd (Or.inl rfl) c2
        subst he
        refine ⟨rfl, .inr ⟨?_, ?_, ?_, rfl, h⟩⟩
        · exact toList_inj (Classical.byContradiction fun h => c2 (Or.inr (Or.inl h)))
        · exact Nat.le_of_not_lt fun h => c2 (Or.inr (Or.inr (Or.inl h)))
        · exact Nat.le_of_not_lt fun h => c2 (Or.inr (Or.inr (Or.inr h)))
theorem list_four {l : List ByteArray} (h : l.length = 4) : l = [rdOf ByteArray.empty l 0, rdOf ByteArray.empty l 1, rdOf ByteArray.empty l 2, rdOf ByteArray.empty l 3] := by
  match l, h with
  | [a, b, c, d], _ => rfl
theorem list_two {l : List ByteArray} (h : l.length = 2) : l = [rdOf ByteArray.empty l 0, rdOf ByteArray.empty l 1] := by
  match l, h with
  | [a, b], _ => rfl
theorem list_hd {l : List ByteArray} (h : 0 < l.length) : l = rdOf ByteArray.empty l 0 :: l.drop 1 := by
  match l, h with
  | a :: r, _ => rfl
theorem par_moves : ∀ (ls : List ByteArray) (i : Nat) (p p2 : Pr) (b : Bool) (v : Int), 4 ≤ i → parFl ls i b p = (true, p2, v, 0) →
    v = 0 ∧ (b = true → ls = [] ∧ p2 = p) ∧ (b = false → ∃ mvs, p2 = (p.1, p.2.1, p.2.2.1, p.2.2.2.1, p.2.2.2.2 ++ mvs) ∧ ls.map (spl 32) = mvs.map (mvW p.2.1) ++ [[endW]]) := by
  intro ls
  induction ls with
  | nil =>
    intro i p p2 b v _ h
    have h : (b, p, (0 : Int), (0 : Int)) = (true, p2, v, 0) := h
    simp only [Prod.mk.injEq] at h
    obtain ⟨rfl, rfl, rfl, _⟩ := h
    exact ⟨rfl, fun _ => ⟨rfl, rfl⟩, fun h => by cases h⟩
  | cons l r ih =>
    intro i p p2 b v hi h
    unfold parFl at h
    by_cases c : (lineF i b p l).2.2 = 0
    · rw [if_pos c] at h
      obtain ⟨hb, hcase⟩ := line_okay c
      subst hb
      refine (fun hh => ⟨hh.1, (fun h => by cases h), fun _ => hh.2⟩ : (v = 0 ∧ ∃ mvs, p2 = (p.1, p.2.1, p.2.2.1, p.2.2.2.1, p.2.2.2.2 ++ mvs) ∧ (l :: r).map (spl 32) = mvs.map (mvW p.2.1) ++ [[endW]]) → _) ?_
      rcases hcase with ⟨_, hl, he⟩ | ⟨h1, h2, h3, he, h4⟩
      · rw [he] at h
        obtain ⟨hv, ht, _⟩ := ih (i + 1) p p2 true v (by omega) h
        obtain ⟨rfl, rfl⟩ := ht rfl
        refine ⟨hv, [], by rw [List.append_nil], ?_⟩
        have hs : spl 32 endW = [endW] := spl_joinC 32 [endW] (by simp) (fun x hx => by rw [List.mem_singleton.1 hx]; unfold NoL; decide)
        rw [hl, List.map_cons, List.map_nil, hs]; rfl
      · rw [he] at h
        obtain ⟨j, rfl⟩ : ∃ j, i = j + 4 := ⟨i - 4, by omega⟩
        rw [formLo4 _ (by omega)] at h2
        have ehi : formHi (j + 4) = 4 := by unfold formHi; rw [if_neg (by omega), if_neg (by omega)]
        rw [ehi] at h3
        obtain ⟨hv, _, hf⟩ := ih (j + 4 + 1) _ p2 false v (by omega) h
        obtain ⟨mvs, hp2, hmap⟩ := hf rfl
        have h4' : (if idxF (rdOf ByteArray.empty (spl 32 l) 1) p.2.1 0 < 0 ∨ idxF (rdOf ByteArray.empty (spl 32 l) 3) p.2.1 0 < 0 then (6 : Int) else 0) = 0 := h4
        have hok : ¬ (idxF (rdOf ByteArray.empty (spl 32 l) 1) p.2.1 0 < 0 ∨ idxF (rdOf ByteArray.empty (spl 32 l) 3) p.2.1 0 < 0) := fun h => by rw [if_pos h] at h4'; cases h4'
        have a1 := (rd_idx (rdOf ByteArray.empty (spl 32 l) 1) p.2.1 (by omega)).1
        have a3 := (rd_idx (rdOf ByteArray.empty (spl 32 l) 3) p.2.1 (by omega)).1
        refine ⟨hv, ⟨idxF (rdOf ByteArray.empty (spl 32 l) 1) p.2.1 0, rdOf ByteArray.empty (spl 32 l) 2, idxF (rdOf ByteArray.empty (spl 32 l) 3) p.2.1 0⟩ :: mvs, ?_, ?_⟩
        · rw [hp2]
          show (p.1, p.2.1, p.2.2.1, p.2.2.2.1, (p.2.2.2.2 ++ [_]) ++ mvs) = _
          rw [List.append_assoc]; rfl
        · rw [List.map_cons, List.map_cons, List.cons_append]
          congr 1
          unfold mvW
          rw [a1, a3]
          have e4 := list_four (show (spl 32 l).length = 4 by omega)
          have h1' : rdOf ByteArray.empty (spl 32 l) 0 = formW 4 := h1
          rw [h1'] at e4
          exact e4
    · rw [if_neg c] at h
      simp only [Prod.mk.injEq] at h
      exact absurd h.2.2.2 c
theorem par_head {i : Nat} {l : ByteArray} {r : List ByteArray} {p p2 : Pr} {v : Int} (hi : i < 4) (h : parFl (l :: r) i false p = (true, p2, v, 0)) : rdOf ByteArray.empty (spl 32 l) 0 = formW i ∧ formLo i ≤ (spl 32 l).length ∧ (spl 32 l).length ≤ formHi i ∧ (takeF i (spl 32 l) p).2 = 0 ∧ parFl r (i + 1) false (takeF i (spl 32 l) p).1 = (true, p2, v, 0) := by
  unfold parFl at h
  by_cases c : (lineF i false p l).2.2 = 0
  · rw [if_pos c] at h
    obtain ⟨_, hcase⟩ := line_okay c
    rcases hcase with ⟨h4, _⟩ | ⟨h1, h2, h3, he, h4⟩
    · omega
    · rw [he] at h; exact ⟨h1, h2, h3, h4, h⟩
  · rw [if_neg c] at h
    simp only [Prod.mk.injEq] at h
    exact absurd h.2.2.2 c
theorem par_lines {ls : List ByteArray} {p2 : Pr} {v : Int} (h : parFl ls 0 false pr0 = (true, p2, v, 0)) : v = 0 ∧ p2.2.1 ≠ [] ∧ ls.map (spl 32) = linesW p2.1 p2.2.1 p2.2.2.1 p2.2.2.2.1 p2.2.2.2.2 := by
  cases ls with
  | nil => simp [parFl] at h
  | cons l0 r =>
  obtain ⟨a1, a2, a3, a4, h⟩ := par_head (by omega) h
  cases r with
  | nil => simp [parFl] at h
  | cons l1 r =>
  obtain ⟨b1, b2, b3, b4, h⟩ := par_head (by omega) h
  cases r with
  | nil => simp [parFl] at h
  | cons l2 r =>
  obtain ⟨c1, c2, c3, c4, h⟩ := par_head (by omega) h
  cases r with
  | nil => simp [parFl] at h
  | cons l3 r =>
  obtain ⟨d1, d2, d3, d4, h⟩ := par_head (by omega) h
  obtain ⟨hv, _, hf⟩ := par_moves r 4 _ p2 false v (Nat.le_refl _) h
  obtain ⟨mvs, hp2, hmap⟩ := hf rfl
  have w0 := list_two (show (spl 32 l0).length = 2 from Nat.le_antisymm a3 a2)
  have w1 := list_hd (show 0 < (spl 32 l1).length from Nat.lt_of_lt_of_le (by decide) b2)
  have w2 := list_two (show (spl 32 l2).length = 2 from Nat.le_antisymm c3 c2)
  have w3 := list_two (show (spl 32 l3).length = 2 from Nat.le_antisymm d3 d2)
  have hc : ¬ idxF (rdOf ByteArray.empty (spl 32 l2) 1) ((spl 32 l1).drop 1) 0 < 0 := fun hn => by
    have c4 : (if idxF (rdOf ByteArray.empty (spl 32 l2) 1) ((spl 32 l1).drop 1) 0 < 0 then (6 : Int) else 0) = 0 := c4
    rw [if_pos hn] at c4; cases c4
  have hd : ¬ idxF (rdOf ByteArray.empty (spl 32 l3) 1) ((spl 32 l1).drop 1) 0 < 0 := fun hn => by
    have d4 : (if idxF (rdOf ByteArray.empty (spl 32 l3) 1) ((spl 32 l1).drop 1) 0 < 0 then (6 : Int) else 0) = 0 := d4
    rw [if_pos hn] at d4; cases d4
  have e2 : p2 = (rdOf ByteArray.empty (spl 32 l0) 1, (spl 32 l1).drop 1, idxF (rdOf ByteArray.empty (spl 32 l2) 1) ((spl 32 l1).drop 1) 0, idxF (rdOf ByteArray.empty (spl 32 l3) 1) ((spl 32 l1).drop 1) 0, mvs) := by
    rw [hp2]
    show (rdOf ByteArray.empty (spl 32 l0) 1, (spl 32 l1).drop 1, (if idxF (rdOf ByteArray.empty (spl 32 l2) 1) ((spl 32 l1).drop 1) 0 < 0 then (0 : Int) else idxF (rdOf ByteArray.empty (spl 32 l2) 1) ((spl 32 l1).drop 1) 0), (if idxF (rdOf ByteArray.empty (spl 32 l3) 1) ((spl 32 l1).drop 1) 0 < 0 then (0 : Int) else idxF (rdOf ByteArray.empty (spl 32 l3) 1) ((spl 32 l1).drop 1) 0), ([] : List S64) ++ mvs) = _
    rw [if_neg hc, if_neg hd, List.nil_append]
  have hmap : r.map (spl 32) = mvs.map (mvW ((spl 32 l1).drop 1)) ++ [[endW]] := hmap
  refine ⟨hv, ?_, ?_⟩
  · rw [e2]
    show (spl 32 l1).drop 1 ≠ []
    intro hn
    have := congrArg List.length hn
    rw [List.length_drop] at this
    have b2 : 2 ≤ (spl 32 l1).length := b2
    simp at this; omega
  · rw [e2]
    unfold linesW
    simp only [List.map_cons]
    rw [hmap, (rd_idx _ _ (by omega)).1, (rd_idx _ _ (by omega)).1]
    rw [a1] at w0
    rw [b1] at w1
    rw [c1] at w2
    rw [d1] at w3
    rw [← w0, ← w1, ← w2, ← w3]
theorem front_last (l : List ByteArray) (h : l ≠ []) : l = frontL l ++ [lastL l] := by
  induction l with
  | nil => exact absurd rfl h
  | cons x r ih =>
    cases r with
    | nil => simp [frontL, lastL, rdOf]
    | cons y r =>
      rw [frontL_cons x _ (by simp), lastL_cons x _ (by simp), List.cons_append, ← ih (by simp)]
theorem parse_text {s : ByteArray} (h : (parF s).2.2 = 0) : (parF s).2.1 = 0 ∧ chkPr (parF s).1 = 0 ∧ proText (parF s).1.1 (parF s).1.2.1 (parF s).1.2.2.1 (parF s).1.2.2.2.1 (parF s).1.2.2.2.2 = s := by
  unfold parF at h ⊢
  by_cases c : s.size > 65536
  · rw [if_pos c] at h; cases h
  · rw [if_neg c] at h ⊢
    dsimp only at h ⊢
    have ha : (spl 10 s).take ((spl 10 s).length - 1) = frontL (spl 10 s) := rfl
    rw [ha] at h ⊢
    have hlast : rdOf ByteArray.empty (spl 10 s) (((spl 10 s).length : Int) - 1) = lastL (spl 10 s) := rfl
    rw [hlast] at h ⊢
    cases hx : parFl (frontL (spl 10 s)) 0 false pr0 with
    | mk b x =>
    obtain ⟨p2, v, er⟩ := x
    rw [hx] at h
    dsimp only at h ⊢
    by_cases c1 : er = 0
    · subst c1
      rw [if_pos rfl] at h ⊢
      cases b with
      | false => rw [if_pos rfl] at h; cases h
      | true =>
        rw [if_neg (by simp)] at h ⊢
        by_cases c3 : (lastL (spl 10 s)).toList = ([] : List UInt8)
        · rw [if_pos c3] at h ⊢
          by_cases c4 : chkPr p2 = 0
          · rw [if_pos c4]
            obtain ⟨hv, hne, hmap⟩ := par_lines hx
            refine ⟨rfl, c4, ?_⟩
            rw [proText_eq _ _ _ _ _ hne]
            unfold tx
            rw [← hmap, List.map_map]
            have e1 : (frontL (spl 10 s)).map (joinC 32 ∘ spl 32) = frontL (spl 10 s) := by
              refine (List.map_congr_left (fun x _ => joinC_spl 32 x)).trans (List.map_id _)
            rw [e1, textL_join]
            have e2 : lastL (spl 10 s) = (⟨#[]⟩ : ByteArray) := toList_inj (c3.trans ((toList_nil _).2 rfl).symm)
            rw [← e2, ← front_last _ (spl_ne 10 s), joinC_spl]
          · rw [if_neg c4] at h; exact absurd h c4
        · rw [if_neg c3] at h; cases h
    · rw [if_neg c1] at h; exact absurd h c1
end Go.Proofs.YthfhbdncphkdaaaDoor.H

/- A valid protocol's text is parsed as the protocol; what is parsed has this text: in plain words. -/
import Derived.Test.YthfhbdncphkdaaaDoorProText
namespace Go.Proofs.YthfhbdncphkdaaaDoor.H
open Go.RowKit Go.Proofs.YthfhbdncphkdaaaDoorW.PrintWords
set_option linter.unusedVariables false
set_option linter.unusedSimpArgs false

def endW : ByteArray := ⟨#[101, 110, 100]⟩
def mvW (ss : List ByteArray) (m : S64) : List ByteArray := [formW 4, rdOf ByteArray.empty ss m.f0, m.f1, rdOf ByteArray.empty ss m.f2]
def linesW (c : ByteArray) (ss : List ByteArray) (st er : Int) (ms : List S64) : List (List ByteArray) :=
  [formW 0, c] :: (formW 1 :: ss) :: [formW 2, rdOf ByteArray.empty ss st] :: [formW 3, rdOf ByteArray.empty ss er] :: (ms.map (mvW ss) ++ [[endW]])
def tx (ls : List (List ByteArray)) : ByteArray := textL 10 (ls.map (joinC 32))
theorem emp_app (x : ByteArray) : (⟨#[]⟩ : ByteArray) ++ x = x := ByteArray.empty_append
theorem lit0 : (⟨#[112, 114, 111, 116, 111, 99, 111, 108, 32]⟩ : ByteArray) = formW 0 ++ ⟨#[32]⟩ := by rfl
theorem lit1 : (⟨#[10, 115, 116, 97, 116, 101, 115, 32]⟩ : ByteArray) = ⟨#[10]⟩ ++ (formW 1 ++ ⟨#[32]⟩) := by rfl
theorem lit2 : (⟨#[115, 116, 97, 114, 116, 32]⟩ : ByteArray) = formW 2 ++ ⟨#[32]⟩ := by rfl
theorem lit3 : (⟨#[10, 101, 114, 114, 111, 114, 32]⟩ : ByteArray) = ⟨#[10]⟩ ++ (formW 3 ++ ⟨#[32]⟩) := by rfl
theorem lit4 : (⟨#[109, 111, 118, 101, 32]⟩ : ByteArray) = formW 4 ++ ⟨#[32]⟩ := by rfl
theorem lit5 : (⟨#[101, 110, 100, 10]⟩ : ByteArray) = endW ++ ⟨#[10]⟩ := by rfl
theorem joinC_data : ∀ (ss : List ByteArray), (joinC 32 ss).data.toList = Lib.join (ss.map (·.data.toList)) [32] := by
  intro ss
  induction ss with
  | nil => rfl
  | cons x l ih =>
    cases l with
    | nil => simp [joinC, Lib.join, List.intercalate]
    | cons y l =>
      rw [joinC_cons 32 x _ (by simp), ByteArray.data_append, ByteArray.data_append, Array.toList_append, Array.toList_append, ih]
      simp [Lib.join, List.intercalate, List.intersperse]
theorem join_eq (ss : List ByteArray) : joinSp ss = joinC 32 ss := by
  unfold joinSp
  rw [← joinC_data]
theorem mvL_eq (ss : List ByteArray) (m : S64) : mvL ss m = joinC 32 (mvW ss m) ++ ⟨#[10]⟩ := by
  unfold mvL mvW
  rw [lit4]
  simp only [joinC, ByteArray.append_assoc]
theorem mvText_eq (ss : List ByteArray) : ∀ (ms : List S64) (acc : ByteArray), mvText ss ms acc = acc ++ tx (ms.map (mvW ss)) := by
  intro ms
  induction ms with
  | nil => intro acc; show acc = acc ++ (⟨#[]⟩ : ByteArray); exact ByteArray.append_empty.symm
  | cons m l ih =>
    intro acc
    unfold mvText
    rw [ih, mvL_eq]
    simp only [tx, List.map_cons, textL, ByteArray.append_assoc]
theorem proText_eq (c : ByteArray) (ss : List ByteArray) (st er : Int) (ms : List S64) (h : ss ≠ []) : proText c ss st er ms = tx (linesW c ss st er ms) := by
  unfold proText hd1 hd2 linesW tx
  rw [mvText_eq, join_eq, lit0, lit1, lit2, lit3, lit5, emp_app]
  simp only [List.map_cons, List.map_append, textL, textL_app, joinC_cons 32 (formW 1) ss h, tx]
  simp only [joinC, List.map_nil, textL, ByteArray.append_assoc, ByteArray.append_empty]
  rfl
/-! #### names -/
theorem ident_sz {s : ByteArray} (h : identS s = true) : 0 < s.size ∧ s.size ≤ 32 ∧ scan isWb s 0 = s.size := by
  unfold identS wordS at h
  simp only [Bool.and_eq_true, decide_eq_true_eq] at h
  exact ⟨h.1.1.1.1, h.1.1.1.2, h.1.2⟩
theorem ident_no {s : ByteArray} (c : UInt8) (h : identS s = true) (hc : isWb (c.toNat : Int) = false) : NoL c s := NoL.scan (ident_sz h).2.2 hc
theorem toList_inj {a b : ByteArray} (h : a.toList = b.toList) : a = b := bytes_eq h
theorem idxF_neg (s : ByteArray) : ∀ (l : List ByteArray) (k : Nat), idxF s l k < 0 → ∀ x ∈ l, x ≠ s := by
  intro l
  induction l with
  | nil => intro k _ x hx; cases hx
  | cons y r ih =>
    intro k h x hx
    unfold idxF at h
    by_cases c : y.toList = s.toList
    · rw [if_pos c] at h; omega
    · rw [if_neg c] at h
      rcases List.mem_cons.1 hx with rfl | hx
      · intro e; exact c (by rw [e])
      · exact ih _ h x hx
theorem idxF_none (s : ByteArray) : ∀ (l : List ByteArray) (k : Nat), (∀ x ∈ l, x ≠ s) → idxF s l k = -1 := by
  intro l
  induction l with
  | nil => intro k _; rfl
  | cons y r ih =>
    intro k h
    unfold idxF
    rw [if_neg (fun e => h y List.mem_cons_self (toList_inj e))]
    exact ih _ (fun x hx => h x (List.mem_cons_of_mem _ hx))
theorem idxF_first (s : ByteArray) : ∀ (l : List ByteArray) (k j : Nat) (hj : j < l.length), (∀ x ∈ l.take j, x ≠ s) → l[j] = s → idxF s l k = ((k + j : Nat) : Int) := by
  intro l
  induction l with
  | nil => intro k j hj; exact absurd hj (Nat.not_lt_zero _)
  | cons y r ih =>
    intro k j hj h1 h2
    unfold idxF
    cases j with
    | zero => rw [if_pos (by rw [← h2]; rfl)]; rfl
    | succ j =>
      rw [if_neg (fun e => h1 y (by simp) (toList_inj e))]
      rw [ih (k + 1) j (by simpa using hj) (fun x hx => h1 x (by rw [List.take_succ_cons]; exact List.mem_cons_of_mem _ hx)) (by simpa using h2)]
      congr 1
      omega
theorem idxF_at (s : ByteArray) : ∀ (l : List ByteArray) (k : Nat), 0 ≤ idxF s l k → ∃ j, ∃ hj : j < l.length, idxF s l k = ((k + j : Nat) : Int) ∧ l[j] = s := by
  intro l
  induction l with
  | nil => intro k h; unfold idxF at h; omega
  | cons y r ih =>
    intro k h
    unfold idxF at h ⊢
    by_cases c : y.toList = s.toList
    · rw [if_pos c]; exact ⟨0, by simp, rfl, toList_inj c⟩
    · rw [if_neg c] at h ⊢
      obtain ⟨j, hj, h1, h2⟩ := ih _ h
      exact ⟨j + 1, by simp; omega, by rw [h1]; congr 1; omega, by simpa using h2⟩
theorem rd_idx (s : ByteArray) (l : List ByteArray) (h : 0 ≤ idxF s l 0) : rdOf ByteArray.empty l (idxF s l 0) = s ∧ idxF s l 0 < (l.length : Int) := by
  obtain ⟨j, hj, h1, h2⟩ := idxF_at s l 0 h
  rw [h1, Nat.zero_add]
  exact ⟨by rw [rd_at l j hj]; exact h2, by omega⟩
theorem stF_zero (ss : List ByteArray) : ∀ (l : List ByteArray) (i : Nat), ss.drop i = l → stF ss l i = 0 → (∀ x ∈ l, identS x = true) ∧ ∀ j (hj : j < ss.length), i ≤ j → idxF ss[j] (ss.take j) 0 < 0 := by
  intro l
  induction l with
  | nil => intro i h _; exact ⟨fun x hx => (by cases hx), fun j hj hi => by have := drop_end ss i h; omega⟩
  | cons x r ih =>
    intro i h h0
    obtain ⟨h1, h2, h3⟩ := rdS_drop ss i x r h
    unfold stF at h0
    by_cases c1 : identS x = true
    · rw [if_pos c1] at h0
      by_cases c2 : 0 ≤ idxF x (ss.take i) 0
      · rw [if_pos c2] at h0; omega
      · rw [if_neg c2] at h0
        obtain ⟨i1, i2⟩ := ih (i + 1) h3 h0
        refine ⟨fun y hy => ?_, fun j hj hi => ?_⟩
        · rcases List.mem_cons.1 hy with rfl | hy
          · exact c1
          · exact i1 y hy
        · by_cases e : j = i
          · subst e
            have : ss[j] = x := by rw [rd_at ss j hj] at h1; exact h1
            rw [this]; omega
          · exact i2 j hj (by omega)
    · rw [if_neg c1] at h0; omega
theorem idx_self {ss : List ByteArray} (h : stF ss ss 0 = 0) (q : Int) (h0 : 0 ≤ q) (h1 : q < (ss.length : Int)) : idxF (rdOf ByteArray.empty ss q) ss 0 = q ∧ identS (rdOf ByteArray.empty ss q) = true := by
  obtain ⟨n, rfl⟩ : ∃ n : Nat, q = (n : Int) := ⟨q.toNat, by omega⟩
  obtain ⟨a1, a2⟩ := stF_zero ss ss 0 rfl h
  have hn : n < ss.length := by omega
  rw [rd_at ss n hn]
  refine ⟨?_, a1 _ (List.getElem_mem hn)⟩
  rw [idxF_first ss[n] ss 0 n hn (idxF_neg _ _ 0 (a2 n hn (Nat.zero_le _))) rfl, Nat.zero_add]
/-! #### a line that is as it should be -/
theorem line_ok (i : Nat) (p : Pr) (ws : List ByteArray) (hne : i < 4 ∨ ¬ (joinC 32 ws).toList = endB) (h0 : ∀ x ∈ ws, NoL 32 x ∧ 0 < x.size) (w : ByteArray) (r : List ByteArray) (hw : ws = w :: r) (hf : w = formW i) (hlo : formLo i ≤ ws.length) (hhi : ws.length ≤ formHi i) :
    lineF i false p (joinC 32 ws) = (false, (takeF i ws p).1, (takeF i ws p).2) := by
  have hs : spl 32 (joinC 32 ws) = ws := spl_joinC 32 ws (by rw [hw]; simp) (fun x hx => (h0 x hx).1)
  unfold lineF
  rw [hs, if_neg (by rintro ⟨h1, h2, _⟩; rcases hne with h | h; omega; exact h h2)]
  have e0 : rdOf ByteArray.empty ws 0 = w := by rw [hw]; rfl
  rw [if_neg (by
    rintro (h | h | h | h)
    · cases h
    · exact h (by rw [e0, hf])
    · omega
    · omega)]
  rw [idxF_none _ _ _ (fun x hx e => by have := (h0 x hx).2; rw [e] at this; exact absurd this (Nat.lt_irrefl _)), if_neg (by omega)]
theorem end_toList : endW.toList = endB := by kernel_rfl
theorem mv_not_end (ss : List ByteArray) (m : S64) : ¬ (joinC 32 (mvW ss m)).toList = endB := by
  intro h
  have e := toList_inj (h.trans end_toList.symm)
  have e2 := congrArg ByteArray.size e
  unfold mvW at e2
  simp only [joinC, ByteArray.size_append] at e2
  have : (formW 4).size = 4 := rfl
  have : endW.size = 3 := rfl
  omega
theorem form_no (i : Nat) (h : i ≤ 4) : (NoL 32 (formW i) ∧ 0 < (formW i).size) ∧ NoL 10 (formW i) := by
  have : i = 0 ∨ i = 1 ∨ i = 2 ∨ i = 3 ∨ i = 4 := by omega
  unfold NoL
  rcases this with rfl | rfl | rfl | rfl | rfl <;> exact ⟨⟨by decide, by decide⟩, by decide⟩
theorem nm_ok {x : ByteArray} (h : identS x = true) : NoL 32 x ∧ 0 < x.size := ⟨ident_no 32 h (by decide), (ident_sz h).1⟩
theorem mvs_back (c : ByteArray) (ss : List ByteArray) (st er : Int) (h : stF ss ss 0 = 0) : ∀ (mvs : List S64) (i : Nat) (acc : List S64), 4 ≤ i → (∀ m ∈ mvs, 0 ≤ m.f0 ∧ m.f0 < (ss.length : Int) ∧ 0 ≤ m.f2 ∧ m.f2 < (ss.length : Int) ∧ identS m.f1 = true) →
    parFl ((mvs.map (mvW ss) ++ [[endW]]).map (joinC 32)) i false (c, ss, st, er, acc) = (true, (c, ss, st, er, acc ++ mvs), 0, 0) := by
  intro mvs
  induction mvs with
  | nil =>
    intro i acc hi _
    show parFl [endW] i false _ = _
    have e : lineF i false (c, ss, st, er, acc) endW = (true, (c, ss, st, er, acc), 0) := if_pos ⟨hi, end_toList, rfl⟩
    unfold parFl
    rw [e, if_pos rfl, List.append_nil]
    rfl
  | cons m r ih =>
    intro i acc hi hm
    obtain ⟨m1, m2, m3, m4, m5⟩ := hm m List.mem_cons_self
    obtain ⟨x1, x2⟩ := idx_self h m.f0 m1 m2
    obtain ⟨y1, y2⟩ := idx_self h m.f2 m3 m4
    obtain ⟨j, rfl⟩ : ∃ j, i = j + 4 := ⟨i - 4, by omega⟩
    have e := line_ok (j + 4) (c, ss, st, er, acc) (mvW ss m) (Or.inr (mv_not_end ss m)) (fun x hx => by
      unfold mvW at hx
      simp only [List.mem_cons, List.not_mem_nil, or_false] at hx
      rcases hx with rfl | rfl | rfl | rfl
      · exact (form_no 4 (Nat.le_refl _)).1
      · exact nm_ok x2
      · exact nm_ok m5
      · exact nm_ok y2) (formW 4) _ rfl rfl (by rw [formLo4 _ (by omega)]; exact Nat.le_refl _) (by unfold formHi; rw [if_neg (by omega), if_neg (by omega)]; exact Nat.le_refl _)
    have e2 : takeF (j + 4) (mvW ss m) (c, ss, st, er, acc) = ((c, ss, st, er, acc ++ [m]), 0) := by
      show ((c, ss, st, er, acc ++ [⟨idxF (rdOf ByteArray.empty ss m.f0) ss 0, m.f1, idxF (rdOf ByteArray.empty ss m.f2) ss 0⟩]), if idxF (rdOf ByteArray.empty ss m.f0) ss 0 < 0 ∨ idxF (rdOf ByteArray.empty ss m.f2) ss 0 < 0 then (6 : Int) else 0) = _
      rw [x1, y1, if_neg (by omega)]
    rw [e2] at e
    rw [List.map_cons, List.cons_append, List.map_cons]
    unfold parFl
    rw [e, if_pos rfl, ih (j + 4 + 1) (acc ++ [m]) (by omega) (fun z hz => hm z (List.mem_cons_of_mem _ hz)), List.append_assoc]
    rfl
theorem joinC_no (c d : UInt8) (hcd : c ≠ d) : ∀ (ws : List ByteArray), (∀ x ∈ ws, NoL d x) → NoL d (joinC c ws) := by
  intro ws
  induction ws with
  | nil => intro _; exact NoL.size0 rfl
  | cons x l ih =>
    intro h
    cases l with
    | nil => exact h x List.mem_cons_self
    | cons y l =>
      rw [joinC_cons c x _ (by simp)]
      refine NoL.app (h x List.mem_cons_self) (NoL.app ?_ (ih (fun z hz => h z (List.mem_cons_of_mem _ hz))))
      intro j hj e
      have : j = 0 := by rw [one_size] at hj; omega
      subst this
      exact hcd (by simpa using e)
theorem joinC_size (c : UInt8) (n : Nat) : ∀ (ws : List ByteArray), (∀ x ∈ ws, x.size ≤ n) → (joinC c ws).size ≤ (n + 1) * ws.length := by
  intro ws
  induction ws with
  | nil => intro _; exact Nat.zero_le _
  | cons x l ih =>
    intro h
    have hx := h x List.mem_cons_self
    cases l with
    | nil => show x.size ≤ _; simp; omega
    | cons y l =>
      have := ih (fun z hz => h z (List.mem_cons_of_mem _ hz))
      rw [joinC_cons c x _ (by simp), ByteArray.size_append, ByteArray.size_append, one_size]
      rw [List.length_cons (a := x), Nat.mul_succ]
      omega
theorem mvText_le (ss : List ByteArray) : ∀ (l : List S64) (acc : ByteArray), (∀ m ∈ l, (rdOf ByteArray.empty ss m.f0).size ≤ 32 ∧ m.f1.size ≤ 32 ∧ (rdOf ByteArray.empty ss m.f2).size ≤ 32) → (mvText ss l acc).size ≤ acc.size + 104 * l.length := by
  intro l
  induction l with
  | nil => intro acc _; exact Nat.le_refl _
  | cons m r ih =>
    intro acc h
    obtain ⟨h1, h2, h3⟩ := h m List.mem_cons_self
    have := ih (acc ++ mvL ss m) (fun z hz => h z (List.mem_cons_of_mem _ hz))
    have e : (acc ++ mvL ss m).size = acc.size + (mvL ss m).size := ByteArray.size_append
    rw [mvL_size] at e
    unfold mvText
    rw [List.length_cons]
    omega
/-- What a valid protocol is like. -/
theorem valid_names {c : ByteArray} {ss : List ByteArray} {st er : Int} {ms : List S64} (h : checkF c ss st er ms = 0) :
    identS c = true ∧ (∀ x ∈ ss, identS x = true) ∧ (∀ m ∈ ms, 0 ≤ m.f0 ∧ m.f0 < (ss.length : Int) ∧ 0 ≤ m.f2 ∧ m.f2 < (ss.length : Int) ∧ identS m.f1 = true) := by
  obtain ⟨h1, h2, h3, h4, h5, h6, h7, h8⟩ := checkF_zero h
  refine ⟨h1, (stF_zero ss ss 0 rfl h5).1, fun m hm => ?_⟩
  obtain ⟨a1, a2, a3, a4, a5, _⟩ := (mvF_zero _ _ ms none h8).1 m hm
  exact ⟨a1, a2, a3, a4, a5⟩
theorem proText_size {c : ByteArray} {ss : List ByteArray} {st er : Int} {ms : List S64} (h : checkF c ss st er ms = 0) : (proText c ss st er ms).size ≤ 65536 := by
  obtain ⟨h1, h2, h3, h4, h5, h6, h7, h8⟩ := checkF_zero h
  obtain ⟨n1, n2, n3⟩ := valid_names h
  have hz := mvText_le ss ms (((⟨#[]⟩ : ByteArray) ++ hd1 c ss) ++ hd2 ss st er) (fun m hm => by
    obtain ⟨a1, a2, a3, a4, a5⟩ := n3 m hm
    exact ⟨(ident_sz (idx_self h5 _ a1 a2).2).2.1, (ident_sz a5).2.1, (ident_sz (idx_self h5 _ a3 a4).2).2.1⟩)
  have hj := joinC_size 32 32 ss (fun x hx => (ident_sz (n2 x hx)).2.1)
  have s1 := (ident_sz n1).2.1
  have s2 := (ident_sz (idx_self h5 st h6.1 h6.2.1).2).2.1
  have s3 := (ident_sz (idx_self h5 er h6.2.2.1 h6.2.2.2).2).2.1
  unfold proText
  rw [ByteArray.size_append]
  rw [ByteArray.size_append, ByteArray.size_append, hd1_size, hd2_size, join_eq] at hz
  have e0 : (⟨#[]⟩ : ByteArray).size = 0 := rfl
  have e4 : (⟨#[101, 110, 100, 10]⟩ : ByteArray).size = 4 := rfl
  omega
theorem text_parse {c : ByteArray} {ss : List ByteArray} {st er : Int} {ms : List S64} (h : checkF c ss st er ms = 0) : parF (proText c ss st er ms) = ((c, ss, st, er, ms), 0, 0) := by
  obtain ⟨h1, h2, h3, h4, h5, h6, h7, h8⟩ := checkF_zero h
  obtain ⟨n1, n2, n3⟩ := valid_names h
  have hne : ss ≠ [] := fun e => by rw [e] at h4; exact absurd h4 (Nat.lt_irrefl _)
  have hz := proText_size h
  obtain ⟨x1, x2⟩ := idx_self h5 st h6.1 h6.2.1
  obtain ⟨y1, y2⟩ := idx_self h5 er h6.2.2.1 h6.2.2.2
  have hs : spl 10 (proText c ss st er ms) = (linesW c ss st er ms).map (joinC 32) ++ [(⟨#[]⟩ : ByteArray)] := by
    rw [proText_eq _ _ _ _ _ hne]
    unfold tx
    rw [textL_join]
    refine spl_joinC 10 _ (by simp) (fun x hx => ?_)
    rcases List.mem_append.1 hx with hx | hx
    · obtain ⟨ws, hws, rfl⟩ := List.mem_map.1 hx
      refine joinC_no 32 10 (by decide) ws (fun y hy => ?_)
      have id10 : ∀ z, identS z = true → NoL 10 z := fun z hz => ident_no 10 hz (by decide)
      unfold linesW at hws
      rcases List.mem_cons.1 hws with rfl | hws
      · simp only [List.mem_cons, List.not_mem_nil, or_false] at hy
        rcases hy with rfl | rfl
        · exact (form_no 0 (by omega)).2
        · exact id10 _ n1
      rcases List.mem_cons.1 hws with rfl | hws
      · rcases List.mem_cons.1 hy with rfl | hy
        · exact (form_no 1 (by omega)).2
        · exact id10 _ (n2 y hy)
      rcases List.mem_cons.1 hws with rfl | hws
      · simp only [List.mem_cons, List.not_mem_nil, or_false] at hy
        rcases hy with rfl | rfl
        · exact (form_no 2 (by omega)).2
        · exact id10 _ x2
      rcases List.mem_cons.1 hws with rfl | hws
      · simp only [List.mem_cons, List.not_mem_nil, or_false] at hy
        rcases hy with rfl | rfl
        · exact (form_no 3 (by omega)).2
        · exact id10 _ y2
      rcases List.mem_append.1 hws with hws | hws
      · obtain ⟨m, hm, rfl⟩ := List.mem_map.1 hws
        obtain ⟨a1, a2, a3, a4, a5⟩ := n3 m hm
        unfold mvW at hy
        simp only [List.mem_cons, List.not_mem_nil, or_false] at hy
        rcases hy with rfl | rfl | rfl | rfl
        · exact (form_no 4 (by omega)).2
        · exact id10 _ (idx_self h5 _ a1 a2).2
        · exact id10 _ a5
        · exact id10 _ (idx_self h5 _ a3 a4).2
      · rw [List.mem_singleton.1 hws] at hy
        rw [List.mem_singleton.1 hy]
        unfold NoL
        decide
    · rw [List.mem_singleton.1 hx]; exact NoL.size0 rfl
  have hlen : (spl 10 (proText c ss st er ms)).length - 1 = ((linesW c ss st er ms).map (joinC 32)).length := by rw [hs]; simp
  have htake : (spl 10 (proText c ss st er ms)).take ((spl 10 (proText c ss st er ms)).length - 1) = (linesW c ss st er ms).map (joinC 32) := by
    rw [hlen, hs, List.take_left' rfl]
  have hlast : rdOf ByteArray.empty (spl 10 (proText c ss st er ms)) (((spl 10 (proText c ss st er ms)).length : Int) - 1) = (⟨#[]⟩ : ByteArray) := by
    rw [show ((spl 10 (proText c ss st er ms)).length : Int) - 1 = ((((linesW c ss st er ms).map (joinC 32)).length : Nat) : Int) by rw [hs]; simp]
    rw [hs, rd_at _ _ (by simp)]
    simp
  have hpar : parFl ((linesW c ss st er ms).map (joinC 32)) 0 false pr0 = (true, (c, ss, st, er, ms), 0, 0) := by
    have l0 := line_ok 0 pr0 [formW 0, c] (Or.inl (by omega)) (fun x hx => by
      simp only [List.mem_cons, List.not_mem_nil, or_false] at hx
      rcases hx with rfl | rfl
      · exact (form_no 0 (by omega)).1
      · exact nm_ok n1) _ _ rfl rfl (Nat.le_refl _) (Nat.le_refl _)
    have l1 := line_ok 1 (c, pr0.2) (formW 1 :: ss) (Or.inl (by omega)) (fun x hx => by
      rcases List.mem_cons.1 hx with rfl | hx
      · exact (form_no 1 (by omega)).1
      · exact nm_ok (n2 x hx)) _ _ rfl rfl (by rw [List.length_cons]; show 2 ≤ _; omega) (by rw [List.length_cons]; show _ ≤ 65536; omega)
    have l2 := line_ok 2 (c, ss, 0, 0, []) [formW 2, rdOf ByteArray.empty ss st] (Or.inl (by omega)) (fun x hx => by
      simp only [List.mem_cons, List.not_mem_nil, or_false] at hx
      rcases hx with rfl | rfl
      · exact (form_no 2 (by omega)).1
      · exact nm_ok x2) _ _ rfl rfl (Nat.le_refl _) (Nat.le_refl _)
    have l3 := line_ok 3 (c, ss, st, 0, []) [formW 3, rdOf ByteArray.empty ss er] (Or.inl (by omega)) (fun x hx => by
      simp only [List.mem_cons, List.not_mem_nil, or_false] at hx
      rcases hx with rfl | rfl
      · exact (form_no 3 (by omega)).1
      · exact nm_ok y2) _ _ rfl rfl (Nat.le_refl _) (Nat.le_refl _)
    have t0 : takeF 0 [formW 0, c] pr0 = ((c, pr0.2), 0) := rfl
    have t1 : takeF 1 (formW 1 :: ss) (c, pr0.2) = ((c, ss, 0, 0, []), 0) := rfl
    have t2 : takeF 2 [formW 2, rdOf ByteArray.empty ss st] (c, ss, 0, 0, []) = ((c, ss, st, 0, []), 0) := by
      show ((c, ss, (if idxF (rdOf ByteArray.empty ss st) ss 0 < 0 then (0 : Int) else idxF (rdOf ByteArray.empty ss st) ss 0), (0 : Int), ([] : List S64)), if idxF (rdOf ByteArray.empty ss st) ss 0 < 0 then (6 : Int) else 0) = _
      rw [x1, if_neg (by omega), if_neg (by omega)]
    have t3 : takeF 3 [formW 3, rdOf ByteArray.empty ss er] (c, ss, st, 0, []) = ((c, ss, st, er, []), 0) := by
      show ((c, ss, st, (if idxF (rdOf ByteArray.empty ss er) ss 0 < 0 then (0 : Int) else idxF (rdOf ByteArray.empty ss er) ss 0), ([] : List S64)), if idxF (rdOf ByteArray.empty ss er) ss 0 < 0 then (6 : Int) else 0) = _
      rw [y1, if_neg (by omega), if_neg (by omega)]
    rw [t0] at l0
    rw [t1] at l1
    rw [t2] at l2
    rw [t3] at l3
    unfold linesW
    rw [List.map_cons, List.map_cons, List.map_cons, List.map_cons]
    unfold parFl
    rw [l0, if_pos rfl]
    unfold parFl
    rw [l1, if_pos rfl]
    unfold parFl
    rw [l2, if_pos rfl]
    unfold parFl
    rw [l3, if_pos rfl, mvs_back c ss st er h5 ms 4 [] (Nat.le_refl _) n3, List.nil_append]
  unfold parF
  rw [if_neg (by omega), htake, hpar, hlast]
  dsimp only
  rw [if_pos rfl, if_neg (by simp), if_pos ((toList_nil _).2 rfl), if_pos (show chkPr (c, ss, st, er, ms) = 0 from h)]
end Go.Proofs.YthfhbdncphkdaaaDoor.H

/- Findings, in plain words: what the program's and the reference's functions say of them; how suppressions divide them. -/
import Derived.Test.YtnoangbidnigdaaDoorSupCheck
import Derived.Test.YtnoangbidnigdaaDoorHf45
import Derived.Test.YtnoangbidnigdaaDoorHf21
import Derived.Test.YtnoangbidnigdaaDoorHf66
import Derived.Test.YtnoangbidnigdaaDoorHf44
import Derived.Test.YtnoangbidnigdaaDoorHf67
import Derived.Test.YtnoangbidnigdaaDoorHf23
import Derived.Test.YtnoangbidnigdaaDoorHb
import Derived.Test.YtnoangbidnigdaaDoorHf86
import Derived.Test.YtnoangbidnigdaaDoorHf80
import Derived.Test.YtnoangbidnigdaaDoorHf69
import Derived.Test.YtnoangbidnigdaaDoorHf81
import Derived.Test.YtnoangbidnigdaaDoorHf70
import Derived.Test.YtnoangbidnigdaaDoorHf40
import Derived.Test.YtnoangbidnigdaaDoorHf19
import Derived.Test.YtnoangbidnigdaaDoorHf20
import Derived.Test.YtnoangbidnigdaaDoorHf22
import Derived.Test.YtnoangbidnigdaaDoorHf43
import Derived.Test.YtnoangbidnigdaaDoorHf68
import Derived.Test.YtnoangbidnigdaaDoorHf41
import Derived.Test.YtnoangbidnigdaaDoorHf18
namespace Go.Proofs.YtnoangbidnigdaaDoor.H
open Go.RowKit Go.Proofs.YtnoangbidnigdaaDoorW.PrintWords
set_option linter.unusedVariables false
set_option linter.unusedSimpArgs false

theorem gdrop {α : Type} (z : α) (L : List α) (i : Nat) (t : α) (r : List α) (h : L.drop i = t :: r) : L.getD (i : Int).toNat z = t ∧ i < L.length ∧ L.drop (i + 1) = r := by
  have hlt : i < L.length := by
    by_cases c : i < L.length
    · exact c
    · rw [List.drop_of_length_le (by omega)] at h; cases h
  rw [List.drop_eq_getElem_cons hlt] at h
  injection h with h1 h2
  refine ⟨?_, hlt, h2⟩
  rw [Int.toNat_natCast, List.getD_eq_getElem?_getD, List.getElem?_eq_getElem hlt, h1]; rfl
theorem gend {α : Type} (L : List α) (i : Nat) (h : L.drop i = []) : L.length ≤ i := List.drop_eq_nil_iff.1 h
theorem nx (i : Nat) (h : i < 9223372036854775807) : wrap64 ((i : Int) + 1) = ((i + 1 : Nat) : Int) := by rw [w64 (by omega) (by omega)]; rfl
/-! #### the order -/
def cmpI (a b : Int) : Int := if a < b then -1 else if a > b then 1 else 0
def cmpB (a b : ByteArray) : Int := if Op.bytesLess a.toList b.toList = true then -1 else if Op.bytesLess b.toList a.toList = true then 1 else 0
def orI (a b : Int) : Int := if a = 0 then b else a
def orL : List Int → Int
  | [] => 0
  | x :: l => orI x (orL l)
theorem orI_zero (x : Int) : orI x 0 = x := by unfold orI; split <;> omega
def cmpPl (a b : S25) : Int := orI (cmpB a.f0 b.f0) (orI (cmpB a.f1 b.f1) (cmpI a.f2 b.f2))
def cmpPa : List S25 → List S25 → Int
  | [], [] => 0
  | [], _ :: _ => -1
  | _ :: _, [] => 1
  | a :: l, b :: m => orI (cmpPl a b) (cmpPa l m)
def cmpF (f g : S28) : Int := orI (cmpPl f.f1 g.f1) (orI (cmpI f.f0 g.f0) (orI (cmpB f.f2 g.f2) (cmpPa f.f3 g.f3)))
theorem cmpI_self (a : Int) : cmpI a a = 0 := by unfold cmpI; rw [if_neg (by omega), if_neg (by omega)]
theorem cmpB_self (a : ByteArray) : cmpB a a = 0 := by
  have h := xs_tri a.toList a.toList
  have h2 : Op.bytesLess a.toList a.toList = false := by
    cases hb : Op.bytesLess a.toList a.toList with
    | false => rfl
    | true => rw [hb] at h; simp at h
  unfold cmpB; rw [h2]; simp
theorem orI_self : orI 0 0 = 0 := rfl
theorem cmpPl_self (a : S25) : cmpPl a a = 0 := by unfold cmpPl; rw [cmpB_self, cmpB_self, cmpI_self]; rfl
theorem cmpPa_self : ∀ l : List S25, cmpPa l l = 0 := by
  intro l
  induction l with
  | nil => rfl
  | cons a l ih => unfold cmpPa; rw [cmpPl_self, ih]; rfl
theorem cmpF_self (f : S28) : cmpF f f = 0 := by unfold cmpF; rw [cmpPl_self, cmpI_self, cmpB_self, cmpPa_self]; rfl
theorem numbers_eq (a b : Int) : dataflowref45_numbers.f a b = some (cmpI a b) := by
  unfold dataflowref45_numbers.f cmpI
  by_cases h : a < b
  · rw [if_pos h, if_pos h]
  · rw [if_neg h, if_neg h]; split <;> rfl
theorem words_eq (a b : ByteArray) : dataflowref45_words.f a b = some (cmpB a b) := by
  unfold dataflowref45_words.f cmpB
  by_cases h : Op.bytesLess a.toList b.toList = true
  · rw [if_pos h, if_pos h]
  · rw [if_neg h, if_neg h]; split <;> rfl
theorem cmpI_eq (a b : Int) : cmp_Compare_int.f a b = some (cmpI a b) := by
  unfold cmp_Compare_int.f cmp_isNaN_int.f cmpI
  simp only [bne_self_eq_false, Option.bind_some, Bool.false_eq_true, if_false]
  by_cases h : a < b
  · rw [if_pos h, if_pos h]
  · rw [if_neg h, if_neg h]; split <;> rfl
theorem cmpB_eq (a b : ByteArray) : cmp_Compare_string.f a b = some (cmpB a b) := by
  unfold cmp_Compare_string.f cmp_isNaN_string.f cmpB
  simp only [bne_self_eq_false, Option.bind_some, Bool.false_eq_true, if_false]
  by_cases h : Op.bytesLess a.toList b.toList = true
  · rw [if_pos h, if_pos h]
  · rw [if_neg h, if_neg h]; split <;> rfl
theorem rpl_eq (a b : S25) : dataflowref45_ComparePlaces.f a.f0 a.f1 a.f2 b.f0 b.f1 b.f2 = some (cmpPl a b) := by
  unfold dataflowref45_ComparePlaces.f cmpPl orI
  simp only [words_eq, numbers_eq, Option.bind_some]
  by_cases h : cmpB a.f0 b.f0 = 0 <;> by_cases h2 : cmpB a.f1 b.f1 = 0 <;> simp [h, h2]
theorem or_l (L : List Int) (hL : L.length ≤ 1000) : ∀ (l : List Int) (i : Nat), L.drop i = l → Ev (fun k => cmp_Or_int.l0 k 0 L L.length i) (orL l) := by
  intro l
  induction l with
  | nil =>
    intro i h
    have := gend L i h
    exact Ev.step (f := fun _ => some 0) (fun k => by simp only [cmp_Or_int.l0]; rw [if_neg (by omega)]) (Ev.now _)
  | cons x r ih =>
    intro i h
    obtain ⟨h1, h2, h3⟩ := gdrop 0 L i x r h
    have h1' : rd L (i : Int) = x := h1
    unfold orL orI
    by_cases c : x = 0
    · rw [if_pos c]
      refine Ev.step (fun k => ?_) (ih (i + 1) h3)
      simp only [cmp_Or_int.l0]; rw [if_pos (by omega), if_pos (by omega), if_pos (by omega), h1', if_pos c, nx i (by omega)]
    · rw [if_neg c]
      refine Ev.step (f := fun _ => some x) (fun k => ?_) (Ev.now _)
      simp only [cmp_Or_int.l0]; rw [if_pos (by omega), if_pos (by omega), if_pos (by omega), h1', if_neg c]
theorem lpl_ev (a b : S25) : Ev (fun k => finding_comparePlaces.f k a.f0 a.f1 a.f2 b.f0 b.f1 b.f2) (cmpPl a b) := by
  have e : orL [cmpB a.f0 b.f0, cmpB a.f1 b.f1, cmpI a.f2 b.f2] = cmpPl a b := by unfold cmpPl; simp only [orL]; rw [orI_zero]
  rw [← e]
  exact Ev.congr (f := fun k => (cmp_Or_int.f k [cmpB a.f0 b.f0, cmpB a.f1 b.f1, cmpI a.f2 b.f2]).bind fun t => some t) (fun k => by unfold finding_comparePlaces.f; rw [cmpB_eq, cmpB_eq, cmpI_eq]; rfl) (Ev.bind (or_l [cmpB a.f0 b.f0, cmpB a.f1 b.f1, cmpI a.f2 b.f2] (by simp) _ 0 rfl) (Ev.now _))
theorem lpa_l (A B : List S25) (hA : A.length ≤ 1000000) : ∀ (l m : List S25) (i : Nat), A.drop i = l → B.drop i = m → i ≤ A.length → i ≤ B.length → Ev (fun k => api_Place_86.l0 k A B A A.length i) (cmpPa l m) := by
  intro l
  induction l with
  | nil =>
    intro m i h hm hi hj
    have h1 := gend A i h
    cases m with
    | nil =>
      have h2 := gend B i hm
      exact Ev.step (f := fun _ => some 0) (fun k => by simp only [api_Place_86.l0]; rw [if_neg (by omega), if_neg (by omega)]) (Ev.now _)
    | cons b m =>
      have h2 := (gdrop b B i b m hm).2.1
      exact Ev.step (f := fun _ => some (-1)) (fun k => by simp only [api_Place_86.l0]; rw [if_neg (by omega), if_pos (by omega)]) (Ev.now _)
  | cons a l ih =>
    intro m i h hm hi hj
    obtain ⟨h1, h2, h3⟩ := gdrop z25 A i a l h
    have h1' : rd_T25 A (i : Int) = a := h1
    cases m with
    | nil =>
      have h4 := gend B i hm
      exact Ev.step (f := fun _ => some 1) (fun k => by simp only [api_Place_86.l0]; rw [if_pos (by omega), if_pos (by omega), if_pos (by omega), if_pos (by omega)]) (Ev.now _)
    | cons b m =>
      obtain ⟨g1, g2, g3⟩ := gdrop z25 B i b m hm
      have g1' : rd_T25 B (i : Int) = b := g1
      refine Ev.step (f := fun k => (finding_comparePlaces.f k a.f0 a.f1 a.f2 b.f0 b.f1 b.f2).bind fun t => (if t = 0 then (api_Place_86.l0 k A B A A.length ((i + 1 : Nat) : Int)) else some t)) (fun k => ?_) (Ev.bind (lpl_ev a b) ?_)
      · simp only [api_Place_86.l0]; rw [if_pos (by omega), if_pos (by omega), if_pos (by omega), if_neg (by omega), if_pos (by omega), h1', g1', nx i (by omega)]
      · unfold cmpPa orI
        by_cases c : cmpPl a b = 0
        · rw [if_pos c]; exact Ev.congr (fun k => by rw [if_pos c]) (ih m (i + 1) h3 g3 (by omega) (by omega))
        · rw [if_neg c]; exact Ev.congr (fun k => by rw [if_neg c]) (Ev.now _)
theorem lcmp_ev (f g : S28) (hf : f.f3.length ≤ 1000000) : Ev (fun k => finding_Compare.f k f.f0 f.f1.f0 f.f1.f1 f.f1.f2 f.f2 f.f3 g.f0 g.f1.f0 g.f1.f1 g.f1.f2 g.f2 g.f3) (cmpF f g) := by
  have e : orL [cmpPl f.f1 g.f1, cmpI f.f0 g.f0, cmpB f.f2 g.f2, cmpPa f.f3 g.f3] = cmpF f g := by unfold cmpF; simp only [orL]; rw [orI_zero]
  rw [← e]
  refine Ev.congr (f := fun k => (finding_comparePlaces.f k f.f1.f0 f.f1.f1 f.f1.f2 g.f1.f0 g.f1.f1 g.f1.f2).bind fun t => ((api_Place_86.f k f.f3 g.f3).bind fun t2 => ((cmp_Or_int.f k [t, cmpI f.f0 g.f0, cmpB f.f2 g.f2, t2]).bind fun t3 => some t3))) (fun k => by unfold finding_Compare.f; rw [cmpB_eq, cmpI_eq]; rfl) (Ev.bind (lpl_ev f.f1 g.f1) (Ev.bind (lpa_l f.f3 g.f3 hf f.f3 g.f3 0 rfl rfl (Nat.zero_le _) (Nat.zero_le _)) ?_))
  exact Ev.bind (or_l [cmpPl f.f1 g.f1, cmpI f.f0 g.f0, cmpB f.f2 g.f2, cmpPa f.f3 g.f3] (by simp) _ 0 rfl) (Ev.now _)
theorem rpa_l (u v : S28) (hA : u.f3.length ≤ 1000000) : ∀ (l m : List S25) (i : Nat), u.f3.drop i = l → v.f3.drop i = m → i ≤ u.f3.length → i ≤ v.f3.length → Ev (fun k => dataflowref45_Compare.l0 k i u.f0 u.f1.f0 u.f1.f1 u.f1.f2 u.f2 u.f3 v.f0 v.f1.f0 v.f1.f1 v.f1.f2 v.f2 v.f3) (cmpPa l m) := by
  have hend : ∀ (i : Nat) (c : Int), cmpI u.f3.length v.f3.length = c → Ev (fun k => dataflowref45_Compare.j1 k i false u.f0 u.f1.f0 u.f1.f1 u.f1.f2 u.f2 u.f3 v.f0 v.f1.f0 v.f1.f1 v.f1.f2 v.f2 v.f3) c := fun i c hc =>
    Ev.step (f := fun _ => some c) (fun k => by simp only [dataflowref45_Compare.j1]; rw [if_neg (by simp), numbers_eq, hc]; rfl) (Ev.now _)
  intro l
  induction l with
  | nil =>
    intro m i h hm hi hj
    have h1 := gend u.f3 i h
    refine Ev.step (fun k => by simp only [dataflowref45_Compare.l0]; rw [if_neg (by omega)]) (hend i _ ?_)
    unfold cmpI
    cases m with
    | nil => have h2 := gend v.f3 i hm; rw [if_neg (by omega), if_neg (by omega)]; rfl
    | cons b m => have h2 := (gdrop b v.f3 i b m hm).2.1; rw [if_pos (by omega)]; rfl
  | cons a l ih =>
    intro m i h hm hi hj
    obtain ⟨h1, h2, h3⟩ := gdrop z25 u.f3 i a l h
    have h1' : rd_T25 u.f3 (i : Int) = a := h1
    cases m with
    | nil =>
      have h4 := gend v.f3 i hm
      refine Ev.step (fun k => by simp only [dataflowref45_Compare.l0]; rw [if_pos (by omega), decide_eq_false (by omega)]) (hend i _ ?_)
      unfold cmpI; rw [if_neg (by omega), if_pos (by omega)]; rfl
    | cons b m =>
      obtain ⟨g1, g2, g3⟩ := gdrop z25 v.f3 i b m hm
      have g1' : rd_T25 v.f3 (i : Int) = b := g1
      refine Ev.step (f := fun k => dataflowref45_Compare.j1 k i true u.f0 u.f1.f0 u.f1.f1 u.f1.f2 u.f2 u.f3 v.f0 v.f1.f0 v.f1.f1 v.f1.f2 v.f2 v.f3) (fun k => by simp only [dataflowref45_Compare.l0]; rw [if_pos (by omega), decide_eq_true (by omega)]) ?_
      unfold cmpPa orI
      by_cases c : cmpPl a b = 0
      · rw [if_pos c]
        refine Ev.step (fun k => ?_) (ih m (i + 1) h3 g3 (by omega) (by omega))
        simp only [dataflowref45_Compare.j1]; rw [if_pos trivial, if_pos (by omega), if_pos (by omega), if_pos (by omega), h1', g1', rpl_eq, Option.bind_some, if_pos c, nx i (by omega)]
      · rw [if_neg c]
        refine Ev.step (f := fun _ => some (cmpPl a b)) (fun k => ?_) (Ev.now _)
        simp only [dataflowref45_Compare.j1]; rw [if_pos trivial, if_pos (by omega), if_pos (by omega), if_pos (by omega), h1', g1', rpl_eq, Option.bind_some, if_neg c]
theorem rcmp_ev (f g : S28) (hf : f.f3.length ≤ 1000000) : Ev (fun k => dataflowref45_Compare.f k f.f0 f.f1.f0 f.f1.f1 f.f1.f2 f.f2 f.f3 g.f0 g.f1.f0 g.f1.f1 g.f1.f2 g.f2 g.f3) (cmpF f g) := by
  unfold cmpF orI
  by_cases c1 : cmpPl f.f1 g.f1 = 0
  · rw [if_pos c1]
    by_cases c2 : cmpI f.f0 g.f0 = 0
    · rw [if_pos c2]
      by_cases c3 : cmpB f.f2 g.f2 = 0
      · rw [if_pos c3]
        exact Ev.congr (fun k => by unfold dataflowref45_Compare.f; rw [rpl_eq, Option.bind_some, if_pos c1, numbers_eq, Option.bind_some, if_pos c2, words_eq, Option.bind_some, if_pos c3]; rfl) (rpa_l f g hf f.f3 g.f3 0 rfl rfl (Nat.zero_le _) (Nat.zero_le _))
      · rw [if_neg c3]
        exact Ev.congr (fun k => by unfold dataflowref45_Compare.f; rw [rpl_eq, Option.bind_some, if_pos c1, numbers_eq, Option.bind_some, if_pos c2, words_eq, Option.bind_some, if_neg c3]) (Ev.now _)
    · rw [if_neg c2]
      exact Ev.congr (fun k => by unfold dataflowref45_Compare.f; rw [rpl_eq, Option.bind_some, if_pos c1, numbers_eq, Option.bind_some, if_neg c2]) (Ev.now _)
  · rw [if_neg c1]
    exact Ev.congr (fun k => by unfold dataflowref45_Compare.f; rw [rpl_eq, Option.bind_some, if_neg c1]) (Ev.now _)
end Go.Proofs.YtnoangbidnigdaaDoor.H
/-! The checks of findings; how suppressions divide findings. -/
namespace Go.Proofs.YtnoangbidnigdaaDoor.H
open Go.RowKit Go.Proofs.YtnoangbidnigdaaDoorW.PrintWords
set_option linter.unusedVariables false
set_option linter.unusedSimpArgs false

abbrev SzP (p : S25) : Prop := p.f0.size ≤ 9223372036854775807 ∧ p.f1.size ≤ 9223372036854775807
/-- What the check of a place says. -/
def plS (p : S25) : Int := if identS p.f0 = true ∧ identS p.f1 = true then (if p.f2 < 0 ∨ p.f2 ≥ 1024 then 4 else 0) else 5
theorem lplace_ev (p : S25) (hp : SzP p) : Ev (fun k => finding_checkPlace.f k p.f0 p.f1 p.f2) (plS p) := by
  have hj : ∀ b, Ev (fun k => finding_checkPlace.j0 k b p.f0 p.f1 p.f2) (if b = true then 5 else if p.f2 < 0 ∨ p.f2 ≥ 1024 then 4 else 0) := by
    intro b
    refine Ev.step (f := fun _ => some (if b = true then 5 else if p.f2 < 0 ∨ p.f2 ≥ 1024 then 4 else 0)) (fun k => ?_) (Ev.now _)
    simp only [finding_checkPlace.j0]
    by_cases h : b = true <;> by_cases h1 : p.f2 < 0 <;> by_cases h2 : p.f2 ≥ 1024 <;> simp [h, h1, h2]
  unfold plS
  refine Ev.congr (f := fun k => (lex_Ident.f k p.f0).bind fun t => (if t = true then ((lex_Ident.f k p.f1).bind fun t2 => (finding_checkPlace.j0 k (!t2) p.f0 p.f1 p.f2)) else (finding_checkPlace.j0 k true p.f0 p.f1 p.f2))) (fun k => rfl) (Ev.bind (ident_ev p.f0 hp.1) ?_)
  cases h1 : identS p.f0 with
  | false => simpa using hj true
  | true =>
    refine Ev.congr (f := fun k => ((lex_Ident.f k p.f1).bind fun t2 => (finding_checkPlace.j0 k (!t2) p.f0 p.f1 p.f2))) (fun k => by rw [if_pos rfl]) (Ev.bind (ident_ev p.f1 hp.2) ?_)
    cases h2 : identS p.f1 with
    | false => simpa using hj true
    | true => simpa using hj false
theorem rplace_ev (p : S25) (hp : SzP p) : Ev (fun k => dataflowref45_CheckPlace.f k p.f0 p.f1 p.f2) (plS p) := by
  have hj : ∀ b, Ev (fun k => dataflowref45_CheckPlace.j0 k b p.f0 p.f1 p.f2) (if b = true then 5 else if p.f2 < 0 ∨ p.f2 ≥ 1024 then 4 else 0) := by
    intro b
    refine Ev.step (f := fun _ => some (if b = true then 5 else if p.f2 < 0 ∨ p.f2 ≥ 1024 then 4 else 0)) (fun k => ?_) (Ev.now _)
    simp only [dataflowref45_CheckPlace.j0]
    by_cases h : b = true <;> by_cases h1 : p.f2 < 0 <;> by_cases h2 : p.f2 ≥ 1024 <;> simp [h, h1, h2]
  unfold plS
  refine Ev.congr (f := fun k => (dataflowref07_Ident.f k p.f0).bind fun t => (if t = true then ((dataflowref07_Ident.f k p.f1).bind fun t2 => (dataflowref45_CheckPlace.j0 k (!t2) p.f0 p.f1 p.f2)) else (dataflowref45_CheckPlace.j0 k true p.f0 p.f1 p.f2))) (fun k => rfl) (Ev.bind (rident_ev p.f0 hp.1) ?_)
  cases h1 : identS p.f0 with
  | false => simpa using hj true
  | true =>
    refine Ev.congr (f := fun k => ((dataflowref07_Ident.f k p.f1).bind fun t2 => (dataflowref45_CheckPlace.j0 k (!t2) p.f0 p.f1 p.f2))) (fun k => by rw [if_pos rfl]) (Ev.bind (rident_ev p.f1 hp.2) ?_)
    cases h2 : identS p.f1 with
    | false => simpa using hj true
    | true => simpa using hj false
/-! #### the names -/
theorem win_of (s : ByteArray) (h : ∀ x ∈ s.toList, 33 ≤ x.toNat ∧ x.toNat ≤ 126) : winS 33 s = true := by
  refine decide_eq_true (scan_eq _ s 0 s.size (Nat.zero_le _) (Nat.le_refl _) (fun j _ hj => ?_) (fun h => absurd h (Nat.lt_irrefl _)))
  have e : bt s j = ((s[j]'hj).toNat : Int) := by simp [bt, hj]
  have hl : j < s.data.toList.length := by rw [Array.length_toList]; exact hj
  have e2 : s[j]'hj = s.data.toList[j] := by simp [ByteArray.getElem_eq_getElem_data]
  have := h (s[j]'hj) (by rw [Lib.toList_data, e2]; exact List.getElem_mem hl)
  rw [e]
  exact decide_eq_true (by omega)
theorem win_ident (s : ByteArray) (h : identS s = true) : winS 33 s = true ∧ 1 ≤ s.size ∧ s.size ≤ 32 := by
  unfold identS wordS at h
  simp only [Bool.and_eq_true, decide_eq_true_eq] at h
  obtain ⟨⟨⟨⟨h1, h2⟩, _⟩, h4⟩, _⟩ := h
  refine ⟨decide_eq_true (scan_eq _ s 0 s.size (Nat.zero_le _) (Nat.le_refl _) (fun j _ hj => ?_) (fun h => absurd h (Nat.lt_irrefl _))), h1, h2⟩
  have h5 := scan_all isWb s 0 j (Nat.zero_le _) (by omega)
  unfold isWb isLb isDb at h5
  simp only [Bool.or_eq_true, decide_eq_true_eq, beq_iff_eq] at h5
  exact decide_eq_true (by omega)
def trueB : List UInt8 := [116, 114, 117, 101]
def falsB : List UInt8 := [102, 97, 108, 115, 101]
def tfS (w : ByteArray) : Bool := w.toList == trueB || w.toList == falsB
theorem size_list (s : ByteArray) : s.toList.length = s.size := by rw [Lib.toList_data, Array.length_toList]; rfl
theorem win_tf (s : ByteArray) (h : tfS s = true) : winS 33 s = true ∧ 1 ≤ s.size ∧ s.size ≤ 32 := by
  unfold tfS at h
  simp only [Bool.or_eq_true, beq_iff_eq] at h
  rw [← size_list s]
  rcases h with h | h
  · exact ⟨win_of s (by rw [h]; decide), by rw [h]; decide, by rw [h]; decide⟩
  · exact ⟨win_of s (by rw [h]; decide), by rw [h]; decide, by rw [h]; decide⟩
/-- May a kind have this What? -/
def namS (kd : Int) (w : ByteArray) : Bool := if kd = 2 ∨ kd = 3 then identS w else if kd = 4 then tfS w else (winS 33 w && decide (1 ≤ w.size ∧ w.size ≤ 32))
theorem namS_in (kd : Int) (w : ByteArray) (h : namS kd w = true) : winS 33 w = true ∧ 1 ≤ w.size ∧ w.size ≤ 32 := by
  unfold namS at h
  by_cases c : kd = 2 ∨ kd = 3
  · rw [if_pos c] at h; exact win_ident w h
  · rw [if_neg c] at h
    by_cases c2 : kd = 4
    · rw [if_pos c2] at h; exact win_tf w h
    · rw [if_neg c2] at h; simpa using h
theorem rnam_ev (kd : Int) (w : ByteArray) (hw : w.size ≤ 9223372036854775807) : Ev (fun k => dataflowref45_named.f k kd w) (namS kd w) := by
  have hj : Ev (fun k => dataflowref45_named.j0 k w kd (decide (kd = 2 ∨ kd = 3))) (namS kd w) := by
    unfold namS
    by_cases c : kd = 2 ∨ kd = 3
    · rw [if_pos c]
      exact Ev.step (f := fun k => (dataflowref07_Ident.f k w).bind fun t => some t) (fun k => by simp only [dataflowref45_named.j0]; rw [if_pos (decide_eq_true c)]) (Ev.bind (rident_ev w hw) (Ev.now _))
    · rw [if_neg c]
      have hc : ¬ decide (kd = 2 ∨ kd = 3) = true := by rw [decide_eq_false c]; exact Bool.false_ne_true
      by_cases c2 : kd = 4
      · rw [if_pos c2]
        refine Ev.step (f := fun _ => some (tfS w)) (fun k => ?_) (Ev.now _)
        simp only [dataflowref45_named.j0]; rw [if_neg hc, if_pos c2]
        unfold tfS trueB falsB
        by_cases c3 : w.toList = ([116, 114, 117, 101] : List UInt8)
        · rw [if_pos c3, c3]; rfl
        · rw [if_neg c3, beq_eq_false_iff_ne.2 c3, Bool.false_or]
      · rw [if_neg c2]
        exact Ev.step (f := fun k => (dataflowref45_Word.f k w).bind fun t => some t) (fun k => by simp only [dataflowref45_named.j0]; rw [if_neg hc, if_neg c2]) (Ev.bind (word_ev w hw) (Ev.now _))
  refine Ev.congr (fun k => ?_) hj
  unfold dataflowref45_named.f
  by_cases c : kd = 2
  · rw [if_pos c]; subst c; rfl
  · rw [if_neg c]
    have : (kd == 3) = decide (kd = 2 ∨ kd = 3) := by
      by_cases c2 : kd = 3
      · subst c2; rfl
      · rw [beq_eq_false_iff_ne.2 c2, decide_eq_false (by omega)]
    rw [this]
theorem lnam_l (f : S28) (hw : f.f2.size ≤ 32) : ∀ (d i : Nat), f.f2.size - i = d → i ≤ f.f2.size → Ev (fun k => finding_named.l0 k f.f2.size i f.f0 f.f1.f0 f.f1.f1 f.f1.f2 f.f2 f.f3) (decide (scan (okB 33) f.f2 i = f.f2.size) && (if f.f0 = 2 ∨ f.f0 = 3 then identS f.f2 else if f.f0 = 4 then tfS f.f2 else true)) := by
  have hj : Ev (fun k => finding_named.j2 k f.f0 (decide (f.f0 = 2 ∨ f.f0 = 3)) f.f0 f.f1.f0 f.f1.f1 f.f1.f2 f.f2 f.f3) (if f.f0 = 2 ∨ f.f0 = 3 then identS f.f2 else if f.f0 = 4 then tfS f.f2 else true) := by
    by_cases c : f.f0 = 2 ∨ f.f0 = 3
    · rw [if_pos c]
      exact Ev.step (f := fun k => (lex_Ident.f k f.f2).bind fun t => some t) (fun k => by simp only [finding_named.j2]; rw [if_pos (decide_eq_true c)]) (Ev.bind (ident_ev f.f2 (by omega)) (Ev.now _))
    · rw [if_neg c]
      have hc : ¬ decide (f.f0 = 2 ∨ f.f0 = 3) = true := by rw [decide_eq_false c]; exact Bool.false_ne_true
      by_cases c2 : f.f0 = 4
      · rw [if_pos c2]
        refine Ev.step (f := fun _ => some (tfS f.f2)) (fun k => ?_) (Ev.now _)
        simp only [finding_named.j2]; rw [if_neg hc, if_pos c2]
        unfold tfS trueB falsB
        by_cases c3 : f.f2.toList = ([116, 114, 117, 101] : List UInt8)
        · rw [if_pos c3, c3]; rfl
        · rw [if_neg c3, beq_eq_false_iff_ne.2 c3, Bool.false_or]
      · rw [if_neg c2]
        exact Ev.step (f := fun _ => some true) (fun k => by simp only [finding_named.j2]; rw [if_neg hc, if_neg c2]) (Ev.now _)
  intro d
  induction d with
  | zero =>
    intro i h hi
    rw [scan_end _ _ i (by omega), decide_eq_true (by omega : i = f.f2.size), Bool.true_and]
    refine Ev.step (fun k => ?_) hj
    simp only [finding_named.l0]; rw [if_neg (by omega)]
    by_cases c : f.f0 = 2
    · rw [if_pos c, c]; rfl
    · rw [if_neg c]
      have : (f.f0 == 3) = decide (f.f0 = 2 ∨ f.f0 = 3) := by
        by_cases c2 : f.f0 = 3
        · rw [c2]; rfl
        · rw [beq_eq_false_iff_ne.2 c2, decide_eq_false (by omega)]
      rw [this]
  | succ d ih =>
    intro i h hi
    have hlt : i < f.f2.size := by omega
    by_cases h1 : bt f.f2 i < 33
    · have hp : okB 33 (bt f.f2 i) = false := decide_eq_false (by omega)
      rw [scan_no _ _ i hlt hp, decide_eq_false (by omega : ¬ i = f.f2.size), Bool.false_and]
      refine Ev.step (f := fun _ => some false) (fun k => ?_) (Ev.now _)
      simp only [finding_named.l0]; rw [if_pos (by omega), if_pos (by omega), if_pos (by omega), if_pos h1]
    · by_cases h2 : bt f.f2 i > 126
      · have hp : okB 33 (bt f.f2 i) = false := decide_eq_false (by omega)
        rw [scan_no _ _ i hlt hp, decide_eq_false (by omega : ¬ i = f.f2.size), Bool.false_and]
        refine Ev.step (f := fun _ => some false) (fun k => ?_) (Ev.now _)
        simp only [finding_named.l0]; rw [if_pos (by omega), if_pos (by omega), if_pos (by omega), if_neg h1, if_pos h2]
      · have hp : okB 33 (bt f.f2 i) = true := decide_eq_true (by omega)
        rw [scan_at _ _ i hlt hp]
        refine Ev.step (fun k => ?_) (ih (i + 1) (by omega) (by omega))
        simp only [finding_named.l0]; rw [if_pos (by omega), if_pos (by omega), if_pos (by omega), if_neg h1, if_neg h2, nx i (by omega)]
theorem lnam_ev (f : S28) (hw : f.f2.size ≤ 9223372036854775807) : Ev (fun k => finding_named.f k f.f0 f.f1.f0 f.f1.f1 f.f1.f2 f.f2 f.f3) (namS f.f0 f.f2) := by
  have ht : Ev (fun k => finding_named.j0 k true f.f0 f.f1.f0 f.f1.f1 f.f1.f2 f.f2 f.f3) false := Ev.step (f := fun _ => some false) (fun k => by simp only [finding_named.j0]; rw [if_pos trivial]) (Ev.now _)
  by_cases h0 : f.f2.toList = ([] : List UInt8)
  · have hz := (nil_size f.f2).1 h0
    have : namS f.f0 f.f2 = false := by
      cases hn : namS f.f0 f.f2 with
      | false => rfl
      | true => have := (namS_in _ _ hn).2.1; omega
    rw [this]
    exact Ev.congr (fun k => by unfold finding_named.f; rw [if_pos h0]) ht
  · have hz : 1 ≤ f.f2.size := by
      rcases Nat.eq_zero_or_pos f.f2.size with h | h
      · exact absurd ((nil_size f.f2).2 h) h0
      · exact h
    by_cases h1 : (f.f2.size : Int) > 32
    · have : namS f.f0 f.f2 = false := by
        cases hn : namS f.f0 f.f2 with
        | false => rfl
        | true => have := (namS_in _ _ hn).2.2; omega
      rw [this]
      exact Ev.congr (fun k => by unfold finding_named.f; rw [if_neg h0, decide_eq_true h1]) ht
    · refine Ev.congr (f := fun k => finding_named.j0 k false f.f0 f.f1.f0 f.f1.f1 f.f1.f2 f.f2 f.f3) (fun k => by unfold finding_named.f; rw [if_neg h0, decide_eq_false h1]) ?_
      refine Ev.step (f := fun k => finding_named.l0 k f.f2.size ((0 : Nat) : Int) f.f0 f.f1.f0 f.f1.f1 f.f1.f2 f.f2 f.f3) (fun k => by simp only [finding_named.j0]; rw [if_neg (by simp)]; rfl) ?_
      have := lnam_l f (by omega) _ 0 rfl (Nat.zero_le _)
      have e : (decide (scan (okB 33) f.f2 0 = f.f2.size) && (if f.f0 = 2 ∨ f.f0 = 3 then identS f.f2 else if f.f0 = 4 then tfS f.f2 else true)) = namS f.f0 f.f2 := by
        have ew : decide (scan (okB 33) f.f2 0 = f.f2.size) = winS 33 f.f2 := rfl
        rw [ew]
        unfold namS
        by_cases c : f.f0 = 2 ∨ f.f0 = 3
        · rw [if_pos c, if_pos c]
          cases hi : identS f.f2 with
          | false => rw [Bool.and_false]
          | true => rw [(win_ident _ hi).1]; rfl
        · rw [if_neg c, if_neg c]
          by_cases c2 : f.f0 = 4
          · rw [if_pos c2, if_pos c2]
            cases hi : tfS f.f2 with
            | false => rw [Bool.and_false]
            | true => rw [(win_tf _ hi).1]; rfl
          · rw [if_neg c2, if_neg c2, decide_eq_true (by omega : 1 ≤ f.f2.size ∧ f.f2.size ≤ 32)]
      rw [e] at this
      exact this
/-! #### the check of a finding -/
def tailO (l : List S25) (a b : ByteArray) (c : Int) : Option Int := if (l.length : Int) > 4097 then (some 3) else (if (l.length : Int) = 0 then (some 16) else (if 0 ≤ (wrap64 ((l.length : Int) - 1)) then (if (wrap64 ((l.length : Int) - 1)) < (l.length : Int) then (if (!((((rd_T25 l (wrap64 ((l.length : Int) - 1))).f0).toList) == a.toList) || (!((((rd_T25 l (wrap64 ((l.length : Int) - 1))).f1).toList) == b.toList) || (!(((rd_T25 l (wrap64 ((l.length : Int) - 1))).f2) == c)))) = true then (some 16) else (some 0)) else (none)) else (none)))
def tailV (l : List S25) (a b : ByteArray) (c : Int) : Int := (tailO l a b c).getD 0
theorem tail_eq (l : List S25) (a b : ByteArray) (c : Int) : tailO l a b c = some (tailV l a b c) := by
  unfold tailV tailO
  by_cases h : (l.length : Int) > 4097
  · rw [if_pos h]; rfl
  · rw [if_neg h]
    by_cases h2 : (l.length : Int) = 0
    · rw [if_pos h2]; rfl
    · have e1 : wrap64 ((l.length : Int) - 1) = (l.length : Int) - 1 := w64 (by omega) (by omega)
      rw [if_neg h2, e1, if_pos (by omega), if_pos (by omega)]
      split <;> rfl
/-- The first error of the places. -/
def plsS : List S25 → Int
  | [] => 0
  | p :: l => if plS p = 0 then plsS l else plS p
def chkR (f : S28) : Int := if namS f.f0 f.f2 = true then tailV f.f3 f.f1.f0 f.f1.f1 f.f1.f2 else 5
/-- What the check of a finding says. -/
def chkD (f : S28) : Int := if f.f0 < 1 ∨ 4 < f.f0 then 12 else if plS f.f1 = 0 then (if plsS f.f3 = 0 then chkR f else plsS f.f3) else plS f.f1
abbrev SzF (f : S28) : Prop := SzP f.f1 ∧ f.f2.size ≤ 9223372036854775807 ∧ ∀ p ∈ f.f3, SzP p
theorem lchk_l (f : S28) (hs : SzF f) (hl : f.f3.length ≤ 9223372036854775807) : ∀ (l : List S25) (i : Nat), f.f3.drop i = l → Ev (fun k => finding_Check.l0 k f.f3 f.f3.length i f.f0 f.f1.f0 f.f1.f1 f.f1.f2 f.f2 f.f3) (if plsS l = 0 then chkR f else plsS l) := by
  intro l
  induction l with
  | nil =>
    intro i h
    have := gend _ i h
    rw [show plsS [] = 0 from rfl, if_pos rfl]
    refine Ev.step (f := fun k => (finding_named.f k f.f0 f.f1.f0 f.f1.f1 f.f1.f2 f.f2 f.f3).bind fun t => (if t = true then tailO f.f3 f.f1.f0 f.f1.f1 f.f1.f2 else some 5)) (fun k => by simp only [finding_Check.l0]; rw [if_neg (by omega)]; rfl) (Ev.bind (lnam_ev f hs.2.1) ?_)
    unfold chkR
    cases namS f.f0 f.f2 with
    | true => rw [if_pos rfl]; exact Ev.congr (fun k => by rw [if_pos rfl, tail_eq]) (Ev.now _)
    | false => rw [if_neg (by simp)]; exact Ev.congr (fun k => by rw [if_neg (by simp)]) (Ev.now _)
  | cons p r ih =>
    intro i h
    obtain ⟨h1, h2, h3⟩ := gdrop z25 f.f3 i p r h
    have h1' : rd_T25 f.f3 (i : Int) = p := h1
    refine Ev.step (f := fun k => (finding_checkPlace.f k p.f0 p.f1 p.f2).bind fun t => (if t = 0 then (finding_Check.l0 k f.f3 f.f3.length ((i + 1 : Nat) : Int) f.f0 f.f1.f0 f.f1.f1 f.f1.f2 f.f2 f.f3) else some t)) (fun k => ?_) (Ev.bind (lplace_ev p (hs.2.2 p (List.mem_of_mem_drop (by rw [h]; exact List.mem_cons_self)))) ?_)
    · simp only [finding_Check.l0]; rw [if_pos (by omega), if_pos (by omega), if_pos (by omega), h1', nx i (by omega)]
    · unfold plsS
      by_cases c : plS p = 0
      · rw [if_pos c]; exact Ev.congr (fun k => by rw [if_pos c]) (ih (i + 1) h3)
      · rw [if_neg c, if_neg c]; exact Ev.congr (fun k => by rw [if_neg c]) (Ev.now _)
theorem rchk_l (f : S28) (hs : SzF f) (hl : f.f3.length ≤ 9223372036854775807) : ∀ (l : List S25) (i : Nat), f.f3.drop i = l → Ev (fun k => dataflowref45_Check.l0 k i f.f0 f.f1.f0 f.f1.f1 f.f1.f2 f.f2 f.f3) (if plsS l = 0 then chkR f else plsS l) := by
  intro l
  induction l with
  | nil =>
    intro i h
    have := gend _ i h
    rw [show plsS [] = 0 from rfl, if_pos rfl]
    refine Ev.step (f := fun k => (dataflowref45_named.f k f.f0 f.f2).bind fun t => (if t = true then tailO f.f3 f.f1.f0 f.f1.f1 f.f1.f2 else some 5)) (fun k => by simp only [dataflowref45_Check.l0]; rw [if_neg (by omega)]; rfl) (Ev.bind (rnam_ev f.f0 f.f2 hs.2.1) ?_)
    unfold chkR
    cases namS f.f0 f.f2 with
    | true => rw [if_pos rfl]; exact Ev.congr (fun k => by rw [if_pos rfl, tail_eq]) (Ev.now _)
    | false => rw [if_neg (by simp)]; exact Ev.congr (fun k => by rw [if_neg (by simp)]) (Ev.now _)
  | cons p r ih =>
    intro i h
    obtain ⟨h1, h2, h3⟩ := gdrop z25 f.f3 i p r h
    have h1' : rd_T25 f.f3 (i : Int) = p := h1
    refine Ev.step (f := fun k => (dataflowref45_CheckPlace.f k p.f0 p.f1 p.f2).bind fun t => (if t = 0 then (dataflowref45_Check.l0 k ((i + 1 : Nat) : Int) f.f0 f.f1.f0 f.f1.f1 f.f1.f2 f.f2 f.f3) else some t)) (fun k => ?_) (Ev.bind (rplace_ev p (hs.2.2 p (List.mem_of_mem_drop (by rw [h]; exact List.mem_cons_self)))) ?_)
    · simp only [dataflowref45_Check.l0]; rw [if_pos (by omega), if_pos (by omega), h1', nx i (by omega)]
    · unfold plsS
      by_cases c : plS p = 0
      · rw [if_pos c]; exact Ev.congr (fun k => by rw [if_pos c]) (ih (i + 1) h3)
      · rw [if_neg c, if_neg c]; exact Ev.congr (fun k => by rw [if_neg c]) (Ev.now _)
theorem lchk_ev (f : S28) (hs : SzF f) (hl : f.f3.length ≤ 9223372036854775807) : Ev (fun k => finding_Check.f k f.f0 f.f1.f0 f.f1.f1 f.f1.f2 f.f2 f.f3) (chkD f) := by
  have ht : Ev (fun k => finding_Check.j0 k true f.f0 f.f1.f0 f.f1.f1 f.f1.f2 f.f2 f.f3) 12 := Ev.step (f := fun _ => some 12) (fun k => by simp only [finding_Check.j0]; rw [if_pos trivial]) (Ev.now _)
  unfold chkD
  by_cases h1 : f.f0 < 1
  · rw [if_pos (.inl h1)]; exact Ev.congr (fun k => by unfold finding_Check.f; rw [if_pos h1]) ht
  · by_cases h2 : f.f0 > 4
    · rw [if_pos (.inr (by omega))]; exact Ev.congr (fun k => by unfold finding_Check.f; rw [if_neg h1, decide_eq_true h2]) ht
    · rw [if_neg (by omega)]
      refine Ev.congr (f := fun k => finding_Check.j0 k false f.f0 f.f1.f0 f.f1.f1 f.f1.f2 f.f2 f.f3) (fun k => by unfold finding_Check.f; rw [if_neg h1, decide_eq_false h2]) ?_
      refine Ev.step (f := fun k => (finding_checkPlace.f k f.f1.f0 f.f1.f1 f.f1.f2).bind fun t => (if t = 0 then (finding_Check.l0 k f.f3 f.f3.length ((0 : Nat) : Int) f.f0 f.f1.f0 f.f1.f1 f.f1.f2 f.f2 f.f3) else some t)) (fun k => by simp only [finding_Check.j0]; rw [if_neg (by simp)]; rfl) (Ev.bind (lplace_ev f.f1 hs.1) ?_)
      by_cases c : plS f.f1 = 0
      · rw [if_pos c]; exact Ev.congr (fun k => by rw [if_pos c]) (lchk_l f hs hl f.f3 0 rfl)
      · rw [if_neg c]; exact Ev.congr (fun k => by rw [if_neg c]) (Ev.now _)
theorem rchk_ev (f : S28) (hs : SzF f) (hl : f.f3.length ≤ 9223372036854775807) : Ev (fun k => dataflowref45_Check.f k f.f0 f.f1.f0 f.f1.f1 f.f1.f2 f.f2 f.f3) (chkD f) := by
  have ht : Ev (fun k => dataflowref45_Check.j0 k true f.f0 f.f1.f0 f.f1.f1 f.f1.f2 f.f2 f.f3) 12 := Ev.step (f := fun _ => some 12) (fun k => by simp only [dataflowref45_Check.j0]; rw [if_pos trivial]) (Ev.now _)
  unfold chkD
  by_cases h1 : f.f0 < 1
  · rw [if_pos (.inl h1)]; exact Ev.congr (fun k => by unfold dataflowref45_Check.f; rw [if_pos h1]) ht
  · by_cases h2 : f.f0 > 4
    · rw [if_pos (.inr (by omega))]; exact Ev.congr (fun k => by unfold dataflowref45_Check.f; rw [if_neg h1, decide_eq_true h2]) ht
    · rw [if_neg (by omega)]
      refine Ev.congr (f := fun k => dataflowref45_Check.j0 k false f.f0 f.f1.f0 f.f1.f1 f.f1.f2 f.f2 f.f3) (fun k => by unfold dataflowref45_Check.f; rw [if_neg h1, decide_eq_false h2]) ?_
      refine Ev.step (f := fun k => (dataflowref45_CheckPlace.f k f.f1.f0 f.f1.f1 f.f1.f2).bind fun t => (if t = 0 then (dataflowref45_Check.l0 k ((0 : Nat) : Int) f.f0 f.f1.f0 f.f1.f1 f.f1.f2 f.f2 f.f3) else some t)) (fun k => by simp only [dataflowref45_Check.j0]; rw [if_neg (by simp)]; rfl) (Ev.bind (rplace_ev f.f1 hs.1) ?_)
      by_cases c : plS f.f1 = 0
      · rw [if_pos c]; exact Ev.congr (fun k => by rw [if_pos c]) (rchk_l f hs hl f.f3 0 rfl)
      · rw [if_neg c]; exact Ev.congr (fun k => by rw [if_neg c]) (Ev.now _)
theorem chk_len (f : S28) (h : chkD f = 0) : f.f3.length ≤ 4097 := by
  unfold chkD at h
  by_cases h1 : f.f0 < 1 ∨ 4 < f.f0
  · rw [if_pos h1] at h; cases h
  · rw [if_neg h1] at h
    by_cases h2 : plS f.f1 = 0
    · rw [if_pos h2] at h
      by_cases h3 : plsS f.f3 = 0
      · rw [if_pos h3] at h
        unfold chkR at h
        by_cases h4 : namS f.f0 f.f2 = true
        · rw [if_pos h4] at h
          unfold tailV tailO at h
          by_cases h5 : (f.f3.length : Int) > 4097
          · rw [if_pos h5] at h; cases h
          · omega
        · rw [if_neg h4] at h; cases h
      · rw [if_neg h3] at h; exact absurd h h3
    · rw [if_neg h2] at h; exact absurd h h2
end Go.Proofs.YtnoangbidnigdaaDoor.H
/-! All checks; the division; the report. -/
namespace Go.Proofs.YtnoangbidnigdaaDoor.H
open Go.RowKit Go.Proofs.YtnoangbidnigdaaDoorW.PrintWords
set_option linter.unusedVariables false
set_option linter.unusedSimpArgs false

abbrev SzN (n : S23) : Prop := n.f1.size ≤ 9223372036854775807 ∧ n.f2.size ≤ 9223372036854775807 ∧ n.f3.size ≤ 9223372036854775807 ∧ n.f4.size ≤ 9223372036854775807
def ckN (n : S23) : Int := chkF n.f0 n.f1 n.f2 n.f3 n.f4
def cksN : List S23 → Int
  | [] => 0
  | n :: l => if ckN n = 0 then cksN l else ckN n
def cksD : List S28 → Int
  | [] => 0
  | f :: l => if chkD f = 0 then cksD l else chkD f
/-- Is one of the findings not less than the next? -/
def ordD : S28 → List S28 → Bool
  | _, [] => false
  | f, g :: l => if cmpF f g ≥ 0 then true else ordD g l
def ordL : List S28 → Bool
  | [] => false
  | f :: l => ordD f l
/-- The error of findings and suppressions. -/
def allE (l : List S28) (n : List S23) : Int := if l.length > 1000 ∨ n.length > 200 then 3 else if cksD l = 0 then (if ordL l = true then 13 else cksN n) else cksD l
/-- What the findings and suppressions are known to be. -/
structure Ok (L : List S28) (M : List S23) : Prop where
  l : L.length ≤ 3000
  m : M.length ≤ 250
  p : ∀ x ∈ L, x.f3.length ≤ 9223372036854775807
  s : ∀ x ∈ L, SzF x
  n : ∀ x ∈ M, SzN x
theorem cksD_cons (f : S28) (l : List S28) : cksD (f :: l) = if chkD f = 0 then cksD l else chkD f := rfl
theorem cks_len : ∀ (l : List S28), cksD l = 0 → ∀ x ∈ l, x.f3.length ≤ 4097 := by
  intro l
  induction l with
  | nil => intro _ x hx; cases hx
  | cons f l ih =>
    intro h x hx
    unfold cksD at h
    by_cases c : chkD f = 0
    · rw [if_pos c] at h
      rcases List.mem_cons.1 hx with rfl | hx
      · exact chk_len _ c
      · exact ih h x hx
    · rw [if_neg c] at h; exact absurd h c
theorem mem_drop1 {α : Type} {L : List α} {i : Nat} {x : α} {r : List α} (h : L.drop i = x :: r) : x ∈ L := List.mem_of_mem_drop (by rw [h]; exact List.mem_cons_self)
theorem lall2 {L : List S28} {M : List S23} (ok : Ok L M) : ∀ (l : List S23) (i : Nat), M.drop i = l → Ev (fun k => suppress_checkAll.l2 k M M.length i) (cksN l) := by
  have hm := ok.m
  intro l
  induction l with
  | nil =>
    intro i h
    have := gend _ i h
    exact Ev.step (f := fun _ => some 0) (fun k => by simp only [suppress_checkAll.l2]; rw [if_neg (by omega)]) (Ev.now _)
  | cons n r ih =>
    intro i h
    obtain ⟨h1, h2, h3⟩ := gdrop z23 M i n r h
    have h1' : rd_T23 M (i : Int) = n := h1
    have hn := ok.n n (mem_drop1 h)
    refine Ev.step (f := fun k => (suppress_Check.f k n.f0 n.f1 n.f2 n.f3 n.f4).bind fun t => (if t = 0 then (suppress_checkAll.l2 k M M.length ((i + 1 : Nat) : Int)) else some t)) (fun k => ?_) (Ev.bind (lCheck_ev n.f0 n.f1 n.f2 n.f3 n.f4 hn.1 hn.2.1 hn.2.2.1 hn.2.2.2) ?_)
    · simp only [suppress_checkAll.l2]; rw [if_pos (by omega), if_pos (by omega), if_pos (by omega), h1', nx i (by omega)]
    · unfold cksN
      by_cases c : ckN n = 0
      · rw [if_pos c]; exact Ev.congr (fun k => by rw [if_pos (show chkF n.f0 n.f1 n.f2 n.f3 n.f4 = 0 from c)]) (ih (i + 1) h3)
      · rw [if_neg c]; exact Ev.congr (fun k => by rw [if_neg (show ¬ chkF n.f0 n.f1 n.f2 n.f3 n.f4 = 0 from c)]; rfl) (Ev.now _)
theorem lall1 {L : List S28} {M : List S23} (ok : Ok L M) (hz : cksD L = 0) : ∀ (l : List S28) (f : S28) (i : Nat), L.drop i = f :: l → Ev (fun k => suppress_checkAll.l1 k L M L.length ((i + 1 : Nat) : Int)) (if ordD f l = true then 13 else cksN M) := by
  have hl := ok.l
  intro l
  induction l with
  | nil =>
    intro f i h
    obtain ⟨h1, h2, h3⟩ := gdrop z28 L i f [] h
    have := gend _ _ h3
    unfold ordD
    rw [if_neg (by simp)]
    exact Ev.step (f := fun k => suppress_checkAll.l2 k M M.length ((0 : Nat) : Int)) (fun k => by simp only [suppress_checkAll.l1]; rw [if_neg (by omega)]; rfl) (lall2 ok M 0 rfl)
  | cons g r ih =>
    intro f i h
    obtain ⟨h1, h2, h3⟩ := gdrop z28 L i f (g :: r) h
    obtain ⟨g1, g2, g3⟩ := gdrop z28 L (i + 1) g r h3
    have h1' : rd_T28 L (i : Int) = f := h1
    have g1' : rd_T28 L ((i + 1 : Nat) : Int) = g := g1
    have e0 : wrap64 (((i + 1 : Nat) : Int) - 1) = (i : Int) := by rw [w64 (by omega) (by omega)]; omega
    refine Ev.step (f := fun k => (finding_Compare.f k f.f0 f.f1.f0 f.f1.f1 f.f1.f2 f.f2 f.f3 g.f0 g.f1.f0 g.f1.f1 g.f1.f2 g.f2 g.f3).bind fun t => (if t ≥ 0 then (some 13) else (suppress_checkAll.l1 k L M L.length ((i + 1 + 1 : Nat) : Int)))) (fun k => ?_) (Ev.bind (lcmp_ev f g (by have := cks_len L hz f (mem_drop1 h); omega)) ?_)
    · simp only [suppress_checkAll.l1]; rw [if_pos (by omega), if_pos (by omega), e0, if_pos (by omega), if_pos (by omega), if_pos (by omega), if_pos (by omega), h1', g1', nx (i + 1) (by omega)]
    · unfold ordD
      by_cases c : cmpF f g ≥ 0
      · rw [if_pos c, if_pos rfl]; exact Ev.congr (fun k => by rw [if_pos c]) (Ev.now _)
      · rw [if_neg c]; exact Ev.congr (fun k => by rw [if_neg c]) (ih g (i + 1) h3)
theorem lall0 {L : List S28} {M : List S23} (ok : Ok L M) : ∀ (l : List S28) (i : Nat), L.drop i = l → cksD L = cksD l → Ev (fun k => suppress_checkAll.l0 k L M L L.length i) (if cksD l = 0 then (if ordL L = true then 13 else cksN M) else cksD l) := by
  have hl := ok.l
  intro l
  induction l with
  | nil =>
    intro i h hz
    have := gend _ i h
    rw [show cksD [] = 0 from rfl, if_pos rfl]
    refine Ev.step (f := fun k => suppress_checkAll.l1 k L M L.length ((0 : Nat) : Int)) (fun k => by simp only [suppress_checkAll.l0]; rw [if_neg (by omega)]; rfl) ?_
    cases L with
    | nil => exact Ev.step (f := fun k => suppress_checkAll.l2 k M M.length ((0 : Nat) : Int)) (fun k => by simp only [suppress_checkAll.l1]; rw [if_neg (by simp)]; rfl) (lall2 ok M 0 rfl)
    | cons f L' =>
      refine Ev.step (f := fun k => suppress_checkAll.l1 k (f :: L') M (f :: L').length ((0 + 1 : Nat) : Int)) (fun k => ?_) (lall1 ok hz L' f 0 rfl)
      simp only [suppress_checkAll.l1]; rw [if_pos (by rw [List.length_cons]; omega), if_neg (by omega), nx 0 (by omega)]
  | cons f r ih =>
    intro i h hz
    obtain ⟨h1, h2, h3⟩ := gdrop z28 L i f r h
    have h1' : rd_T28 L (i : Int) = f := h1
    refine Ev.step (f := fun k => (finding_Check.f k f.f0 f.f1.f0 f.f1.f1 f.f1.f2 f.f2 f.f3).bind fun t => (if t = 0 then (suppress_checkAll.l0 k L M L L.length ((i + 1 : Nat) : Int)) else some t)) (fun k => ?_) (Ev.bind (lchk_ev f (ok.s f (mem_drop1 h)) (ok.p f (mem_drop1 h))) ?_)
    · simp only [suppress_checkAll.l0]; rw [if_pos (by omega), if_pos (by omega), if_pos (by omega), h1', nx i (by omega)]
    · rw [cksD_cons] at hz ⊢
      by_cases c : chkD f = 0
      · rw [if_pos c] at hz ⊢; exact Ev.congr (fun k => by rw [if_pos c]) (ih (i + 1) h3 hz)
      · rw [if_neg c, if_neg c]; exact Ev.congr (fun k => by rw [if_neg c]) (Ev.now _)
theorem lall_ev {L : List S28} {M : List S23} (ok : Ok L M) : Ev (fun k => suppress_checkAll.f k L M) (allE L M) := by
  have ht : Ev (fun k => suppress_checkAll.j0 k L M true) 3 := Ev.step (f := fun _ => some 3) (fun k => by simp only [suppress_checkAll.j0]; rw [if_pos trivial]) (Ev.now _)
  unfold allE
  by_cases h1 : (L.length : Int) > 1000
  · rw [if_pos (.inl (by omega))]; exact Ev.congr (fun k => by unfold suppress_checkAll.f; rw [if_pos h1]) ht
  · by_cases h2 : (M.length : Int) > 200
    · rw [if_pos (.inr (by omega))]; exact Ev.congr (fun k => by unfold suppress_checkAll.f; rw [if_neg h1, decide_eq_true h2]) ht
    · rw [if_neg (by omega)]
      refine Ev.congr (f := fun k => suppress_checkAll.j0 k L M false) (fun k => by unfold suppress_checkAll.f; rw [if_neg h1, decide_eq_false h2]) ?_
      exact Ev.step (f := fun k => suppress_checkAll.l0 k L M L L.length ((0 : Nat) : Int)) (fun k => by simp only [suppress_checkAll.j0]; rw [if_neg (by simp)]; rfl) (lall0 ok L 0 rfl rfl)
/-! #### the first suppression that applies -/
abbrev frst (M : List S23) (f : S28) : Int := idxF f.f0 f.f1.f0 f.f1.f1 f.f1.f2 f.f2 f.f3 M 0
theorem idx_in (f : S28) : ∀ (M : List S23) (i : Int), 0 ≤ i → idxF f.f0 f.f1.f0 f.f1.f1 f.f1.f2 f.f2 f.f3 M i < 0 ∨ (i ≤ idxF f.f0 f.f1.f0 f.f1.f1 f.f1.f2 f.f2 f.f3 M i ∧ idxF f.f0 f.f1.f0 f.f1.f1 f.f1.f2 f.f2 f.f3 M i < i + M.length) := by
  intro M
  induction M with
  | nil => intro i _; left; unfold idxF; omega
  | cons n M ih =>
    intro i hi
    unfold idxF
    split
    · right; rw [List.length_cons]; omega
    · rw [List.length_cons]; have := ih (i + 1) (by omega); omega
theorem frst_in (M : List S23) (f : S28) : frst M f < 0 ∨ (0 ≤ frst M f ∧ frst M f < M.length) := by have := idx_in f M 0 (Int.le_refl _); rw [Int.zero_add] at this; exact this
theorem rfst_ev (M : List S23) (hM : M.length ≤ 250) (f : S28) : Ev (fun k => dataflowref46_First.f k M f.f0 f.f1.f0 f.f1.f1 f.f1.f2 f.f2 f.f3) (frst M f) := by
  have key : ∀ (l : List S23) (i : Nat), M.drop i = l → Ev (fun k => dataflowref46_First.l0 k M i f.f0 f.f1.f0 f.f1.f1 f.f1.f2 f.f2 f.f3) (idxF f.f0 f.f1.f0 f.f1.f1 f.f1.f2 f.f2 f.f3 l i) := by
    intro l
    induction l with
    | nil =>
      intro i h
      have := gend _ i h
      exact Ev.step (f := fun _ => some (-1)) (fun k => by simp only [dataflowref46_First.l0]; rw [if_neg (by omega)]) (Ev.now _)
    | cons n r ih =>
      intro i h
      obtain ⟨h1, h2, h3⟩ := gdrop z23 M i n r h
      have h1' : rd_T23 M (i : Int) = n := h1
      obtain ⟨b, hb⟩ : ∃ b, suppress_Match.f n.f0 n.f1 n.f2 n.f3 n.f4 f.f0 f.f1.f0 f.f1.f1 f.f1.f2 f.f2 f.f3 = some b := ⟨_, rfl⟩
      unfold idxF
      rw [hb]
      cases b with
      | true =>
        rw [if_pos rfl]
        exact Ev.step (f := fun _ => some (i : Int)) (fun k => by simp only [dataflowref46_First.l0]; rw [if_pos (by omega), if_pos (by omega), h1', match_eq, hb, Option.bind_some, if_pos rfl]) (Ev.now _)
      | false =>
        rw [if_neg (by simp)]
        exact Ev.step (fun k => by simp only [dataflowref46_First.l0]; rw [if_pos (by omega), if_pos (by omega), h1', match_eq, hb, Option.bind_some, if_neg (by simp), nx i (by omega)]) (ih (i + 1) h3)
  exact key M 0 rfl
/-! #### the division -/
def opnF (M : List S23) : List S28 → List S28
  | [] => []
  | f :: l => if frst M f < 0 then f :: opnF M l else opnF M l
def hidF (M : List S23) : List S28 → List S53
  | [] => []
  | f :: l => if frst M f < 0 then hidF M l else ⟨f, frst M f⟩ :: hidF M l
def usdF (M : List S23) : List S28 → List Bool → List Bool
  | [], u => u
  | f :: l, u => if frst M f < 0 then usdF M l u else usdF M l (u.set (frst M f).toNat true)
def unuF : List Bool → Nat → List Int
  | [], _ => []
  | b :: u, i => if b = true then unuF u (i + 1) else (i : Int) :: unuF u (i + 1)
abbrev Rep : Type := (List S28) × (List S53) × List Int × Int
/-- The report, or its error. -/
def appF (L : List S28) (M : List S23) : Rep := if allE L M = 0 then (opnF M L, hidF M L, unuF (usdF M L (List.replicate M.length false)) 0, 0) else ([], [], [], allE L M)
theorem allE_z {L : List S28} {M : List S23} (h : allE L M = 0) : cksD L = 0 := by
  unfold allE at h
  by_cases c : L.length > 1000 ∨ M.length > 200
  · rw [if_pos c] at h; cases h
  · rw [if_neg c] at h
    by_cases c2 : cksD L = 0
    · exact c2
    · rw [if_neg c2] at h; exact absurd h c2
theorem app1 (U : List Bool) (hU : U.length ≤ 250) (o : List S28) (h : List S53) : ∀ (u : List Bool) (i : Nat) (n : List Int), U.drop i = u → n.length ≤ i → Ev (fun k => suppress_Apply.l1 k U U.length i o h n) (o, h, n ++ unuF u i, 0) := by
  intro u
  induction u with
  | nil =>
    intro i n hu hn
    have := gend _ i hu
    unfold unuF
    rw [List.append_nil]
    exact Ev.step (f := fun _ => some (o, h, n, 0)) (fun k => by simp only [suppress_Apply.l1]; rw [if_neg (by omega)]) (Ev.now _)
  | cons b r ih =>
    intro i n hu hn
    obtain ⟨h1, h2, h3⟩ := gdrop false U i b r hu
    have h1' : rdOf false U (i : Int) = b := h1
    unfold unuF
    cases b with
    | true =>
      rw [if_pos rfl]
      exact Ev.step (fun k => by simp only [suppress_Apply.l1]; rw [if_pos (by omega), if_pos (by omega), if_pos (by omega), h1', if_pos rfl, nx i (by omega)]) (ih (i + 1) n h3 (by omega))
    | false =>
      rw [if_neg (by simp), List.append_cons]
      exact Ev.step (fun k => by simp only [suppress_Apply.l1]; rw [if_pos (by omega), if_pos (by omega), if_pos (by omega), h1', if_neg (by simp), if_pos (by omega), nx i (by omega)]) (ih (i + 1) (n ++ [(i : Int)]) h3 (by rw [List.length_append, List.length_singleton]; omega))
theorem rapp1 (M : List S23) (U : List Bool) (hUM : U.length = M.length) (hU : U.length ≤ 250) (o : List S28) (h : List S53) : ∀ (u : List Bool) (i : Nat) (n : List Int), U.drop i = u → n.length ≤ i → Ev (fun k => dataflowref46_Apply.l4 k M U i o h n) (o, h, n ++ unuF u i, 0) := by
  intro u
  induction u with
  | nil =>
    intro i n hu hn
    have := gend _ i hu
    unfold unuF
    rw [List.append_nil]
    exact Ev.step (f := fun _ => some (o, h, n, 0)) (fun k => by simp only [dataflowref46_Apply.l4]; rw [if_neg (by omega)]) (Ev.now _)
  | cons b r ih =>
    intro i n hu hn
    obtain ⟨h1, h2, h3⟩ := gdrop false U i b r hu
    have h1' : rdOf false U (i : Int) = b := h1
    unfold unuF
    cases b with
    | true =>
      rw [if_pos rfl]
      exact Ev.step (fun k => by simp only [dataflowref46_Apply.l4]; rw [if_pos (by omega), if_pos (by omega), if_pos (by omega), h1', if_pos rfl, nx i (by omega)]) (ih (i + 1) n h3 (by omega))
    | false =>
      rw [if_neg (by simp), List.append_cons]
      exact Ev.step (fun k => by simp only [dataflowref46_Apply.l4]; rw [if_pos (by omega), if_pos (by omega), if_pos (by omega), h1', if_neg (by simp), if_pos (by omega), nx i (by omega)]) (ih (i + 1) (n ++ [(i : Int)]) h3 (by rw [List.length_append, List.length_singleton]; omega))
theorem app0 {L : List S28} {M : List S23} (ok : Ok L M) (hz : cksD L = 0) : ∀ (l : List S28) (i : Nat) (U : List Bool) (o : List S28) (h : List S53), L.drop i = l → U.length = M.length → o.length ≤ i → h.length ≤ i → Ev (fun k => suppress_Apply.l0 k M U L L.length i o h) (o ++ opnF M l, h ++ hidF M l, unuF (usdF M l U) 0, 0) := by
  have hl := ok.l
  have hm := ok.m
  intro l
  induction l with
  | nil =>
    intro i U o h hd hU ho hh
    have := gend _ i hd
    unfold opnF hidF usdF
    rw [List.append_nil, List.append_nil]
    have := app1 U (by omega) o h U 0 [] rfl (Nat.zero_le _)
    rw [List.nil_append] at this
    exact Ev.step (f := fun k => suppress_Apply.l1 k U U.length ((0 : Nat) : Int) o h []) (fun k => by simp only [suppress_Apply.l0]; rw [if_neg (by omega)]; rfl) this
  | cons f r ih =>
    intro i U o h hd hU ho hh
    obtain ⟨h1, h2, h3⟩ := gdrop z28 L i f r hd
    have h1' : rd_T28 L (i : Int) = f := h1
    have hp := cks_len L hz f (mem_drop1 hd)
    have hfr := frst_in M f
    have hnote : api_Note.f M f.f0 f.f1.f0 f.f1.f1 f.f1.f2 f.f2 f.f3 = some (frst M f) := by unfold api_Note.f; rw [if_pos (by omega)]
    have hown : suppress_own.f f.f0 f.f1.f0 f.f1.f1 f.f1.f2 f.f2 f.f3 = some (f.f0, f.f1.f0, f.f1.f1, f.f1.f2, f.f2, f.f3) := by unfold suppress_own.f api_Place_68.f; rw [if_pos (by omega)]; rfl
    unfold opnF hidF usdF
    by_cases c : frst M f < 0
    · rw [if_pos c, if_pos c, if_pos c, List.append_cons]
      refine Ev.step (fun k => ?_) (ih (i + 1) U (o ++ [f]) h h3 hU (by rw [List.length_append, List.length_singleton]; omega) (by omega))
      simp only [suppress_Apply.l0]; rw [if_pos (by omega), if_pos (by omega), if_pos (by omega), h1', hnote, Option.bind_some, if_pos c, hown, Option.bind_some, if_pos (by omega), nx i (by omega)]
    · rw [if_neg c, if_neg c, if_neg c, List.append_cons]
      refine Ev.step (fun k => ?_) (ih (i + 1) (U.set (frst M f).toNat true) o (h ++ [⟨f, frst M f⟩]) h3 (by rw [List.length_set]; exact hU) (by omega) (by rw [List.length_append, List.length_singleton]; omega))
      simp only [suppress_Apply.l0]; rw [if_pos (by omega), if_pos (by omega), if_pos (by omega), h1', hnote, Option.bind_some, if_neg c, if_pos (by omega), if_pos (by omega), hown, Option.bind_some, if_pos (by omega), nx i (by omega)]
theorem rapp0 {L : List S28} {M : List S23} (ok : Ok L M) : ∀ (l : List S28) (i : Nat) (U : List Bool) (o : List S28) (h : List S53), L.drop i = l → U.length = M.length → o.length ≤ i → h.length ≤ i → Ev (fun k => dataflowref46_Apply.l3 k L M U i o h) (o ++ opnF M l, h ++ hidF M l, unuF (usdF M l U) 0, 0) := by
  have hl := ok.l
  have hm := ok.m
  intro l
  induction l with
  | nil =>
    intro i U o h hd hU ho hh
    have := gend _ i hd
    unfold opnF hidF usdF
    rw [List.append_nil, List.append_nil]
    have := rapp1 M U hU (by omega) o h U 0 [] rfl (Nat.zero_le _)
    rw [List.nil_append] at this
    exact Ev.step (f := fun k => dataflowref46_Apply.l4 k M U ((0 : Nat) : Int) o h []) (fun k => by simp only [dataflowref46_Apply.l3]; rw [if_neg (by omega)]; rfl) this
  | cons f r ih =>
    intro i U o h hd hU ho hh
    obtain ⟨h1, h2, h3⟩ := gdrop z28 L i f r hd
    have h1' : rd_T28 L (i : Int) = f := h1
    have hfr := frst_in M f
    unfold opnF hidF usdF
    by_cases c : frst M f < 0
    · rw [if_pos c, if_pos c, if_pos c, List.append_cons]
      refine Ev.step (f := fun k => (dataflowref46_First.f k M f.f0 f.f1.f0 f.f1.f1 f.f1.f2 f.f2 f.f3).bind fun t => (if t < 0 then (if o.length < 1599289640401 then (dataflowref46_Apply.l3 k L M U ((i + 1 : Nat) : Int) (o ++ [f]) h) else none) else (if 0 ≤ t then (if t < (U.length : Int) then (if h.length < 1466015503701 then (dataflowref46_Apply.l3 k L M (U.set (t : Int).toNat true) ((i + 1 : Nat) : Int) o (h ++ [(⟨f, t⟩ : S53)])) else none) else none) else none))) (fun k => ?_) (Ev.bind (rfst_ev M hm f) ?_)
      · simp only [dataflowref46_Apply.l3]; rw [if_pos (by omega), if_pos (by omega), h1', nx i (by omega)]
      · exact Ev.congr (fun k => by rw [if_pos c, if_pos (by omega)]) (ih (i + 1) U (o ++ [f]) h h3 hU (by rw [List.length_append, List.length_singleton]; omega) (by omega))
    · rw [if_neg c, if_neg c, if_neg c, List.append_cons]
      refine Ev.step (f := fun k => (dataflowref46_First.f k M f.f0 f.f1.f0 f.f1.f1 f.f1.f2 f.f2 f.f3).bind fun t => (if t < 0 then (if o.length < 1599289640401 then (dataflowref46_Apply.l3 k L M U ((i + 1 : Nat) : Int) (o ++ [f]) h) else none) else (if 0 ≤ t then (if t < (U.length : Int) then (if h.length < 1466015503701 then (dataflowref46_Apply.l3 k L M (U.set (t : Int).toNat true) ((i + 1 : Nat) : Int) o (h ++ [(⟨f, t⟩ : S53)])) else none) else none) else none))) (fun k => ?_) (Ev.bind (rfst_ev M hm f) ?_)
      · simp only [dataflowref46_Apply.l3]; rw [if_pos (by omega), if_pos (by omega), h1', nx i (by omega)]
      · exact Ev.congr (fun k => by rw [if_neg c, if_pos (by omega), if_pos (by omega), if_pos (by omega)]) (ih (i + 1) (U.set (frst M f).toNat true) o (h ++ [⟨f, frst M f⟩]) h3 (by rw [List.length_set]; exact hU) (by omega) (by rw [List.length_append, List.length_singleton]; omega))
theorem rep_nat (n : Nat) : ((n : Int) : Int).toNat = n := Int.toNat_natCast n
theorem app_ev {L : List S28} {M : List S23} (ok : Ok L M) : Ev (fun k => suppress_Apply.f k L M) (appF L M) := by
  have hm := ok.m
  unfold appF
  refine Ev.congr (f := fun k => (suppress_checkAll.f k L M).bind fun t => (if t = 0 then (suppress_Apply.l0 k M (List.replicate M.length false) L L.length ((0 : Nat) : Int) [] []) else (some (([] : List S28), ([] : List S53), ([] : List Int), t)))) (fun k => ?_) (Ev.bind (lall_ev ok) ?_)
  · unfold suppress_Apply.f; rw [if_pos (by omega : (0 : Int) ≤ (M.length : Int)), if_pos (by omega), rep_nat]; rfl
  · by_cases c : allE L M = 0
    · rw [if_pos c]
      have := app0 ok (allE_z c) L 0 (List.replicate M.length false) [] [] rfl (List.length_replicate ..) (Nat.zero_le _) (Nat.zero_le _)
      exact Ev.congr (fun k => by rw [if_pos c]) this
    · rw [if_neg c]; exact Ev.congr (fun k => by rw [if_neg c]) (Ev.now _)
def repE (e : Int) : Rep := ([], [], [], e)
def wrpE (V : Rep) (z : Int) : Rep := if z = 0 then V else repE z
theorem rapp2 {L : List S28} {M : List S23} (ok : Ok L M) (V : Rep) (hV : Ev (fun k => dataflowref46_Apply.l3 k L M (List.replicate M.length false) ((0 : Nat) : Int) [] []) V) : ∀ (l : List S23) (i : Nat), M.drop i = l → Ev (fun k => dataflowref46_Apply.l2 k L M i) (if cksN l = 0 then V else repE (cksN l)) := by
  have hm := ok.m
  intro l
  induction l with
  | nil =>
    intro i h
    have := gend _ i h
    rw [show cksN [] = 0 from rfl, if_pos rfl]
    exact Ev.step (fun k => by simp only [dataflowref46_Apply.l2]; rw [if_neg (by omega), if_pos (by omega : (0 : Int) ≤ (M.length : Int)), if_pos (by omega), rep_nat]; rfl) hV
  | cons n r ih =>
    intro i h
    obtain ⟨h1, h2, h3⟩ := gdrop z23 M i n r h
    have h1' : rd_T23 M (i : Int) = n := h1
    have hn := ok.n n (mem_drop1 h)
    refine Ev.step (f := fun k => (dataflowref46_Check.f k n.f0 n.f1 n.f2 n.f3 n.f4).bind fun t => (if t = 0 then (dataflowref46_Apply.l2 k L M ((i + 1 : Nat) : Int)) else some (repE t))) (fun k => ?_) (Ev.bind (rCheck_ev n.f0 n.f1 n.f2 n.f3 n.f4 hn.1 hn.2.1 hn.2.2.1 hn.2.2.2) ?_)
    · simp only [dataflowref46_Apply.l2]; rw [if_pos (by omega), if_pos (by omega), h1', nx i (by omega)]; rfl
    · unfold cksN
      by_cases c : ckN n = 0
      · rw [if_pos c]; exact Ev.congr (fun k => by rw [if_pos (show chkF n.f0 n.f1 n.f2 n.f3 n.f4 = 0 from c)]) (ih (i + 1) h3)
      · rw [if_neg c, if_neg c]; exact Ev.congr (fun k => by rw [if_neg (show ¬ chkF n.f0 n.f1 n.f2 n.f3 n.f4 = 0 from c)]; rfl) (Ev.now _)
theorem rall1 {L : List S28} {M : List S23} (ok : Ok L M) (hz : cksD L = 0) (V : Rep) (hV : Ev (fun k => dataflowref46_Apply.l2 k L M ((0 : Nat) : Int)) V) : ∀ (l : List S28) (f : S28) (i : Nat), L.drop i = f :: l → Ev (fun k => dataflowref46_Apply.l1 k L M ((i + 1 : Nat) : Int)) (if ordD f l = true then repE 13 else V) := by
  have hl := ok.l
  intro l
  induction l with
  | nil =>
    intro f i h
    obtain ⟨h1, h2, h3⟩ := gdrop z28 L i f [] h
    have := gend _ _ h3
    unfold ordD
    rw [if_neg (by simp)]
    exact Ev.step (fun k => by simp only [dataflowref46_Apply.l1]; rw [if_neg (by omega)]; rfl) hV
  | cons g r ih =>
    intro f i h
    obtain ⟨h1, h2, h3⟩ := gdrop z28 L i f (g :: r) h
    obtain ⟨g1, g2, g3⟩ := gdrop z28 L (i + 1) g r h3
    have h1' : rd_T28 L (i : Int) = f := h1
    have g1' : rd_T28 L ((i + 1 : Nat) : Int) = g := g1
    have e0 : wrap64 (((i + 1 : Nat) : Int) - 1) = (i : Int) := by rw [w64 (by omega) (by omega)]; omega
    refine Ev.step (f := fun k => (dataflowref45_Compare.f k f.f0 f.f1.f0 f.f1.f1 f.f1.f2 f.f2 f.f3 g.f0 g.f1.f0 g.f1.f1 g.f1.f2 g.f2 g.f3).bind fun t => (if t ≥ 0 then (some (repE 13)) else (dataflowref46_Apply.l1 k L M ((i + 1 + 1 : Nat) : Int)))) (fun k => ?_) (Ev.bind (rcmp_ev f g (by have := cks_len L hz f (mem_drop1 h); omega)) ?_)
    · simp only [dataflowref46_Apply.l1]; rw [if_pos (by omega), e0, if_pos (by omega), if_pos (by omega), if_pos (by omega), h1', g1', nx (i + 1) (by omega)]; rfl
    · unfold ordD
      by_cases c : cmpF f g ≥ 0
      · rw [if_pos c, if_pos rfl]; exact Ev.congr (fun k => by rw [if_pos c]) (Ev.now _)
      · rw [if_neg c]; exact Ev.congr (fun k => by rw [if_neg c]) (ih g (i + 1) h3)
theorem rall0 {L : List S28} {M : List S23} (ok : Ok L M) (V : Rep) (hV : cksD L = 0 → Ev (fun k => dataflowref46_Apply.l1 k L M 1) V) : ∀ (l : List S28) (i : Nat), L.drop i = l → cksD L = cksD l → Ev (fun k => dataflowref46_Apply.l0 k L M i) (if cksD l = 0 then V else repE (cksD l)) := by
  have hl := ok.l
  intro l
  induction l with
  | nil =>
    intro i h hz
    have := gend _ i h
    rw [show cksD [] = 0 from rfl, if_pos rfl]
    exact Ev.step (fun k => by simp only [dataflowref46_Apply.l0]; rw [if_neg (by omega)]) (hV hz)
  | cons f r ih =>
    intro i h hz
    obtain ⟨h1, h2, h3⟩ := gdrop z28 L i f r h
    have h1' : rd_T28 L (i : Int) = f := h1
    refine Ev.step (f := fun k => (dataflowref45_Check.f k f.f0 f.f1.f0 f.f1.f1 f.f1.f2 f.f2 f.f3).bind fun t => (if t = 0 then (dataflowref46_Apply.l0 k L M ((i + 1 : Nat) : Int)) else some (repE t))) (fun k => ?_) (Ev.bind (rchk_ev f (ok.s f (mem_drop1 h)) (ok.p f (mem_drop1 h))) ?_)
    · simp only [dataflowref46_Apply.l0]; rw [if_pos (by omega), if_pos (by omega), h1', nx i (by omega)]; rfl
    · rw [cksD_cons] at hz ⊢
      by_cases c : chkD f = 0
      · rw [if_pos c] at hz ⊢; exact Ev.congr (fun k => by rw [if_pos c]) (ih (i + 1) h3 hz)
      · rw [if_neg c, if_neg c]; exact Ev.congr (fun k => by rw [if_neg c]) (Ev.now _)
theorem rapp_ev {L : List S28} {M : List S23} (ok : Ok L M) : Ev (fun k => dataflowref46_Apply.f k L M) (appF L M) := by
  have ht : Ev (fun k => dataflowref46_Apply.j0 k L M true) (repE 3) := Ev.step (f := fun _ => some (repE 3)) (fun k => by simp only [dataflowref46_Apply.j0]; rw [if_pos trivial]; rfl) (Ev.now _)
  have h3 := rapp0 ok L 0 (List.replicate M.length false) [] [] rfl (List.length_replicate ..) (Nat.zero_le _) (Nat.zero_le _)
  rw [List.nil_append, List.nil_append] at h3
  have h2 := rapp2 ok _ h3 M 0 rfl
  have h1 : cksD L = 0 → Ev (fun k => dataflowref46_Apply.l1 k L M 1) (if ordL L = true then repE 13 else (if cksN M = 0 then (opnF M L, hidF M L, unuF (usdF M L (List.replicate M.length false)) 0, 0) else repE (cksN M))) := by
    intro hz
    cases L with
    | nil =>
      rw [show ordL [] = false from rfl, if_neg (by simp)]
      exact Ev.step (fun k => by simp only [dataflowref46_Apply.l1]; rw [if_neg (by simp)]; rfl) h2
    | cons f L' => exact rall1 ok hz _ h2 L' f 0 rfl
  have h0 := rall0 ok _ h1 L 0 rfl rfl
  have e : (if cksD L = 0 then (if ordL L = true then repE 13 else (if cksN M = 0 then (opnF M L, hidF M L, unuF (usdF M L (List.replicate M.length false)) 0, 0) else repE (cksN M))) else repE (cksD L)) = wrpE (opnF M L, hidF M L, unuF (usdF M L (List.replicate M.length false)) 0, 0) (if cksD L = 0 then (if ordL L = true then 13 else cksN M) else cksD L) := by
    unfold wrpE
    by_cases c : cksD L = 0
    · by_cases c2 : ordL L = true
      · simp [c, c2]
      · by_cases c3 : cksN M = 0 <;> simp [c, c2, c3]
    · simp [c]
  rw [e] at h0
  have eA : appF L M = wrpE (opnF M L, hidF M L, unuF (usdF M L (List.replicate M.length false)) 0, 0) (allE L M) := rfl
  have w3 : ∀ V, wrpE V 3 = repE 3 := fun V => rfl
  rw [eA]
  unfold allE
  by_cases g1 : (L.length : Int) > 1000
  · rw [if_pos (Or.inl (by omega) : L.length > 1000 ∨ M.length > 200), w3]; exact Ev.congr (fun k => by unfold dataflowref46_Apply.f; rw [if_pos g1]) ht
  · by_cases g2 : (M.length : Int) > 200
    · rw [if_pos (Or.inr (by omega) : L.length > 1000 ∨ M.length > 200), w3]; exact Ev.congr (fun k => by unfold dataflowref46_Apply.f; rw [if_neg g1, decide_eq_true g2]) ht
    · rw [if_neg (by omega : ¬ (L.length > 1000 ∨ M.length > 200))]
      refine Ev.congr (f := fun k => dataflowref46_Apply.j0 k L M false) (fun k => by unfold dataflowref46_Apply.f; rw [if_neg g1, decide_eq_false g2]) ?_
      exact Ev.step (f := fun k => dataflowref46_Apply.l0 k L M ((0 : Nat) : Int)) (fun k => by simp only [dataflowref46_Apply.j0]; rw [if_neg (by simp)]; rfl) h0
/-! #### how many findings and suppressions there are -/
theorem size_l (L : List S28) (M : List S23) (hL : L.length ≤ 9223372036854775807) : ∀ (l : List S28) (i : Nat) (n : Int), L.drop i = l → ∃ b, Ev (fun k => dataflowlaw46_size.l0 k L M n i) b ∧ (b = true → n ≤ 3000 ∧ M.length ≤ 250) := by
  intro l
  induction l with
  | nil =>
    intro i n h
    have := gend _ i h
    by_cases c : n ≤ 3000
    · refine ⟨decide ((M.length : Int) ≤ 250), Ev.step (f := fun _ => some (decide ((M.length : Int) ≤ 250))) (fun k => by simp only [dataflowlaw46_size.l0]; rw [if_neg (by omega), if_pos c]) (Ev.now _), fun hb => ⟨c, ?_⟩⟩
      have := of_decide_eq_true hb; omega
    · exact ⟨false, Ev.step (f := fun _ => some false) (fun k => by simp only [dataflowlaw46_size.l0]; rw [if_neg (by omega), if_neg c]) (Ev.now _), fun hb => by cases hb⟩
  | cons f r ih =>
    intro i n h
    obtain ⟨h1, h2, h3⟩ := gdrop z28 L i f r h
    by_cases c : n ≤ 3000
    · obtain ⟨b, hb, hc⟩ := ih (i + 1) (wrap64 (n + ((rd_T28 L i).f3.length : Int))) h3
      exact ⟨b, Ev.step (fun k => by simp only [dataflowlaw46_size.l0]; rw [if_pos (by omega), if_pos c, if_pos (by omega), nx i (by omega)]) hb, fun ht => ⟨c, (hc ht).2⟩⟩
    · exact ⟨false, Ev.step (f := fun _ => some false) (fun k => by simp only [dataflowlaw46_size.l0]; rw [if_pos (by omega), if_neg c]) (Ev.now _), fun hb => by cases hb⟩
theorem size_ev (L : List S28) (M : List S23) (hL : L.length ≤ 9223372036854775807) : ∃ b, Ev (fun k => dataflowlaw46_size.f k L M) b ∧ (b = true → L.length ≤ 3000 ∧ M.length ≤ 250) := by
  obtain ⟨b, h1, h2⟩ := size_l L M hL L 0 L.length rfl
  exact ⟨b, h1, fun h => ⟨by have := (h2 h).1; omega, (h2 h).2⟩⟩
end Go.Proofs.YtnoangbidnigdaaDoor.H
/-! Reports: what they hold; a report is the same as itself. -/
namespace Go.Proofs.YtnoangbidnigdaaDoor.H
open Go.RowKit Go.Proofs.YtnoangbidnigdaaDoorW.PrintWords
set_option linter.unusedVariables false
set_option linter.unusedSimpArgs false

theorem opn_mem (M : List S23) : ∀ (l : List S28) (x : S28), x ∈ opnF M l → x ∈ l := by
  intro l
  induction l with
  | nil => intro x hx; cases hx
  | cons f l ih =>
    intro x hx
    unfold opnF at hx
    split at hx
    · rcases List.mem_cons.1 hx with rfl | hx
      · exact List.mem_cons_self
      · exact List.mem_cons_of_mem _ (ih x hx)
    · exact List.mem_cons_of_mem _ (ih x hx)
theorem hid_mem (M : List S23) : ∀ (l : List S28) (x : S53), x ∈ hidF M l → x.f0 ∈ l := by
  intro l
  induction l with
  | nil => intro x hx; cases hx
  | cons f l ih =>
    intro x hx
    unfold hidF at hx
    split at hx
    · exact List.mem_cons_of_mem _ (ih x hx)
    · rcases List.mem_cons.1 hx with rfl | hx
      · exact List.mem_cons_self
      · exact List.mem_cons_of_mem _ (ih x hx)
theorem oh_len (M : List S23) : ∀ (l : List S28), (opnF M l).length + (hidF M l).length = l.length := by
  intro l
  induction l with
  | nil => rfl
  | cons f l ih =>
    unfold opnF hidF
    split <;> simp only [List.length_cons] <;> omega
theorem usd_len (M : List S23) : ∀ (l : List S28) (u : List Bool), (usdF M l u).length = u.length := by
  intro l
  induction l with
  | nil => intro u; rfl
  | cons f l ih =>
    intro u
    unfold usdF
    split
    · exact ih u
    · rw [ih, List.length_set]
theorem unu_len : ∀ (u : List Bool) (i : Nat), (unuF u i).length ≤ u.length := by
  intro u
  induction u with
  | nil => intro i; exact Nat.le_refl _
  | cons b u ih =>
    intro i
    unfold unuF
    have := ih (i + 1)
    split <;> simp only [List.length_cons] <;> omega
theorem same45_ev (o : List S28) (ho : o.length ≤ 3000) (hp : ∀ x ∈ o, x.f3.length ≤ 4097) : Ev (fun k => dataflowref45_Same.f k o o) true := by
  have key : ∀ (l : List S28) (i : Nat), o.drop i = l → Ev (fun k => dataflowref45_Same.l0 k o o i) true := by
    intro l
    induction l with
    | nil =>
      intro i h
      have := gend _ i h
      exact Ev.step (f := fun _ => some true) (fun k => by simp only [dataflowref45_Same.l0]; rw [if_neg (by omega)]) (Ev.now _)
    | cons f r ih =>
      intro i h
      obtain ⟨h1, h2, h3⟩ := gdrop z28 o i f r h
      have h1' : rd_T28 o (i : Int) = f := h1
      have hc := rcmp_ev f f (by have := hp f (mem_drop1 h); omega)
      rw [cmpF_self] at hc
      refine Ev.step (f := fun k => (dataflowref45_Compare.f k f.f0 f.f1.f0 f.f1.f1 f.f1.f2 f.f2 f.f3 f.f0 f.f1.f0 f.f1.f1 f.f1.f2 f.f2 f.f3).bind fun t => (if t = 0 then (dataflowref45_Same.l0 k o o ((i + 1 : Nat) : Int)) else (some false))) (fun k => ?_) (Ev.bind hc ?_)
      · simp only [dataflowref45_Same.l0]; rw [if_pos (by omega), if_pos (by omega), if_pos (by omega), h1', nx i (by omega)]
      · exact Ev.congr (fun k => by rw [if_pos rfl]) (ih (i + 1) h3)
  exact Ev.congr (f := fun k => dataflowref45_Same.l0 k o o ((0 : Nat) : Int)) (fun k => by unfold dataflowref45_Same.f; rw [if_pos rfl]; rfl) (key o 0 rfl)
theorem samR_ev (o : List S28) (h : List S53) (n : List Int) (ho : o.length ≤ 3000) (hh : h.length ≤ 3000) (hn : n.length ≤ 3000) (hp : ∀ x ∈ o, x.f3.length ≤ 4097) (hq : ∀ x ∈ h, x.f0.f3.length ≤ 4097) : Ev (fun k => dataflowref46_SameReport.f k o h n o h n) true := by
  have k1 : ∀ (l : List Int) (i : Nat), n.drop i = l → Ev (fun k => dataflowref46_SameReport.l1 k i o h n o h n) true := by
    intro l
    induction l with
    | nil =>
      intro i hd
      have := gend _ i hd
      exact Ev.step (f := fun _ => some true) (fun k => by simp only [dataflowref46_SameReport.l1]; rw [if_neg (by omega)]) (Ev.now _)
    | cons x r ih =>
      intro i hd
      obtain ⟨h1, h2, h3⟩ := gdrop 0 n i x r hd
      exact Ev.step (fun k => by simp only [dataflowref46_SameReport.l1]; rw [if_pos (by omega), if_pos (by omega), if_pos (by omega), if_pos trivial, nx i (by omega)]) (ih (i + 1) h3)
  have k0 : ∀ (l : List S53) (i : Nat), h.drop i = l → Ev (fun k => dataflowref46_SameReport.l0 k i o h n o h n) true := by
    intro l
    induction l with
    | nil =>
      intro i hd
      have := gend _ i hd
      exact Ev.step (f := fun k => dataflowref46_SameReport.l1 k ((0 : Nat) : Int) o h n o h n) (fun k => by simp only [dataflowref46_SameReport.l0]; rw [if_neg (by omega)]; rfl) (k1 n 0 rfl)
    | cons x r ih =>
      intro i hd
      obtain ⟨h1, h2, h3⟩ := gdrop z53 h i x r hd
      have h1' : rd_T53 h (i : Int) = x := h1
      have hc := rcmp_ev x.f0 x.f0 (by have := hq x (mem_drop1 hd); omega)
      rw [cmpF_self] at hc
      refine Ev.step (f := fun k => (dataflowref45_Compare.f k x.f0.f0 x.f0.f1.f0 x.f0.f1.f1 x.f0.f1.f2 x.f0.f2 x.f0.f3 x.f0.f0 x.f0.f1.f0 x.f0.f1.f1 x.f0.f1.f2 x.f0.f2 x.f0.f3).bind fun t => (if t = 0 then (dataflowref46_SameReport.l0 k ((i + 1 : Nat) : Int) o h n o h n) else (some false))) (fun k => ?_) (Ev.bind hc ?_)
      · simp only [dataflowref46_SameReport.l0]; rw [if_pos (by omega), if_pos (by omega), if_pos (by omega), h1', nx i (by omega)]; simp only [if_true]
      · exact Ev.congr (fun k => by rw [if_pos rfl]) (ih (i + 1) h3)
  refine Ev.congr (f := fun k => (dataflowref45_Same.f k o o).bind fun t => (if t = true then (dataflowref46_SameReport.j0 k false o h n o h n) else (dataflowref46_SameReport.j0 k true o h n o h n))) (fun k => by unfold dataflowref46_SameReport.f; simp only [if_true, bne_self_eq_false]) (Ev.bind (same45_ev o ho hp) ?_)
  exact Ev.congr (fun k => by rw [if_pos rfl]) (Ev.step (f := fun k => dataflowref46_SameReport.l0 k ((0 : Nat) : Int) o h n o h n) (fun k => by simp only [dataflowref46_SameReport.j0]; rw [if_neg (by simp)]; rfl) (k0 h 0 rfl))
end Go.Proofs.YtnoangbidnigdaaDoor.H

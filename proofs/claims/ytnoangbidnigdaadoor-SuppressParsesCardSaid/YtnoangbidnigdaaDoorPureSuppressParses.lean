/- For any text of at most 20000 bytes, Parse returns the suppressions or the first error of the definition, with its line; what is parsed has this text: the pure statement of SuppressParses. -/
import Derived.Test.YtnoangbidnigdaaDoorWalkSuppressParses
import Derived.Test.YtnoangbidnigdaaDoorSupAll
namespace Go.Proofs.YtnoangbidnigdaaDoor.Pure
open Go.RowKit Go.Proofs.YtnoangbidnigdaaDoorW.PrintWords Go.Proofs.YtnoangbidnigdaaDoor.H
set_option linter.unusedVariables false
theorem szs_of {l : List S23} (h : chkAll l = 0) : Szs l := by
  intro n hn
  obtain ⟨_, h1, h2, h3, h4⟩ := chk_zero (chkAll_all l h n hn)
  have a1 := free_size h1
  have a2 := free_size h2
  have a3 : n.f3.size ≤ 32 := by unfold whatS at h3; simp only [Bool.and_eq_true, decide_eq_true_eq] at h3; exact h3.1
  have a4 : n.f4.size ≤ 200 := by unfold reasS at h4; simp only [Bool.and_eq_true, decide_eq_true_eq] at h4; exact h4.1.2
  exact ⟨Nat.le_trans a1 (by decide), Nat.le_trans a2 (by decide), Nat.le_trans a3 (by decide), Nat.le_trans a4 (by decide)⟩
theorem SuppressParses : dataflowlaw46_SuppressParses.Pure := by
  intro s _
  by_cases h1 : (s.size : Int) > 20000
  · exact Ev.rounds (Ev.congr (f := fun k => ((dataflowlaw46_awake.f k).bind fun t => (some t))) (fun k => by unfold dataflowlaw46_SuppressParses.f; rw [if_pos h1]) (Ev.bind awake46 (Ev.now _)))
  · have hl := parse_len s
    refine Ev.rounds (Ev.congr (f := fun k => (suppress_Parse.f k s).bind fun p => ((dataflowref46_Parse.f k s).bind fun q => (if p.2.2 = q.2.2 then (if p.2.1 = q.2.1 then ((dataflowref46_Same.f k p.1 q.1).bind fun t => (dataflowlaw46_SuppressParses.j0 k s p.1 p.2.2 (!t))) else (dataflowlaw46_SuppressParses.j0 k s p.1 p.2.2 true)) else (dataflowlaw46_SuppressParses.j0 k s p.1 p.2.2 true)))) (fun k => by unfold dataflowlaw46_SuppressParses.f; rw [if_neg h1]) (Ev.bind (lparse_ev s (by omega)) (Ev.bind (rparse_ev s (by omega)) ?_)))
    refine Ev.congr (f := fun k => (dataflowref46_Same.f k (parseF s []).1 (parseF s []).1).bind fun t => (dataflowlaw46_SuppressParses.j0 k s (parseF s []).1 (parseF s []).2.2 (!t))) (fun k => by rw [if_pos rfl, if_pos rfl]) (Ev.bind (same_ev _ (by omega)) ?_)
    obtain ⟨⟨l, v, e⟩, hp⟩ : ∃ p, parseF s [] = p := ⟨_, rfl⟩
    rw [hp]
    show Ev (fun k => dataflowlaw46_SuppressParses.j0 k s l e false) true
    by_cases h2 : e = 0
    · subst h2
      obtain ⟨_, l', e1, e2, e3, e4⟩ := parse_text s.size s [] l v (Nat.le_refl _) (Nat.zero_le _) hp
      rw [List.nil_append] at e1
      subst e1
      have ht : textF l = (s, 0) := by
        unfold textF
        rw [if_neg (by omega), if_pos e2, e3]
      have hx := ltext_ev l (szs_of e2)
      rw [ht] at hx
      refine Ev.step (f := fun k => (suppress_Text.f k l).bind fun b => (if b.2 = 0 then (if b.1.toList = s.toList then ((dataflowlaw46_awake.f k).bind fun t => (some t)) else (some false)) else (some false))) (fun k => by simp only [dataflowlaw46_SuppressParses.j0]; rw [if_neg (by simp), if_pos trivial]) (Ev.bind hx ?_)
      exact Ev.congr (f := fun k => ((dataflowlaw46_awake.f k).bind fun t => (some t))) (fun k => by rw [if_pos rfl, if_pos rfl]) (Ev.bind awake46 (Ev.now _))
    · exact Ev.step (f := fun k => ((dataflowlaw46_awake.f k).bind fun t => (some t))) (fun k => by simp only [dataflowlaw46_SuppressParses.j0]; rw [if_neg (by simp), if_neg h2]) (Ev.bind awake46 (Ev.now _))
end Go.Proofs.YtnoangbidnigdaaDoor.Pure

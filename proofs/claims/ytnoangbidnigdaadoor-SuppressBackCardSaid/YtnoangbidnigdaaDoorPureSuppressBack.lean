/- For any suppressions, their text is that of the definition, and is parsed as the suppressions: the pure statement of SuppressBack. -/
import Derived.Test.YtnoangbidnigdaaDoorWalkSuppressBack
import Derived.Test.YtnoangbidnigdaaDoorSupAll
namespace Go.Proofs.YtnoangbidnigdaaDoor.Pure
open Go.RowKit Go.Proofs.YtnoangbidnigdaaDoorW.PrintWords Go.Proofs.YtnoangbidnigdaaDoor.H
set_option linter.unusedVariables false
theorem SuppressBack : dataflowlaw46_SuppressBack.Pure := by
  intro l hq
  have hs : Szs l := fun n hn => (hq n hn).2
  by_cases h1 : (l.length : Int) > 250
  · exact Ev.rounds (Ev.congr (f := fun k => ((dataflowlaw46_awake.f k).bind fun t => (some t))) (fun k => by unfold dataflowlaw46_SuppressBack.f; rw [if_pos h1]) (Ev.bind awake46 (Ev.now _)))
  · refine Ev.rounds (Ev.congr (f := fun k => (suppress_Text.f k l).bind fun b => ((dataflowref46_Text.f k l).bind fun c => (if b.2 = c.2 then (dataflowlaw46_SuppressBack.j0 k l b.1 b.2 (b.1.toList != c.1.toList)) else (dataflowlaw46_SuppressBack.j0 k l b.1 b.2 true)))) (fun k => by unfold dataflowlaw46_SuppressBack.f; rw [if_neg h1]) (Ev.bind (ltext_ev l hs) (Ev.bind (rtext_ev l hs) ?_)))
    have hne : ((textF l).1.toList != (textF l).1.toList) = false := by simp
    refine Ev.congr (f := fun k => dataflowlaw46_SuppressBack.j0 k l (textF l).1 (textF l).2 false) (fun k => by rw [if_pos rfl, hne]) ?_
    have hj : ∀ b, Ev (fun k => dataflowlaw46_SuppressBack.j1 k l b true) true := fun b => Ev.step (f := fun k => ((dataflowlaw46_awake.f k).bind fun t => (some t))) (fun k => by simp only [dataflowlaw46_SuppressBack.j1]; rw [if_pos trivial]) (Ev.bind awake46 (Ev.now _))
    by_cases h2 : (textF l).2 = 0
    · refine Ev.step (f := fun k => dataflowlaw46_SuppressBack.j1 k l (textF l).1 (decide (((textF l).1.size : Int) > 65536))) (fun k => by simp only [dataflowlaw46_SuppressBack.j0]; rw [if_neg (by simp), if_pos h2]) ?_
      by_cases h3 : (((textF l).1.size : Nat) : Int) > 65536
      · rw [decide_eq_true h3]; exact hj _
      · rw [decide_eq_false h3]
        have h4 : l.length ≤ 200 ∧ chkAll l = 0 ∧ (textF l).1 = nText l (⟨#[]⟩ : ByteArray) := by
          unfold textF at h2 ⊢
          by_cases c1 : l.length > 200
          · rw [if_pos c1] at h2; exact absurd h2 (by simp)
          · rw [if_neg c1] at h2 ⊢
            by_cases c2 : chkAll l = 0
            · rw [if_pos c2]; exact ⟨by omega, c2, rfl⟩
            · rw [if_neg c2] at h2; exact absurd h2 c2
        obtain ⟨c1, c2, c3⟩ := h4
        have hp := lparse_ev (textF l).1 (by omega)
        rw [c3] at hp ⊢
        rw [text_parse l [] c2 (by rw [List.length_nil]; omega), List.nil_append] at hp
        refine Ev.step (f := fun k => (suppress_Parse.f k (nText l (⟨#[]⟩ : ByteArray))).bind fun p => (if p.2.2 = 0 then (if p.2.1 = 0 then ((dataflowref46_Same.f k l p.1).bind fun t => (if t = true then ((dataflowlaw46_awake.f k).bind fun t2 => (some t2)) else (some false))) else (some false)) else (some false))) (fun k => by simp only [dataflowlaw46_SuppressBack.j1]; rw [if_neg (by simp)]) (Ev.bind hp ?_)
        refine Ev.congr (f := fun k => ((dataflowref46_Same.f k l l).bind fun t => (if t = true then ((dataflowlaw46_awake.f k).bind fun t2 => (some t2)) else (some false)))) (fun k => by rw [if_pos rfl, if_pos rfl]) (Ev.bind (same_ev l (by omega)) ?_)
        exact Ev.congr (f := fun k => ((dataflowlaw46_awake.f k).bind fun t => (some t))) (fun k => by rw [if_pos rfl]) (Ev.bind awake46 (Ev.now _))
    · exact Ev.step (f := fun k => dataflowlaw46_SuppressBack.j1 k l (textF l).1 true) (fun k => by simp only [dataflowlaw46_SuppressBack.j0]; rw [if_neg (by simp), if_neg h2]) (hj _)
end Go.Proofs.YtnoangbidnigdaaDoor.Pure

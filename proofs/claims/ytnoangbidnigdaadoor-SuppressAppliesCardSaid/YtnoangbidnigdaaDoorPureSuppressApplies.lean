/- For any findings and suppressions, few enough to be compared, Apply returns the report of the definition, or its error: the pure statement of SuppressApplies. -/
import Derived.Test.YtnoangbidnigdaaDoorWalkSuppressApplies
import Derived.Test.YtnoangbidnigdaaDoorSupFind
namespace Go.Proofs.YtnoangbidnigdaaDoor.Pure
open Go.RowKit Go.Proofs.YtnoangbidnigdaaDoorW.PrintWords Go.Proofs.YtnoangbidnigdaaDoor.H
set_option linter.unusedVariables false
theorem SuppressApplies : dataflowlaw46_SuppressApplies.Pure := by
  intro L M hL hM hlen
  have haw : Ev (fun k => (dataflowlaw46_awake.f k).bind fun t => some t) true := Ev.bind awake46 (Ev.now _)
  obtain ⟨b, hb, hb2⟩ := size_ev L M hlen.1
  refine Ev.rounds (Ev.congr (f := fun k => (dataflowlaw46_size.f k L M).bind fun t => (if t = true then ((suppress_Apply.f k L M).bind fun x => ((dataflowref46_Apply.f k L M).bind fun y => (if x.2.2.2 = y.2.2.2 then ((dataflowref46_SameReport.f k x.1 x.2.1 x.2.2.1 y.1 y.2.1 y.2.2.1).bind fun t => (if t = true then ((dataflowlaw46_awake.f k).bind fun t2 => (some t2)) else (some false))) else (some false)))) else ((dataflowlaw46_awake.f k).bind fun t2 => (some t2)))) (fun k => rfl) (Ev.bind hb ?_))
  cases b with
  | false => exact Ev.congr (fun k => by rw [if_neg (by simp)]) haw
  | true =>
    obtain ⟨c1, c2⟩ := hb2 rfl
    have ok : Ok L M := ⟨c1, c2, hlen.2, fun x hx => ⟨⟨(hL x hx).2.1.1, (hL x hx).2.1.2.1⟩, (hL x hx).2.2.1, fun p hp => ⟨((hL x hx).2.2.2 p hp).1, ((hL x hx).2.2.2 p hp).2.1⟩⟩, fun n hn => (hM n hn).2⟩
    refine Ev.congr (fun k => by rw [if_pos rfl]) (Ev.bind (app_ev ok) (Ev.bind (rapp_ev ok) ?_))
    have hs : Ev (fun k => dataflowref46_SameReport.f k (appF L M).1 (appF L M).2.1 (appF L M).2.2.1 (appF L M).1 (appF L M).2.1 (appF L M).2.2.1) true := by
      unfold appF
      by_cases c : allE L M = 0
      · rw [if_pos c]
        have h1 := oh_len M L
        have h2 := unu_len (usdF M L (List.replicate M.length false)) 0
        have h3 := usd_len M L (List.replicate M.length false)
        rw [List.length_replicate] at h3
        have h4 := cks_len L (allE_z c)
        exact samR_ev (opnF M L) (hidF M L) (unuF (usdF M L (List.replicate M.length false)) 0) (by omega) (by omega) (by omega) (fun x hx => h4 x (opn_mem M L x hx)) (fun x hx => h4 x.f0 (hid_mem M L x hx))
      · rw [if_neg c]
        exact samR_ev [] [] [] (by simp) (by simp) (by simp) (fun x hx => by cases hx) (fun x hx => by cases hx)
    refine Ev.congr (fun k => by rw [if_pos rfl]) (Ev.bind hs ?_)
    exact Ev.congr (fun k => by rw [if_pos rfl]) haw
end Go.Proofs.YtnoangbidnigdaaDoor.Pure

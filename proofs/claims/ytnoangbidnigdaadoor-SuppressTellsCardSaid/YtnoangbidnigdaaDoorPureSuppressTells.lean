/- For any suppression and finding, Check and Match are as by definition: the pure statement of SuppressTells. -/
import Derived.Test.YtnoangbidnigdaaDoorWalkSuppressTells
import Derived.Test.YtnoangbidnigdaaDoorSupCheck
namespace Go.Proofs.YtnoangbidnigdaaDoor.Pure
open Go.RowKit Go.Proofs.YtnoangbidnigdaaDoorW.PrintWords Go.Proofs.YtnoangbidnigdaaDoor.H
set_option linter.unusedVariables false
theorem SuppressTells : dataflowlaw46_SuppressTells.Pure := by
  intro kd c m w r fk fc fm fi fw fp ⟨_, hc, hm, hw, hr⟩ _
  refine Ev.rounds (Ev.congr (f := fun k => (suppress_Check.f k kd c m w r).bind fun t => ((dataflowref46_Check.f k kd c m w r).bind fun t2 => (if t = t2 then ((suppress_Match.f kd c m w r fk fc fm fi fw fp).bind fun t3 => ((dataflowref46_Match.f kd c m w r fk fc fm fi fw fp).bind fun t4 => (if (t3 == t4) = true then ((dataflowlaw46_awake.f k).bind fun t5 => (some t5)) else (some false)))) else (some false)))) (fun k => rfl) (Ev.bind (lCheck_ev kd c m w r hc hm hw hr) (Ev.bind (rCheck_ev kd c m w r hc hm hw hr) ?_)))
  refine Ev.congr (f := fun k => ((dataflowlaw46_awake.f k).bind fun t5 => (some t5))) (fun k => ?_) (Ev.bind awake46 (Ev.now _))
  rw [if_pos rfl, match_eq]
  unfold suppress_Match.f
  simp only [Option.bind_some, beq_self_eq_true, if_true]
end Go.Proofs.YtnoangbidnigdaaDoor.Pure

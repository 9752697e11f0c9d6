/- For any text, the tokens, or the error and its offset, are the reference's: the pure statement of LexTokens. -/
import Derived.Test.YthfhbdncphkdaaaDoorWalkLexTokens
import Derived.Test.YthfhbdncphkdaaaDoorLexTok
namespace Go.Proofs.YthfhbdncphkdaaaDoor.Pure
open Go.RowKit Go.Proofs.YthfhbdncphkdaaaDoorW.PrintWords Go.Proofs.YthfhbdncphkdaaaDoor.G
theorem LexTokens : dataflowlaw07_LexTokens.Pure := by
  intro s hs
  refine Ev.rounds (Ev.congr (f := fun k => (dataflowref07_Tokens.f k s).bind fun b => ((dataflowref07_Same.f k (tokensS s).1 b.1).bind fun t => (if t = true then (if (tokensS s).2.1 = b.2.1 then (if (tokensS s).2.2 = b.2.2 then ((dataflowlaw07_awake.f k).bind fun t2 => (some t2)) else (some false)) else (some false)) else (some false)))) (fun k => ?_) (Ev.bind (rtok_ev s) (Ev.bind (same_refl _ (by have := tokensS_len s; omega)) ?_)))
  · unfold dataflowlaw07_LexTokens.f; rw [ltok_eq]; rfl
  · refine Ev.congr (f := fun k => (dataflowlaw07_awake.f k).bind fun t2 => some t2) (fun k => ?_) (Ev.bind awake07 (Ev.now _))
    rw [if_pos rfl, if_pos rfl, if_pos rfl]
end Go.Proofs.YthfhbdncphkdaaaDoor.Pure

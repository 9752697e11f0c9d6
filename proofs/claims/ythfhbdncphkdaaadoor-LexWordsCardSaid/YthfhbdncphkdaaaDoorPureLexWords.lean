/- A text is an identifier, or a keyword, exactly if it is a single token of this kind: the pure statement of LexWords. -/
import Derived.Test.YthfhbdncphkdaaaDoorWalkLexWords
import Derived.Test.YthfhbdncphkdaaaDoorLexChain
namespace Go.Proofs.YthfhbdncphkdaaaDoor.Pure
open Go.RowKit Go.Proofs.YthfhbdncphkdaaaDoorW.PrintWords Go.Proofs.YthfhbdncphkdaaaDoor.G
/-- What the law's last part asks. -/
theorem words_j (s : ByteArray) (hs : s.size ≤ 140737488351232) : Ev (fun k => dataflowlaw07_LexWords.j0 k s false) true := by
  have hid := ident_ev s hs
  have haw : Ev (fun k => (dataflowlaw07_awake.f k).bind fun t => some t) true := Ev.bind awake07 (Ev.now _)
  have hkw : ∀ k : Nat, lex_Keyword.f s = some (isKw s) := fun _ => rfl
  refine Ev.step (f := fun k => dataflowlaw07_LexWords.j0 (k + 1) s false) (fun k => rfl) ?_
  -- no single token: neither
  have no : ∀ f : Nat → Option Bool, (∀ k, f k = ((lex_Ident.f k s).bind fun t => (if (t == false) = true then ((lex_Keyword.f s).bind fun t2 => (if (t2 == false) = true then ((dataflowlaw07_awake.f k).bind fun t3 => (some t3)) else (some false))) else (some false)))) → wordS s = false → Ev f true := by
    intro f hf hw
    have hi : identS s = false := by unfold identS; rw [hw]; rfl
    have hk : isKw s = false := by
      cases h : isKw s with
      | false => rfl
      | true => rw [kw_word s h] at hw; cases hw
    rw [hi] at hid
    refine Ev.congr hf (Ev.bind hid (Ev.congr (fun k => ?_) haw))
    rw [hkw 0, hk]; rfl
  rcases Bool.eq_false_or_eq_true (wordS s) with hw | hw
  · -- a word: one token
    have h1 := word_one s hw
    refine Ev.congr (f := fun k => (lex_Ident.f k s).bind fun t => (if (t == (((if isKw s then (2 : Int) else 1)) == 1)) = true then ((some (isKw s)).bind fun t2 => (if (t2 == (((if isKw s then (2 : Int) else 1)) == 2)) = true then ((dataflowlaw07_awake.f k).bind fun t3 => (some t3)) else (some false))) else (some false))) (fun k => ?_) (Ev.bind hid ?_)
    · simp only [dataflowlaw07_LexWords.j0]
      rw [if_neg (by simp), ltok_eq, h1]
      simp only [Option.bind_some]
      rw [if_pos trivial, if_pos (by simp), if_pos (by simp), hkw k]
      simp [rd_T30]
    · unfold identS
      rw [hw]
      cases isKw s
      · refine Ev.congr (fun k => ?_) haw; rfl
      · refine Ev.congr (fun k => ?_) haw; rfl
  · -- not a word
    rcases tokens_cases s with ⟨_, h1⟩ | ⟨hle, ⟨l, hl, h1⟩ | ⟨p, er, hb, h1⟩⟩
    · refine no _ (fun k => ?_) hw
      simp only [dataflowlaw07_LexWords.j0]
      rw [if_neg (by simp), ltok_eq, h1]; rfl
    · by_cases h2 : l.length = 2
      · obtain ⟨t, e, rfl⟩ : ∃ t e, l = [t, e] := by
          match l, h2 with
          | [t, e], _ => exact ⟨t, e, rfl⟩
        by_cases ht : t.f2 = s
        · -- the text is all, but of another kind
          have hk : ¬ (t.f0 = 1 ∨ t.f0 = 2) := fun hk => by rw [(one_word s h1 ht hk).1] at hw; cases hw
          have k1 : (t.f0 == 1) = false := beq_eq_false_iff_ne.2 (fun e => hk (.inl e))
          have k2 : (t.f0 == 2) = false := beq_eq_false_iff_ne.2 (fun e => hk (.inr e))
          refine no _ (fun k => ?_) hw
          simp only [dataflowlaw07_LexWords.j0]
          rw [if_neg (by simp), ltok_eq, h1]
          simp only [Option.bind_some]
          rw [if_pos trivial, if_pos (by simp), if_pos (by simp)]
          have r0 : rd_T30 [t, e] 0 = t := rfl
          have hts : t.f2.toList = s.toList := by rw [ht]
          simp only [r0, if_pos hts, k1, k2]
        · refine no _ (fun k => ?_) hw
          simp only [dataflowlaw07_LexWords.j0]
          rw [if_neg (by simp), ltok_eq, h1]
          simp only [Option.bind_some]
          rw [if_pos trivial, if_pos (by simp), if_pos (by simp)]
          have r0 : rd_T30 [t, e] 0 = t := rfl
          have hne : ¬ t.f2.toList = s.toList := fun h => ht (by rw [Lib.toList_data, Lib.toList_data] at h; exact ByteArray.ext (Array.toList_inj.1 h))
          simp only [r0, if_neg hne]
      · refine no _ (fun k => ?_) hw
        simp only [dataflowlaw07_LexWords.j0]
        rw [if_neg (by simp), ltok_eq, h1]
        simp only [Option.bind_some]
        rw [if_pos trivial, if_neg (by omega)]
    · refine no _ (fun k => ?_) hw
      simp only [dataflowlaw07_LexWords.j0]
      rw [if_neg (by simp), ltok_eq, h1]
      simp only [Option.bind_some]
      rw [if_neg (bad_err hb).1]
theorem LexWords : dataflowlaw07_LexWords.Pure := by
  intro s hs
  refine Ev.rounds (Ev.congr (f := fun k => (lex_Ident.f k s).bind fun t1 => ((dataflowref07_Ident.f k s).bind fun t2 => (if (t1 != t2) = true then (dataflowlaw07_LexWords.j0 k s true) else ((some (isKw s)).bind fun t3 => ((dataflowref07_Keyword.f k s).bind fun t4 => (dataflowlaw07_LexWords.j0 k s (t3 != t4))))))) (fun k => rfl) (Ev.bind (ident_ev s hs) (Ev.bind (rident_ev s hs) ?_)))
  refine Ev.congr (f := fun k => (dataflowref07_Keyword.f k s).bind fun t4 => (dataflowlaw07_LexWords.j0 k s (isKw s != t4))) (fun k => ?_) (Ev.bind (rkw_ev s) ?_)
  · rw [if_neg (by simp)]; rfl
  · rw [bne_self_eq_false]; exact words_j s hs
end Go.Proofs.YthfhbdncphkdaaaDoor.Pure

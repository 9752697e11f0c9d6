/- For any text of at most 3000 bytes, Parse returns the protocol or the first error of the definition, with its line: the pure statement of ProtocolParses. -/
import Derived.Test.YthfhbdncphkdaaaDoorWalkProtocolParses
import Derived.Test.YthfhbdncphkdaaaDoorProRef
namespace Go.Proofs.YthfhbdncphkdaaaDoor.Pure
open Go.RowKit Go.Proofs.YthfhbdncphkdaaaDoorW.PrintWords Go.Proofs.YthfhbdncphkdaaaDoor.H
set_option linter.unusedVariables false
theorem parF_err {s : ByteArray} (h : (parF s).2.2 ≠ 0) : (parF s).1 = pr0 := by
  unfold parF at h ⊢
  by_cases c : s.size > 65536
  · rw [if_pos c]
  · rw [if_neg c] at h ⊢
    dsimp only at h ⊢
    generalize parFl ((spl 10 s).take ((spl 10 s).length - 1)) 0 false pr0 = x at h ⊢
    by_cases c1 : x.2.2.2 = 0
    · rw [if_pos c1] at h ⊢
      by_cases c2 : x.1 = false
      · rw [if_pos c2]
      · rw [if_neg c2] at h ⊢
        by_cases c3 : (rdOf ByteArray.empty (spl 10 s) (((spl 10 s).length : Int) - 1)).toList = ([] : List UInt8)
        · rw [if_pos c3] at h ⊢
          by_cases c4 : chkPr x.2.1 = 0
          · rw [if_pos c4] at h; exact absurd rfl h
          · rw [if_neg c4]
        · rw [if_neg c3]
    · rw [if_neg c1]
theorem ProtocolParses : dataflowlaw39_ProtocolParses.Pure := by
  intro s _
  by_cases h1 : (s.size : Int) > 3000
  · exact Ev.rounds (Ev.congr (fun k => by unfold dataflowlaw39_ProtocolParses.f; rw [if_pos h1]) (Ev.bind awake39 (Ev.now true)))
  · have hl := lparse_ev s
    have hr := rparse_ev s
    have he := @parF_err s
    have ht := @parse_text s
    generalize parF s = y at hl hr he ht
    obtain ⟨⟨c, ss, st, er, ms⟩, v, e⟩ := y
    dsimp only at hl hr he ht
    have hlen : ss.length ≤ 1000000 ∧ ms.length ≤ 1000000 := by
      by_cases e0 : e = 0
      · obtain ⟨_, h2, h3, _⟩ := checkF_zero (show checkF c ss st er ms = 0 from (ht e0).2.1)
        exact ⟨by omega, by omega⟩
      · have := he e0
        simp only [pr0, Prod.mk.injEq] at this
        obtain ⟨rfl, rfl, rfl, rfl, rfl⟩ := this
        exact ⟨Nat.zero_le _, Nat.zero_le _⟩
    refine Ev.rounds (Ev.congr (f := fun k => (protocol_Parse.f k s).bind fun b1 => ((dataflowref39_Parse.f k s).bind fun b2 => (if b1.2.2.2.2.2.2 = b2.2.2.2.2.2.2 then (if b1.2.2.2.2.2.1 = b2.2.2.2.2.2.1 then ((dataflowref39_Same.f k b1.1 b1.2.1 b1.2.2.1 b1.2.2.2.1 b1.2.2.2.2.1 b2.1 b2.2.1 b2.2.2.1 b2.2.2.2.1 b2.2.2.2.2.1).bind fun t => (dataflowlaw39_ProtocolParses.j0 k s b1.2.2.2.2.2.2 (!t) b1.1 b1.2.1 b1.2.2.1 b1.2.2.2.1 b1.2.2.2.2.1)) else (dataflowlaw39_ProtocolParses.j0 k s b1.2.2.2.2.2.2 true b1.1 b1.2.1 b1.2.2.1 b1.2.2.2.1 b1.2.2.2.2.1)) else (dataflowlaw39_ProtocolParses.j0 k s b1.2.2.2.2.2.2 true b1.1 b1.2.1 b1.2.2.1 b1.2.2.2.1 b1.2.2.2.2.1)))) (fun k => by unfold dataflowlaw39_ProtocolParses.f; rw [if_neg h1]) (Ev.bind hl (Ev.bind hr ?_)))
    refine Ev.congr (f := fun k => (dataflowref39_Same.f k c ss st er ms c ss st er ms).bind fun t => dataflowlaw39_ProtocolParses.j0 k s e (!t) c ss st er ms) (fun k => by rw [if_pos rfl, if_pos rfl]) (Ev.bind (same_ev c ss st er ms hlen.1 hlen.2) ?_)
    by_cases e0 : e = 0
    · obtain ⟨_, h2, h3⟩ := ht e0
      have h2 : checkF c ss st er ms = 0 := h2
      have hg : GoodP c ss ms := by
        obtain ⟨n1, n2, n3⟩ := valid_names h2
        exact ⟨Nat.le_trans (ident_sz n1).2.1 (by decide), fun x hx => Nat.le_trans (ident_sz (n2 x hx)).2.1 (by decide), fun x hx => Nat.le_trans (ident_sz (n3 x hx).2.2.2.2).2.1 (by decide)⟩
      have hte := ltext_ev c ss st er ms hg
      rw [show txtF c ss st er ms = (proText c ss st er ms, 0) from if_pos h2, h3] at hte
      refine Ev.step (f := fun k => (protocol_Text.f k c ss st er ms).bind fun b => (if b.2 = 0 then (if b.1.toList = s.toList then ((dataflowlaw39_awake.f k).bind fun t => (some t)) else (some false)) else (some false))) (fun k => by simp only [dataflowlaw39_ProtocolParses.j0]; rw [if_neg (by simp), if_pos e0]) (Ev.bind hte ?_)
      exact Ev.congr (f := fun k => (dataflowlaw39_awake.f k).bind fun t => some t) (fun k => by rw [if_pos rfl, if_pos rfl]) (Ev.bind awake39 (Ev.now true))
    · exact Ev.step (f := fun k => (dataflowlaw39_awake.f k).bind fun t => some t) (fun k => by simp only [dataflowlaw39_ProtocolParses.j0]; rw [if_neg (by simp), if_neg e0]) (Ev.bind awake39 (Ev.now true))
end Go.Proofs.YthfhbdncphkdaaaDoor.Pure

/- The reference's head (a line of the first four): its call does what is told of it. -/
import Derived.Test.YthfhbdncphkdaaaDoorProTake
import Derived.Test.YthfhbdncphkdaaaDoorHf68
import Derived.Test.YthfhbdncphkdaaaDoorHe
namespace Go.Proofs.YthfhbdncphkdaaaDoor.H
open Go.RowKit Go.Proofs.YthfhbdncphkdaaaDoorW.PrintWords Go.Proofs.YthfhbdncphkdaaaDoorW.PrintLast Go.Proofs.YthfhbdncphkdaaaDoorW.PrintMore
set_option linter.unusedVariables false
set_option linter.unusedSimpArgs false

/-- A line of the first four, the reference. -/
def headP (K i : Nat) (ws : List ByteArray) (p : Pr) : Option (Pr × Int) :=
  (dataflowref39_form.f K ws (formW i) (if i = 1 then 0 else 2)).bind fun b => if b = true then (if 1 < ws.length then (dataflowref39_at.f K p.2.1 (rdOf ByteArray.empty ws 1)).bind fun r =>
    some (match i with
      | 0 => ((rdOf ByteArray.empty ws 1, p.2), (0 : Int))
      | 1 => ((p.1, ws.drop 1, p.2.2), 0)
      | 2 => ((p.1, p.2.1, r, p.2.2.2), if r < 0 then 6 else 0)
      | _ => ((p.1, p.2.1, p.2.2.1, r, p.2.2.2.2), if r < 0 then 6 else 0)) else none) else some (p, 2)
/-- The first words' cells. -/
abbrev nmC : Array Value := #[.string ⟨#[112, 114, 111, 116, 111, 99, 111, 108]⟩, .string ⟨#[115, 116, 97, 116, 101, 115]⟩, .string ⟨#[115, 116, 97, 114, 116]⟩, .string ⟨#[101, 114, 114, 111, 114]⟩]
/-- What is told of the call's end. -/
def HeadPost (w : World) (p p2 : Pr) (A : Option Addr) (c : Nat) (A4 : Option Addr) (n4 c4 : Nat) (aw : Addr) (ws : List ByteArray) (cw : Nat) (e2 : Int) (e : Ending) (w' : World) : Prop :=
  ∃ vS : Value, e = .returned (.tuple #[.agg #[.string p2.1, vS, .int .i64 p2.2.2.1, .int .i64 p2.2.2.2.1, (.slice A4 n4 c4)], .int .i64 e2]) ∧ (vS = .slice A p.2.1.length c ∧ p2.2.1 = p.2.1 ∨ vS = .slice (some (aw.add 1)) (ws.length - 1) (cw - 1) ∧ p2.2.1 = ws.drop 1 ∧ 1 < ws.length) ∧ p2.2.2.2.2 = p.2.2.2.2 ∧ Below w.heap.size w w'
set_option maxHeartbeats 4000000 in
set_option maxRecDepth 100000 in
theorem head_calls (K i : Nat) (hi : i < 4) (p p2 : Pr) (A : Option Addr) (c : Nat) (A4 : Option Addr) (n4 c4 : Nat) (aw : Addr) (ws : List ByteArray) (cw : Nat) (e2 : Int) (w : World) (hs : Kd.C Kd.string w A p.2.1.length p.2.1) (hc : p.2.1.length ≤ c) (hw : Kd.C Kd.string w (some aw) ws.length ws) (hcw : ws.length ≤ cw) (hcm : cw ≤ 9223372036854775807) (h : headP K i ws p = some (p2, e2)) :
    Calls Tryd.prog 67 #[.agg #[.string p.1, .slice A p.2.1.length c, .int .i64 p.2.2.1, .int .i64 p.2.2.2.1, (.slice A4 n4 c4)], .int .i64 i, .slice (some aw) ws.length cw] w fun e w' => HeadPost w p p2 A c A4 n4 c4 aw ws cw e2 e w' := by
  have hu35 := Tryd.underlying35
  have HS := Aside0.mk hs
  have HC := Aside0.mk hc
  have HW := Aside0.mk hw
  have HCW := Aside0.mk hcw
  have hcm2 := eq_true hcm
  unfold headP at h
  obtain ⟨b, hb, h⟩ := Option.bind_eq_some_iff.mp h
  have HB := Aside0.mk hb
  have HH := Aside0.mk h
  clear hs hc hw hb h
  have hi4 : i = 0 ∨ i = 1 ∨ i = 2 ∨ i = 3 := by omega
  have B1 := blk_alloc (blk_alloc (blk_new w (.cells #[.string p.1, .slice A p.2.1.length c, .int .i64 p.2.2.1, .int .i64 p.2.2.2.1, (.slice A4 n4 c4)] 35)) (.cells zeroC 35)) (.cells nmC 9)
  have B2 := blk_alloc (blk_new (w.alloc (.cells #[.string p.1, .slice A p.2.1.length c, .int .i64 p.2.2.1, .int .i64 p.2.2.2.1, (.slice A4 n4 c4)] 35)) (.cells zeroC 35)) (.cells nmC 9)
  have B3 := blk_new ((w.alloc (.cells #[.string p.1, .slice A p.2.1.length c, .int .i64 p.2.2.1, .int .i64 p.2.2.2.1, (.slice A4 n4 c4)] 35)).alloc (.cells zeroC 35)) (.cells nmC 9)
  rw [show (w.alloc (.cells #[.string p.1, .slice A p.2.1.length c, .int .i64 p.2.2.1, .int .i64 p.2.2.2.1, (.slice A4 n4 c4)] 35)).heap.size = w.heap.size + 1 by simp] at B2
  rw [show ((w.alloc (.cells #[.string p.1, .slice A p.2.1.length c, .int .i64 p.2.2.1, .int .i64 p.2.2.2.1, (.slice A4 n4 c4)] 35)).alloc (.cells zeroC 35)).heap.size = w.heap.size + 1 + 1 by simp] at B3
  have BB := Aside0.mk (below_alloc (below_alloc (below_alloc (Below.refl w.heap.size w) (.cells #[.string p.1, .slice A p.2.1.length c, .int .i64 p.2.2.1, .int .i64 p.2.2.2.1, (.slice A4 n4 c4)] 35)) (.cells zeroC 35)) (.cells nmC 9))
  have B1 := Aside0.mk B1
  have B2 := Aside0.mk B2
  have B3 := Aside0.mk B3
  rcases hi4 with rfl | rfl | rfl | rfl
  · go_enter Tryd.func67, Tryd.ntmps67
    have HB := Aside0.mk (show dataflowref39_form.f K ws (formW 0) 2 = some b from HB.out)
    go_upto_region 5 with (fail)
    generalize ((w.alloc (.cells #[.string p.1, .slice A p.2.1.length c, .int .i64 p.2.2.1, .int .i64 p.2.2.2.1, (.slice A4 n4 c4)] 35)).alloc (.cells zeroC 35)).alloc (.cells nmC 9) = W0 at B1 B2 B3 BB ⊢
    have hn : W0.cell? ⟨w.heap.size + 1 + 1, 0, none⟩ = some (.string (formW 0)) := (blk_cell B3.out 0).trans rfl
    cases b with
    | false =>
      have hp : some (p, (2 : Int)) = some (p2, e2) := HH.out
      obtain ⟨rfl, rfl⟩ := by simpa using hp
      clear hp
      obtain ⟨hz0, hz1, hz2, hz3, hz4, hy0, hy1, hy2, hy3, hy4⟩ := cz5_ B1.out
      obtain ⟨ha0, ha1, ha2, ha3, ha4, hb0, hb1, hb2, hb3, hb4⟩ := cz5_ B2.out
      go_wp2_with (first | (go_at_call 68; (with_reducible refine (dataflowref39_form.calls K (some aw) cw ws (formW 0) 2 _ _ ?s1 HCW.out HB.out).mono ?_); (case s1 => exact Kd.C_below HW.out BB.out); rintro e w' ⟨rfl, ⟨n1, rfl⟩⟩))
      refine bodyPost_ret (results_ct rfl _ _ (w.heap.size + 1) 35 #[.string p.1, .slice A p.2.1.length c, .int .i64 p.2.2.1, .int .i64 p.2.2.2.1, (.slice A4 n4 c4)] (0, 0) _ rfl (put5v _ _ _ _ _ (blk_drewN B2.out _)) hu35 rfl (by kernel_rfl)) rfl ?_
      exact ⟨_, rfl, .inl ⟨rfl, rfl⟩, rfl, below5 (pw_below_drewN BB.out _) (Nat.le_succ _)⟩
    | true =>
      by_cases hl1 : 1 < ws.length
      · have hh : ((dataflowref39_at.f K p.2.1 (rdOf ByteArray.empty ws 1)).bind fun r => some (((rdOf ByteArray.empty ws 1, p.2), (0 : Int)))) = some (p2, e2) := by have h := HH.out; rw [if_pos rfl, if_pos hl1] at h; exact h
        obtain ⟨r, hr, hh⟩ := Option.bind_eq_some_iff.mp hh
        obtain ⟨rfl, rfl⟩ := Prod.mk.inj (Option.some.inj hh)
        have HR := Aside0.mk hr
        obtain ⟨aw', eA, hx⟩ := Kd.at_string HW.out 1 (by omega) (by omega)
        obtain rfl : aw = aw' := by injection eA
        have hx1 : W0.cell? ⟨aw.block, aw.off + 1, none⟩ = some (.string (rdOf ByteArray.empty ws 1)) := (BB.out.cell (World.block_lt_of_cell? w _ hx)).trans hx
        have q1 := eq_true (show (1 : Int) < (ws.length : Int) by omega)
        have q2 := eq_true (show (1 : Int) ≤ (ws.length : Int) by omega)
        obtain ⟨hz0, hz1, hz2, hz3, hz4, hy0, hy1, hy2, hy3, hy4⟩ := cz5_ B1.out
        obtain ⟨ha0, ha1, ha2, ha3, ha4, hb0, hb1, hb2, hb3, hb4⟩ := cz5_ B2.out
        have HL1 := Aside0.mk hl1
        clear hh hr eA hx hl1
        go_wp2_with (first | (go_at_call 68; (with_reducible refine (dataflowref39_form.calls K (some aw) cw ws (formW 0) 2 _ _ ?s1 HCW.out HB.out).mono ?_); (case s1 => exact Kd.C_below HW.out BB.out); rintro e w' ⟨rfl, ⟨n1, rfl⟩⟩))
        repeat (go_quiet (first | (go_at_call 57; (with_reducible refine (dataflowref39_at.calls K A c p.2.1 (rdOf ByteArray.empty ws 1) r _ ?s1 HC.out HR.out).mono ?_); (case s1 => exact Kd.C_drewN (Kd.C_below HS.out BB.out) _); rintro e w' ⟨rfl, ⟨nd, rfl⟩⟩; (try first | exact ⟨rfl, _, World.drewN_drewN _ _ _⟩ | exact ⟨rfl, _, Eq.trans (World.drewN_drewN _ _ _) (congrArg (World.drewN _) (Nat.add_assoc _ _ _))⟩))))
        try go_wp2
        refine bodyPost_ret (results_ct rfl _ _ (w.heap.size + 1) 35 #[.string (rdOf ByteArray.empty ws 1), .slice A p.2.1.length c, .int .i64 p.2.2.1, .int .i64 p.2.2.2.1, (.slice A4 n4 c4)] (0, 0) _ rfl (put5v _ _ _ _ _ (blk_far (p := ⟨w.heap.size, 0, none⟩) (blk_drewN B2.out _) (Nat.ne_of_gt (Nat.lt_succ_self _)) _)) hu35 rfl (by kernel_rfl)) rfl ?_
        exact ⟨_, rfl, .inl ⟨rfl, rfl⟩, rfl, below5 (below_set (pw_below_drewN BB.out _) (Nat.le_refl _)) (Nat.le_succ _)⟩
      · have h := HH.out
        rw [if_pos rfl, if_neg hl1] at h
        cases h
  · go_enter Tryd.func67, Tryd.ntmps67
    have HB := Aside0.mk (show dataflowref39_form.f K ws (formW 1) 0 = some b from HB.out)
    go_upto_region 5 with (fail)
    generalize ((w.alloc (.cells #[.string p.1, .slice A p.2.1.length c, .int .i64 p.2.2.1, .int .i64 p.2.2.2.1, (.slice A4 n4 c4)] 35)).alloc (.cells zeroC 35)).alloc (.cells nmC 9) = W0 at B1 B2 B3 BB ⊢
    have hn : W0.cell? ⟨w.heap.size + 1 + 1, 1, none⟩ = some (.string (formW 1)) := (blk_cell B3.out 1).trans rfl
    cases b with
    | false =>
      have hp : some (p, (2 : Int)) = some (p2, e2) := HH.out
      obtain ⟨rfl, rfl⟩ := by simpa using hp
      clear hp
      obtain ⟨hz0, hz1, hz2, hz3, hz4, hy0, hy1, hy2, hy3, hy4⟩ := cz5_ B1.out
      obtain ⟨ha0, ha1, ha2, ha3, ha4, hb0, hb1, hb2, hb3, hb4⟩ := cz5_ B2.out
      go_wp2_with (first | (go_at_call 68; (with_reducible refine (dataflowref39_form.calls K (some aw) cw ws (formW 1) 0 _ _ ?s1 HCW.out HB.out).mono ?_); (case s1 => exact Kd.C_below HW.out BB.out); rintro e w' ⟨rfl, ⟨n1, rfl⟩⟩))
      refine bodyPost_ret (results_ct rfl _ _ (w.heap.size + 1) 35 #[.string p.1, .slice A p.2.1.length c, .int .i64 p.2.2.1, .int .i64 p.2.2.2.1, (.slice A4 n4 c4)] (0, 0) _ rfl (put5v _ _ _ _ _ (blk_drewN B2.out _)) hu35 rfl (by kernel_rfl)) rfl ?_
      exact ⟨_, rfl, .inl ⟨rfl, rfl⟩, rfl, below5 (pw_below_drewN BB.out _) (Nat.le_succ _)⟩
    | true =>
      by_cases hl1 : 1 < ws.length
      · have hh : ((dataflowref39_at.f K p.2.1 (rdOf ByteArray.empty ws 1)).bind fun r => some (((p.1, ws.drop 1, p.2.2), (0 : Int)))) = some (p2, e2) := by have h := HH.out; rw [if_pos rfl, if_pos hl1] at h; exact h
        obtain ⟨r, hr, hh⟩ := Option.bind_eq_some_iff.mp hh
        obtain ⟨rfl, rfl⟩ := Prod.mk.inj (Option.some.inj hh)
        have HR := Aside0.mk hr
        obtain ⟨aw', eA, hx⟩ := Kd.at_string HW.out 1 (by omega) (by omega)
        obtain rfl : aw = aw' := by injection eA
        have hx1 : W0.cell? ⟨aw.block, aw.off + 1, none⟩ = some (.string (rdOf ByteArray.empty ws 1)) := (BB.out.cell (World.block_lt_of_cell? w _ hx)).trans hx
        have q1 := eq_true (show (1 : Int) < (ws.length : Int) by omega)
        have q2 := eq_true (show (1 : Int) ≤ (ws.length : Int) by omega)
        obtain ⟨hz0, hz1, hz2, hz3, hz4, hy0, hy1, hy2, hy3, hy4⟩ := cz5_ B1.out
        obtain ⟨ha0, ha1, ha2, ha3, ha4, hb0, hb1, hb2, hb3, hb4⟩ := cz5_ B2.out
        have HL1 := Aside0.mk hl1
        clear hh hr eA hx
        go_wp2_with (first | (go_at_call 68; (with_reducible refine (dataflowref39_form.calls K (some aw) cw ws (formW 1) 0 _ _ ?s1 HCW.out HB.out).mono ?_); (case s1 => exact Kd.C_below HW.out BB.out); rintro e w' ⟨rfl, ⟨n1, rfl⟩⟩))
        repeat (go_quiet (first | (go_at_call 57; (with_reducible refine (dataflowref39_at.calls K A c p.2.1 (rdOf ByteArray.empty ws 1) r _ ?s1 HC.out HR.out).mono ?_); (case s1 => exact Kd.C_drewN (Kd.C_below HS.out BB.out) _); rintro e w' ⟨rfl, ⟨nd, rfl⟩⟩; (try first | exact ⟨rfl, _, World.drewN_drewN _ _ _⟩ | exact ⟨rfl, _, Eq.trans (World.drewN_drewN _ _ _) (congrArg (World.drewN _) (Nat.add_assoc _ _ _))⟩))))
        try go_wp2
        refine bodyPost_ret (results_ct rfl _ _ (w.heap.size + 1) 35 #[.string p.1, .slice (some (aw.add 1)) (ws.length - 1) (cw - 1), .int .i64 p.2.2.1, .int .i64 p.2.2.2.1, (.slice A4 n4 c4)] (0, 0) _ rfl (put5v _ _ _ _ _ (blk_far (p := ⟨w.heap.size, 1, none⟩) (blk_drewN B2.out _) (Nat.ne_of_gt (Nat.lt_succ_self _)) _)) hu35 rfl (by kernel_rfl)) rfl ?_
        exact ⟨_, rfl, .inr ⟨rfl, rfl, HL1.out⟩, rfl, below5 (below_set (pw_below_drewN BB.out _) (Nat.le_refl _)) (Nat.le_succ _)⟩
      · have h := HH.out
        rw [if_pos rfl, if_neg hl1] at h
        cases h
  · go_enter Tryd.func67, Tryd.ntmps67
    have HB := Aside0.mk (show dataflowref39_form.f K ws (formW 2) 2 = some b from HB.out)
    go_upto_region 5 with (fail)
    generalize ((w.alloc (.cells #[.string p.1, .slice A p.2.1.length c, .int .i64 p.2.2.1, .int .i64 p.2.2.2.1, (.slice A4 n4 c4)] 35)).alloc (.cells zeroC 35)).alloc (.cells nmC 9) = W0 at B1 B2 B3 BB ⊢
    have hn : W0.cell? ⟨w.heap.size + 1 + 1, 2, none⟩ = some (.string (formW 2)) := (blk_cell B3.out 2).trans rfl
    cases b with
    | false =>
      have hp : some (p, (2 : Int)) = some (p2, e2) := HH.out
      obtain ⟨rfl, rfl⟩ := by simpa using hp
      clear hp
      obtain ⟨hz0, hz1, hz2, hz3, hz4, hy0, hy1, hy2, hy3, hy4⟩ := cz5_ B1.out
      obtain ⟨ha0, ha1, ha2, ha3, ha4, hb0, hb1, hb2, hb3, hb4⟩ := cz5_ B2.out
      go_wp2_with (first | (go_at_call 68; (with_reducible refine (dataflowref39_form.calls K (some aw) cw ws (formW 2) 2 _ _ ?s1 HCW.out HB.out).mono ?_); (case s1 => exact Kd.C_below HW.out BB.out); rintro e w' ⟨rfl, ⟨n1, rfl⟩⟩))
      refine bodyPost_ret (results_ct rfl _ _ (w.heap.size + 1) 35 #[.string p.1, .slice A p.2.1.length c, .int .i64 p.2.2.1, .int .i64 p.2.2.2.1, (.slice A4 n4 c4)] (0, 0) _ rfl (put5v _ _ _ _ _ (blk_drewN B2.out _)) hu35 rfl (by kernel_rfl)) rfl ?_
      exact ⟨_, rfl, .inl ⟨rfl, rfl⟩, rfl, below5 (pw_below_drewN BB.out _) (Nat.le_succ _)⟩
    | true =>
      by_cases hl1 : 1 < ws.length
      · have hh : ((dataflowref39_at.f K p.2.1 (rdOf ByteArray.empty ws 1)).bind fun r => some (((p.1, p.2.1, r, p.2.2.2), if r < 0 then (6 : Int) else 0))) = some (p2, e2) := by have h := HH.out; rw [if_pos rfl, if_pos hl1] at h; exact h
        obtain ⟨r, hr, hh⟩ := Option.bind_eq_some_iff.mp hh
        obtain ⟨rfl, rfl⟩ := Prod.mk.inj (Option.some.inj hh)
        have HR := Aside0.mk hr
        obtain ⟨aw', eA, hx⟩ := Kd.at_string HW.out 1 (by omega) (by omega)
        obtain rfl : aw = aw' := by injection eA
        have hx1 : W0.cell? ⟨aw.block, aw.off + 1, none⟩ = some (.string (rdOf ByteArray.empty ws 1)) := (BB.out.cell (World.block_lt_of_cell? w _ hx)).trans hx
        have q1 := eq_true (show (1 : Int) < (ws.length : Int) by omega)
        have q2 := eq_true (show (1 : Int) ≤ (ws.length : Int) by omega)
        obtain ⟨hz0, hz1, hz2, hz3, hz4, hy0, hy1, hy2, hy3, hy4⟩ := cz5_ B1.out
        obtain ⟨ha0, ha1, ha2, ha3, ha4, hb0, hb1, hb2, hb3, hb4⟩ := cz5_ B2.out
        have HL1 := Aside0.mk hl1
        clear hh hr eA hx hl1
        by_cases hr0 : r < 0
        · have d0 := decide_eq_true hr0
          have HR0 := Aside0.mk hr0
          go_wp2_with (first | (go_at_call 68; (with_reducible refine (dataflowref39_form.calls K (some aw) cw ws (formW 2) 2 _ _ ?s1 HCW.out HB.out).mono ?_); (case s1 => exact Kd.C_below HW.out BB.out); rintro e w' ⟨rfl, ⟨n1, rfl⟩⟩))
          repeat (go_quiet (first | (go_at_call 57; (with_reducible refine (dataflowref39_at.calls K A c p.2.1 (rdOf ByteArray.empty ws 1) r _ ?s1 HC.out HR.out).mono ?_); (case s1 => exact Kd.C_drewN (Kd.C_below HS.out BB.out) _); rintro e w' ⟨rfl, ⟨nd, rfl⟩⟩; (try first | exact ⟨rfl, _, World.drewN_drewN _ _ _⟩ | exact ⟨rfl, _, Eq.trans (World.drewN_drewN _ _ _) (congrArg (World.drewN _) (Nat.add_assoc _ _ _))⟩))))
          try go_wp2
          refine bodyPost_ret (results_ct rfl _ _ (w.heap.size + 1) 35 #[.string p.1, .slice A p.2.1.length c, .int .i64 r, .int .i64 p.2.2.2.1, (.slice A4 n4 c4)] (0, 0) _ rfl (put5v _ _ _ _ _ (blk_far (p := ⟨w.heap.size, 2, none⟩) (blk_drewN B2.out _) (Nat.ne_of_gt (Nat.lt_succ_self _)) _)) hu35 rfl (by kernel_rfl)) rfl ?_
          exact ⟨_, by first | rfl | (rw [if_pos (by have := HR0.out; omega)]; rfl), .inl ⟨rfl, rfl⟩, rfl, below5 (below_set (pw_below_drewN BB.out _) (Nat.le_refl _)) (Nat.le_succ _)⟩
        · have d0 := decide_eq_false hr0
          have HR0 := Aside0.mk hr0
          go_wp2_with (first | (go_at_call 68; (with_reducible refine (dataflowref39_form.calls K (some aw) cw ws (formW 2) 2 _ _ ?s1 HCW.out HB.out).mono ?_); (case s1 => exact Kd.C_below HW.out BB.out); rintro e w' ⟨rfl, ⟨n1, rfl⟩⟩))
          repeat (go_quiet (first | (go_at_call 57; (with_reducible refine (dataflowref39_at.calls K A c p.2.1 (rdOf ByteArray.empty ws 1) r _ ?s1 HC.out HR.out).mono ?_); (case s1 => exact Kd.C_drewN (Kd.C_below HS.out BB.out) _); rintro e w' ⟨rfl, ⟨nd, rfl⟩⟩; (try first | exact ⟨rfl, _, World.drewN_drewN _ _ _⟩ | exact ⟨rfl, _, Eq.trans (World.drewN_drewN _ _ _) (congrArg (World.drewN _) (Nat.add_assoc _ _ _))⟩))))
          try go_wp2
          refine bodyPost_ret (results_ct rfl _ _ (w.heap.size + 1) 35 #[.string p.1, .slice A p.2.1.length c, .int .i64 r, .int .i64 p.2.2.2.1, (.slice A4 n4 c4)] (0, 0) _ rfl (put5v _ _ _ _ _ (blk_far (p := ⟨w.heap.size, 2, none⟩) (blk_drewN B2.out _) (Nat.ne_of_gt (Nat.lt_succ_self _)) _)) hu35 rfl (by kernel_rfl)) rfl ?_
          exact ⟨_, by first | rfl | (rw [if_neg (by have := HR0.out; omega)]; rfl), .inl ⟨rfl, rfl⟩, rfl, below5 (below_set (pw_below_drewN BB.out _) (Nat.le_refl _)) (Nat.le_succ _)⟩
      · have h := HH.out
        rw [if_pos rfl, if_neg hl1] at h
        cases h
  · go_enter Tryd.func67, Tryd.ntmps67
    have HB := Aside0.mk (show dataflowref39_form.f K ws (formW 3) 2 = some b from HB.out)
    go_upto_region 5 with (fail)
    generalize ((w.alloc (.cells #[.string p.1, .slice A p.2.1.length c, .int .i64 p.2.2.1, .int .i64 p.2.2.2.1, (.slice A4 n4 c4)] 35)).alloc (.cells zeroC 35)).alloc (.cells nmC 9) = W0 at B1 B2 B3 BB ⊢
    have hn : W0.cell? ⟨w.heap.size + 1 + 1, 3, none⟩ = some (.string (formW 3)) := (blk_cell B3.out 3).trans rfl
    cases b with
    | false =>
      have hp : some (p, (2 : Int)) = some (p2, e2) := HH.out
      obtain ⟨rfl, rfl⟩ := by simpa using hp
      clear hp
      obtain ⟨hz0, hz1, hz2, hz3, hz4, hy0, hy1, hy2, hy3, hy4⟩ := cz5_ B1.out
      obtain ⟨ha0, ha1, ha2, ha3, ha4, hb0, hb1, hb2, hb3, hb4⟩ := cz5_ B2.out
      go_wp2_with (first | (go_at_call 68; (with_reducible refine (dataflowref39_form.calls K (some aw) cw ws (formW 3) 2 _ _ ?s1 HCW.out HB.out).mono ?_); (case s1 => exact Kd.C_below HW.out BB.out); rintro e w' ⟨rfl, ⟨n1, rfl⟩⟩))
      refine bodyPost_ret (results_ct rfl _ _ (w.heap.size + 1) 35 #[.string p.1, .slice A p.2.1.length c, .int .i64 p.2.2.1, .int .i64 p.2.2.2.1, (.slice A4 n4 c4)] (0, 0) _ rfl (put5v _ _ _ _ _ (blk_drewN B2.out _)) hu35 rfl (by kernel_rfl)) rfl ?_
      exact ⟨_, rfl, .inl ⟨rfl, rfl⟩, rfl, below5 (pw_below_drewN BB.out _) (Nat.le_succ _)⟩
    | true =>
      by_cases hl1 : 1 < ws.length
      · have hh : ((dataflowref39_at.f K p.2.1 (rdOf ByteArray.empty ws 1)).bind fun r => some (((p.1, p.2.1, p.2.2.1, r, p.2.2.2.2), if r < 0 then (6 : Int) else 0))) = some (p2, e2) := by have h := HH.out; rw [if_pos rfl, if_pos hl1] at h; exact h
        obtain ⟨r, hr, hh⟩ := Option.bind_eq_some_iff.mp hh
        obtain ⟨rfl, rfl⟩ := Prod.mk.inj (Option.some.inj hh)
        have HR := Aside0.mk hr
        obtain ⟨aw', eA, hx⟩ := Kd.at_string HW.out 1 (by omega) (by omega)
        obtain rfl : aw = aw' := by injection eA
        have hx1 : W0.cell? ⟨aw.block, aw.off + 1, none⟩ = some (.string (rdOf ByteArray.empty ws 1)) := (BB.out.cell (World.block_lt_of_cell? w _ hx)).trans hx
        have q1 := eq_true (show (1 : Int) < (ws.length : Int) by omega)
        have q2 := eq_true (show (1 : Int) ≤ (ws.length : Int) by omega)
        obtain ⟨hz0, hz1, hz2, hz3, hz4, hy0, hy1, hy2, hy3, hy4⟩ := cz5_ B1.out
        obtain ⟨ha0, ha1, ha2, ha3, ha4, hb0, hb1, hb2, hb3, hb4⟩ := cz5_ B2.out
        have HL1 := Aside0.mk hl1
        clear hh hr eA hx hl1
        by_cases hr0 : r < 0
        · have d0 := decide_eq_true hr0
          have HR0 := Aside0.mk hr0
          go_wp2_with (first | (go_at_call 68; (with_reducible refine (dataflowref39_form.calls K (some aw) cw ws (formW 3) 2 _ _ ?s1 HCW.out HB.out).mono ?_); (case s1 => exact Kd.C_below HW.out BB.out); rintro e w' ⟨rfl, ⟨n1, rfl⟩⟩))
          repeat (go_quiet (first | (go_at_call 57; (with_reducible refine (dataflowref39_at.calls K A c p.2.1 (rdOf ByteArray.empty ws 1) r _ ?s1 HC.out HR.out).mono ?_); (case s1 => exact Kd.C_drewN (Kd.C_below HS.out BB.out) _); rintro e w' ⟨rfl, ⟨nd, rfl⟩⟩; (try first | exact ⟨rfl, _, World.drewN_drewN _ _ _⟩ | exact ⟨rfl, _, Eq.trans (World.drewN_drewN _ _ _) (congrArg (World.drewN _) (Nat.add_assoc _ _ _))⟩))))
          try go_wp2
          refine bodyPost_ret (results_ct rfl _ _ (w.heap.size + 1) 35 #[.string p.1, .slice A p.2.1.length c, .int .i64 p.2.2.1, .int .i64 r, (.slice A4 n4 c4)] (0, 0) _ rfl (put5v _ _ _ _ _ (blk_far (p := ⟨w.heap.size, 3, none⟩) (blk_drewN B2.out _) (Nat.ne_of_gt (Nat.lt_succ_self _)) _)) hu35 rfl (by kernel_rfl)) rfl ?_
          exact ⟨_, by first | rfl | (rw [if_pos (by have := HR0.out; omega)]; rfl), .inl ⟨rfl, rfl⟩, rfl, below5 (below_set (pw_below_drewN BB.out _) (Nat.le_refl _)) (Nat.le_succ _)⟩
        · have d0 := decide_eq_false hr0
          have HR0 := Aside0.mk hr0
          go_wp2_with (first | (go_at_call 68; (with_reducible refine (dataflowref39_form.calls K (some aw) cw ws (formW 3) 2 _ _ ?s1 HCW.out HB.out).mono ?_); (case s1 => exact Kd.C_below HW.out BB.out); rintro e w' ⟨rfl, ⟨n1, rfl⟩⟩))
          repeat (go_quiet (first | (go_at_call 57; (with_reducible refine (dataflowref39_at.calls K A c p.2.1 (rdOf ByteArray.empty ws 1) r _ ?s1 HC.out HR.out).mono ?_); (case s1 => exact Kd.C_drewN (Kd.C_below HS.out BB.out) _); rintro e w' ⟨rfl, ⟨nd, rfl⟩⟩; (try first | exact ⟨rfl, _, World.drewN_drewN _ _ _⟩ | exact ⟨rfl, _, Eq.trans (World.drewN_drewN _ _ _) (congrArg (World.drewN _) (Nat.add_assoc _ _ _))⟩))))
          try go_wp2
          refine bodyPost_ret (results_ct rfl _ _ (w.heap.size + 1) 35 #[.string p.1, .slice A p.2.1.length c, .int .i64 p.2.2.1, .int .i64 r, (.slice A4 n4 c4)] (0, 0) _ rfl (put5v _ _ _ _ _ (blk_far (p := ⟨w.heap.size, 3, none⟩) (blk_drewN B2.out _) (Nat.ne_of_gt (Nat.lt_succ_self _)) _)) hu35 rfl (by kernel_rfl)) rfl ?_
          exact ⟨_, by first | rfl | (rw [if_neg (by have := HR0.out; omega)]; rfl), .inl ⟨rfl, rfl⟩, rfl, below5 (below_set (pw_below_drewN BB.out _) (Nat.le_refl _)) (Nat.le_succ _)⟩
      · have h := HH.out
        rw [if_pos rfl, if_neg hl1] at h
        cases h
end Go.Proofs.YthfhbdncphkdaaaDoor.H

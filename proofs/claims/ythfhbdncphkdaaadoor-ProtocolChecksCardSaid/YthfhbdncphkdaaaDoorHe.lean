/- Printed by a program of this session (xprint.py, over the kit's printer): Go functions as Lean functions, each with the proof that the call does what the Lean function says. -/
import Derived.Test.YthfhbdncphkdaaaDoorH0
import Derived.Test.YthfhbdncphkdaaaDoorHa
namespace Go.Proofs.YthfhbdncphkdaaaDoor.H
open Go.RowKit Go.Proofs.YthfhbdncphkdaaaDoorW.PrintWords Go.Proofs.YthfhbdncphkdaaaDoorW.PrintLast Go.Proofs.YthfhbdncphkdaaaDoorW.PrintMore
attribute [local go_sem] max2_int min2_int max_two min_two max_three min_three max_four min_four   -- for this text's walks alone
attribute [local go_sem] xs_gtr xs_leq xs_geq
set_option linter.unusedVariables false
set_option linter.unusedSimpArgs false

-- BUNDLE e
/-! ### dataflowref39_at: function 57 -/
def dataflowref39_at.l0 : Nat → List ByteArray → ByteArray → Int → Option (Int)
  | 0, _, _, _ => none
  | k + 1, x0, x1, x5 => if x5 < (x0.length : Int) then (if 0 ≤ x5 then (if (rdOf ByteArray.empty x0 x5).toList = x1.toList then (some x5) else (dataflowref39_at.l0 k x0 x1 (wrap64 (x5 + 1)))) else (none)) else (some (-1))
def dataflowref39_at.f (k : Nat) (l0 : List ByteArray) (a1 : ByteArray) : Option (Int) := dataflowref39_at.l0 k l0 a1 0
theorem dataflowref39_at.mono_l : ∀ k, (∀ y0 y1 y2, LeO (dataflowref39_at.l0 k y0 y1 y2) (dataflowref39_at.l0 (k + 1) y0 y1 y2))
  | 0 => fun _ _ _ r h => by simp [dataflowref39_at.l0] at h
  | k + 1 => by
    have ih0 := dataflowref39_at.mono_l k
    · intro y0 y1 y2
      unfold dataflowref39_at.l0
      repeat' first
      | (with_reducible exact ih0 _ _ _)
      | (with_reducible exact LeO.refl _)
      | (with_reducible exact LeO.none _)
      | (with_reducible refine LeO.ite ?_ ?_)
      | (with_reducible refine LeO.bind ?_ (fun _ => ?_))
      | exact ih0 _ _ _
      | exact LeO.none _
      | refine LeO.ite ?_ ?_
      | refine LeO.bind ?_ (fun _ => ?_)
theorem dataflowref39_at.mono : ∀ a0 a1 k, LeO (dataflowref39_at.f k a0 a1) (dataflowref39_at.f (k + 1) a0 a1) := by
  intro a0 a1 k
  have ih0 := dataflowref39_at.mono_l k
  unfold dataflowref39_at.f
  repeat' first
      | (with_reducible exact ih0 _ _ _)
      | (with_reducible exact LeO.refl _)
      | (with_reducible exact LeO.none _)
      | (with_reducible refine LeO.ite ?_ ?_)
      | (with_reducible refine LeO.bind ?_ (fun _ => ?_))
      | exact ih0 _ _ _
      | exact LeO.none _
      | refine LeO.ite ?_ ?_
      | refine LeO.bind ?_ (fun _ => ?_)
set_option maxHeartbeats 8000000 in
set_option maxRecDepth 100000 in
theorem dataflowref39_at.calls (k : Nat) (A0 : Option Addr) (c0 : Nat) (l0 : List ByteArray) (a1 : ByteArray) (r : Int) (w : World) (hr0 : Kd.C Kd.string w A0 l0.length l0) (hc0 : l0.length ≤ c0) (h : dataflowref39_at.f k l0 a1 = some r) :
    Calls Tryd.prog 57 #[.slice A0 l0.length c0, .string a1] w fun e w' => e = .returned (.int .i64 r) ∧ Drawn0 w w' := by
  have HR0 := Aside0.mk hr0
  have HC0 := Aside0.mk hc0
  clear hr0 hc0
  have H : (dataflowref39_at.l0 k l0 a1 0) = some r := h
  clear h
  have H' := Aside0.mk H
  clear H
  go_enter Tryd.func57, Tryd.ntmps57
  go_wp2
  go_loopg [5] k (fun kq v5 w' => ∃ (x5_1 : Int), v5 = .int .i64 x5_1 ∧ Aside0 (dataflowref39_at.l0 kq l0 a1 x5_1 = some r) ∧ Aside0 (kq ≤ k) ∧ Drawn0 w w')
  case atStart => exact ⟨(0), (by first | rfl | (simp; done) | (simp [*]; done)), H', ⟨Nat.le_refl _⟩, by repeat (first | exact Drawn0.refl _ | apply Drawn0.step)⟩
  case round =>
    clear H'
    try clear p2
    obtain ⟨x5_1, rfl, HA, HK1, ⟨m1, rfl⟩⟩ := hrel
    cases gk with
    | zero => exact absurd HA.out (by simp [dataflowref39_at.l0])
    | succ k1 =>
      have H := HA.out
      clear HA
      simp only [dataflowref39_at.l0] at H
      by_cases c3 : x5_1 < (l0.length : Int)
      · rw [if_pos c3] at H
        have c3b0 : decide (x5_1 < (l0.length : Int)) = true := decide_eq_true c3
        clear c3
        by_cases c4 : 0 ≤ x5_1
        · rw [if_pos c4] at H
          have c4b0 : decide (0 ≤ x5_1) = true := decide_eq_true c4
          clear c4
          by_cases c5 : (rdOf ByteArray.empty l0 x5_1).toList = a1.toList
          · rw [if_pos c5] at H
            have c5b0 : ((rdOf ByteArray.empty l0 x5_1).toList == a1.toList) = true := beq_iff_eq.mpr c5
            have c5b1 : ((rdOf ByteArray.empty l0 x5_1).toList != a1.toList) = false := bne_eq_false_iff_eq.mpr c5
            clear c5
            obtain rfl := Option.some.inj H
            have p58001 : 0 ≤ (x5_1 : Int) := of_decide_eq_true (by first | (with_reducible assumption) | assumption)
            have q58001 : x5_1 < (l0.length : Int) := of_decide_eq_true (by first | (with_reducible assumption) | assumption)
            obtain ⟨ad58001, e58001, hx58001_0⟩ := Kd.at_string HR0.out x5_1 p58001 q58001
            cases e58001
            replace p58001 := eq_true p58001
            replace q58001 := eq_true q58001
            go_wp2
            go_ret
            exact ⟨by first | rfl | (simp; done) | (simp [*]; done), by repeat (first | exact Drawn0.refl _ | apply Drawn0.step)⟩
          · rw [if_neg c5] at H
            have c5b0 : ((rdOf ByteArray.empty l0 x5_1).toList == a1.toList) = false := beq_eq_false_iff_ne.mpr c5
            have c5b1 : ((rdOf ByteArray.empty l0 x5_1).toList != a1.toList) = true := bne_iff_ne.mpr c5
            have H' := Aside0.mk H
            clear H
            have p58001 : 0 ≤ (x5_1 : Int) := of_decide_eq_true (by first | (with_reducible assumption) | assumption)
            have q58001 : x5_1 < (l0.length : Int) := of_decide_eq_true (by first | (with_reducible assumption) | assumption)
            obtain ⟨ad58001, e58001, hx58001_0⟩ := Kd.at_string HR0.out x5_1 p58001 q58001
            cases e58001
            replace p58001 := eq_true p58001
            replace q58001 := eq_true q58001
            go_wp2
            go_roundg k1
            case measure => have := HK1.out; omega
            case rel => exact ⟨(wrap64 (x5_1 + 1)), (by first | rfl | (simp; done) | (simp [*]; done)), H', ⟨by have := HK1.out; omega⟩, by repeat (first | exact Drawn0.refl _ | apply Drawn0.step)⟩
        · rw [if_neg c4] at H
          exact absurd H (by simp)
      · rw [if_neg c3] at H
        have c3b0 : decide (x5_1 < (l0.length : Int)) = false := decide_eq_false c3
        clear c3
        obtain rfl := Option.some.inj H
        go_wp2
        go_ret
        exact ⟨by first | rfl | (simp; done) | (simp [*]; done), by repeat (first | exact Drawn0.refl _ | apply Drawn0.step)⟩

/-! ### dataflowref39_moves: function 58 -/
mutual
def dataflowref39_moves.l0 : Nat → Int → ByteArray → List ByteArray → Int → Int → List (S64) → Option (Int)
  | 0, _, _, _, _, _, _ => none
  | k + 1, x3, x59002000, x59002001, x59002002, x59002003, x59002004 => if x3 < (x59002004.length : Int) then (if 0 ≤ x3 then (if ((rd_T64 x59002004 x3).f0) < 0 then (dataflowref39_moves.j1 k x3 true x59002000 x59002001 x59002002 x59002003 x59002004 ((rd_T64 x59002004 x3).f0) ((rd_T64 x59002004 x3).f1) ((rd_T64 x59002004 x3).f2)) else (if ((rd_T64 x59002004 x3).f0) ≥ (x59002001.length : Int) then (dataflowref39_moves.j1 k x3 true x59002000 x59002001 x59002002 x59002003 x59002004 ((rd_T64 x59002004 x3).f0) ((rd_T64 x59002004 x3).f1) ((rd_T64 x59002004 x3).f2)) else (if ((rd_T64 x59002004 x3).f2) < 0 then (dataflowref39_moves.j1 k x3 true x59002000 x59002001 x59002002 x59002003 x59002004 ((rd_T64 x59002004 x3).f0) ((rd_T64 x59002004 x3).f1) ((rd_T64 x59002004 x3).f2)) else (dataflowref39_moves.j1 k x3 (decide (((rd_T64 x59002004 x3).f2) ≥ (x59002001.length : Int))) x59002000 x59002001 x59002002 x59002003 x59002004 ((rd_T64 x59002004 x3).f0) ((rd_T64 x59002004 x3).f1) ((rd_T64 x59002004 x3).f2))))) else (none)) else (some 0)
def dataflowref39_moves.j1 : Nat → Int → Bool → ByteArray → List ByteArray → Int → Int → List (S64) → Int → ByteArray → Int → Option (Int)
  | 0, _, _, _, _, _, _, _, _, _, _ => none
  | k + 1, x3, x18, x59002000, x59002001, x59002002, x59002003, x59002004, x59004000, x59004001, x59004002 => if x18 = true then (some 4) else ((dataflowref07_Ident.f k x59004001).bind fun t59004 => (if t59004 = true then (if x59004000 = x59002003 then (some 22) else (if x3 > 0 then (if 0 ≤ (wrap64 (x3 - 1)) then (if (wrap64 (x3 - 1)) < (x59002004.length : Int) then (if ((rd_T64 x59002004 (wrap64 (x3 - 1))).f0) > x59004000 then (some 13) else (if ((rd_T64 x59002004 (wrap64 (x3 - 1))).f0) = x59004000 then (if ((Op.bytesLess (((rd_T64 x59002004 (wrap64 (x3 - 1))).f1).toList) x59004001.toList) = true) then (dataflowref39_moves.l0 k (wrap64 (x3 + 1)) x59002000 x59002001 x59002002 x59002003 x59002004) else (some 13)) else (dataflowref39_moves.l0 k (wrap64 (x3 + 1)) x59002000 x59002001 x59002002 x59002003 x59002004))) else (none)) else (none)) else (dataflowref39_moves.l0 k (wrap64 (x3 + 1)) x59002000 x59002001 x59002002 x59002003 x59002004))) else (some 5)))
end
def dataflowref39_moves.f (k : Nat) (a0_0 : ByteArray) (l0_1 : List ByteArray) (a0_2 : Int) (a0_3 : Int) (l0_4 : List (S64)) : Option (Int) := dataflowref39_moves.l0 k 0 a0_0 l0_1 a0_2 a0_3 l0_4
theorem dataflowref39_moves.mono_l : ∀ k, (∀ y0 y1 y2 y3 y4 y5, LeO (dataflowref39_moves.l0 k y0 y1 y2 y3 y4 y5) (dataflowref39_moves.l0 (k + 1) y0 y1 y2 y3 y4 y5)) ∧ (∀ y0 y1 y2 y3 y4 y5 y6 y7 y8 y9, LeO (dataflowref39_moves.j1 k y0 y1 y2 y3 y4 y5 y6 y7 y8 y9) (dataflowref39_moves.j1 (k + 1) y0 y1 y2 y3 y4 y5 y6 y7 y8 y9))
  | 0 => ⟨fun _ _ _ _ _ _ r h => by simp [dataflowref39_moves.l0] at h, fun _ _ _ _ _ _ _ _ _ _ r h => by simp [dataflowref39_moves.j1] at h⟩
  | k + 1 => by
    obtain ⟨ih0, ih1⟩ := dataflowref39_moves.mono_l k
    refine ⟨?_, ?_⟩
    · intro y0 y1 y2 y3 y4 y5
      unfold dataflowref39_moves.l0
      repeat' first
      | (with_reducible exact ih0 _ _ _ _ _ _)
      | (with_reducible exact ih1 _ _ _ _ _ _ _ _ _ _)
      | (with_reducible exact dataflowref07_Ident.mono _ _)
      | (with_reducible exact LeO.refl _)
      | (with_reducible exact LeO.none _)
      | (with_reducible refine LeO.ite ?_ ?_)
      | (with_reducible refine LeO.bind ?_ (fun _ => ?_))
      | exact ih0 _ _ _ _ _ _
      | exact ih1 _ _ _ _ _ _ _ _ _ _
      | exact dataflowref07_Ident.mono _ _
      | exact LeO.none _
      | refine LeO.ite ?_ ?_
      | refine LeO.bind ?_ (fun _ => ?_)
    · intro y0 y1 y2 y3 y4 y5 y6 y7 y8 y9
      unfold dataflowref39_moves.j1
      repeat' first
      | (with_reducible exact ih0 _ _ _ _ _ _)
      | (with_reducible exact ih1 _ _ _ _ _ _ _ _ _ _)
      | (with_reducible exact dataflowref07_Ident.mono _ _)
      | (with_reducible exact LeO.refl _)
      | (with_reducible exact LeO.none _)
      | (with_reducible refine LeO.ite ?_ ?_)
      | (with_reducible refine LeO.bind ?_ (fun _ => ?_))
      | exact ih0 _ _ _ _ _ _
      | exact ih1 _ _ _ _ _ _ _ _ _ _
      | exact dataflowref07_Ident.mono _ _
      | exact LeO.none _
      | refine LeO.ite ?_ ?_
      | refine LeO.bind ?_ (fun _ => ?_)
theorem dataflowref39_moves.mono : ∀ a0 a1 a2 a3 a4 k, LeO (dataflowref39_moves.f k a0 a1 a2 a3 a4) (dataflowref39_moves.f (k + 1) a0 a1 a2 a3 a4) := by
  intro a0 a1 a2 a3 a4 k
  obtain ⟨ih0, ih1⟩ := dataflowref39_moves.mono_l k
  unfold dataflowref39_moves.f
  repeat' first
      | (with_reducible exact ih0 _ _ _ _ _ _)
      | (with_reducible exact ih1 _ _ _ _ _ _ _ _ _ _)
      | (with_reducible exact dataflowref07_Ident.mono _ _)
      | (with_reducible exact LeO.refl _)
      | (with_reducible exact LeO.none _)
      | (with_reducible refine LeO.ite ?_ ?_)
      | (with_reducible refine LeO.bind ?_ (fun _ => ?_))
      | exact ih0 _ _ _ _ _ _
      | exact ih1 _ _ _ _ _ _ _ _ _ _
      | exact dataflowref07_Ident.mono _ _
      | exact LeO.none _
      | refine LeO.ite ?_ ?_
      | refine LeO.bind ?_ (fun _ => ?_)
set_option maxHeartbeats 8000000 in
set_option maxRecDepth 100000 in
theorem dataflowref39_moves.calls (k : Nat) (a0_0 : ByteArray) (A0_1 : Option Addr) (c0_1 : Nat) (l0_1 : List ByteArray) (a0_2 : Int) (a0_3 : Int) (A0_4 : Option Addr) (c0_4 : Nat) (l0_4 : List (S64)) (r : Int) (w : World) (hr0_1 : Kd.C Kd.string w A0_1 l0_1.length l0_1) (hc0_1 : l0_1.length ≤ c0_1) (hr0_4 : Kd.C k64 w A0_4 l0_4.length l0_4) (hc0_4 : l0_4.length ≤ c0_4) (h : dataflowref39_moves.f k a0_0 l0_1 a0_2 a0_3 l0_4 = some r) :
    Calls Tryd.prog 58 #[.agg #[.string a0_0, .slice A0_1 l0_1.length c0_1, .int .i64 a0_2, .int .i64 a0_3, .slice A0_4 l0_4.length c0_4]] w fun e w' => e = .returned (.int .i64 r) ∧ Below w.heap.size w w' := by
  have hu35 := Tryd.underlying35
  have hu64 := Tryd.underlying64
  have HR0_1 := Aside0.mk hr0_1
  have HC0_1 := Aside0.mk hc0_1
  clear hr0_1 hc0_1
  have HR0_4 := Aside0.mk hr0_4
  have HC0_4 := Aside0.mk hc0_4
  clear hr0_4 hc0_4
  have HB := Aside0.mk (Below.refl w.heap.size w)
  have H : (dataflowref39_moves.l0 k 0 a0_0 l0_1 a0_2 a0_3 l0_4) = some r := h
  clear h
  have H' := Aside0.mk H
  clear H
  go_enter Tryd.func58, Tryd.ntmps58
  go_wp2_with (first | ((with_reducible refine gate_dst (N := 1) rfl ?_); (try (refine gate_guard (by rfl) ?_; dsimp only)); refine box_event ?hg (N := 1) ?hd (cs := #[.string a0_0, .slice A0_1 l0_1.length c0_1, .int .i64 a0_2, .int .i64 a0_3, .slice A0_4 l0_4.length c0_4]) (t := 35) ?hr ?_; (case hd => rfl); (case hg => rfl); (case hr => first | (go_simp; done) | (go_simp; rfl)); intro gb59001 hg w2 hbox hb; have n0_ := Aside0.mk (below_step (by repeat (first | (with_reducible first | exact HB.out | apply below_alloc | apply pw_below_drewN | apply below_drew1) | exact HB.out)) hb); have n1_ := Aside0.mk (hbox); have n2_ := Aside0.mk ((by rw [hg]; exact (below_size (by repeat (first | (with_reducible first | exact HB.out | apply below_alloc | apply pw_below_drewN | apply below_drew1) | exact HB.out))) : w.heap.size ≤ gb59001)); have n3_ := Aside0.mk ((by rw [hg]; exact (below_size (by repeat (first | (with_reducible first | exact HB.out | apply below_alloc | apply pw_below_drewN | apply below_drew1) | exact HB.out))) : w.heap.size ≤ gb59001)); clear HB; have HB := n0_; have BK59001 := n1_; have GW59001 := n2_; have GE59001 := n3_; clear n0_ n1_ n2_ n3_; clear hb hbox hg))
  go_loopg [3] k (fun kq v3 w' => ∃ (x3_1 : Int), v3 = .int .i64 x3_1 ∧ Aside0 (dataflowref39_moves.l0 kq x3_1 a0_0 l0_1 a0_2 a0_3 l0_4 = some r) ∧ Aside0 (kq ≤ k) ∧ Aside0 (w'.heap[gb59001]? = some (.cells #[.string a0_0, (.slice A0_1 l0_1.length c0_1), .int .i64 a0_2, .int .i64 a0_3, (.slice A0_4 l0_4.length c0_4)] 35 (0, 0))) ∧ Aside0 (Below w.heap.size w w'))
  case atStart => exact ⟨(0), (by first | rfl | (simp; done) | (simp [*]; done)), H', ⟨Nat.le_refl _⟩, ⟨by (with_reducible repeat (first | refine blk_drewN ?_ _ | refine blk_drew ?_ | refine blk_alloc ?_ _)); exact BK59001.out⟩, ⟨by repeat (first | (with_reducible first | exact HB.out | apply below_alloc | apply pw_below_drewN | apply below_drew1 | refine below_set ?_ GE59001.out) | exact HB.out)⟩⟩
  case round =>
    clear H'
    try clear p2
    obtain ⟨x3_1, rfl, HA, HK1, BK59001, HB⟩ := hrel
    cases gk with
    | zero => exact absurd HA.out (by simp [dataflowref39_moves.l0])
    | succ k1 =>
      have H := HA.out
      clear HA
      simp only [dataflowref39_moves.l0] at H
      by_cases c3 : x3_1 < (l0_4.length : Int)
      · rw [if_pos c3] at H
        have c3b0 : decide (x3_1 < (l0_4.length : Int)) = true := decide_eq_true c3
        clear c3
        by_cases c4 : 0 ≤ x3_1
        · rw [if_pos c4] at H
          have c4b0 : decide (0 ≤ x3_1) = true := decide_eq_true c4
          clear c4
          have HC5 := Aside0.mk H
          clear H
          have hcz6_0 : wr.cell? ⟨gb59001, 0, none⟩ = some (.string a0_0) := (blk_cell BK59001.out 0).trans rfl
          have hcz6_1 : wr.cell? ⟨gb59001, 1, none⟩ = some (.slice A0_1 l0_1.length c0_1) := (blk_cell BK59001.out 1).trans rfl
          have hcz6_2 : wr.cell? ⟨gb59001, 2, none⟩ = some (.int .i64 a0_2) := (blk_cell BK59001.out 2).trans rfl
          have hcz6_3 : wr.cell? ⟨gb59001, 3, none⟩ = some (.int .i64 a0_3) := (blk_cell BK59001.out 3).trans rfl
          have hcz6_4 : wr.cell? ⟨gb59001, 4, none⟩ = some (.slice A0_4 l0_4.length c0_4) := (blk_cell BK59001.out 4).trans rfl
          have hfz6_0 := blk_frozen BK59001.out 0
          have hfz6_1 := blk_frozen BK59001.out 1
          have hfz6_2 := blk_frozen BK59001.out 2
          have hfz6_3 := blk_frozen BK59001.out 3
          have hfz6_4 := blk_frozen BK59001.out 4
          have p59002 : 0 ≤ (x3_1 : Int) := of_decide_eq_true (by first | (with_reducible assumption) | assumption)
          have q59002 : x3_1 < (l0_4.length : Int) := of_decide_eq_true (by first | (with_reducible assumption) | assumption)
          obtain ⟨ad59002, e59002, hx59002_0, hx59002_1, hx59002_2⟩ := at_T64 HR0_4.out x3_1 p59002 q59002
          cases e59002
          replace hx59002_0 := (HB.out.cell (World.block_lt_of_cell? w _ hx59002_0)).trans hx59002_0
          replace hx59002_1 := (HB.out.cell (World.block_lt_of_cell? w _ hx59002_1)).trans hx59002_1
          replace hx59002_2 := (HB.out.cell (World.block_lt_of_cell? w _ hx59002_2)).trans hx59002_2
          replace p59002 := eq_true p59002
          replace q59002 := eq_true q59002
          go_upto_region 5 with (first | ((with_reducible refine gate_dst (N := 4) rfl ?_); (try (refine gate_guard (by rfl) ?_; dsimp only)); refine box_event ?hg (N := 4) ?hd (cs := #[.int .i64 0, .string (⟨#[]⟩ : ByteArray), .int .i64 0]) (t := 64) ?hr ?_; (case hd => rfl); (case hg => rfl); (case hr => first | (go_simp; done) | (go_simp; rfl)); intro gb59003 hg w7 hbox hb; have n0_ := Aside0.mk (blk_below (g := gb59001) (o := .cells #[.string a0_0, .slice A0_1 l0_1.length c0_1, .int .i64 a0_2, .int .i64 a0_3, .slice (some ad59002) l0_4.length c0_4] 35 (0, 0)) (by (with_reducible repeat (first | refine blk_drewN ?_ _ | refine blk_drew ?_ | refine blk_alloc ?_ _)); exact BK59001.out) hb); have n1_ := Aside0.mk (below_step (by repeat (first | (with_reducible first | exact HB.out | apply below_alloc | apply pw_below_drewN | apply below_drew1 | refine below_set ?_ GE59001.out) | exact HB.out)) hb); have n2_ := Aside0.mk (hbox); have n3_ := Aside0.mk ((by rw [hg]; exact (below_size (by repeat (first | (with_reducible first | exact HB.out | apply below_alloc | apply pw_below_drewN | apply below_drew1 | refine below_set ?_ GE59001.out) | exact HB.out))) : w.heap.size ≤ gb59003)); have n4_ := Aside0.mk ((by rw [hg]; exact (below_size (by repeat (first | (with_reducible first | exact HB.out | apply below_alloc | apply pw_below_drewN | apply below_drew1 | refine below_set ?_ GE59001.out) | exact HB.out))) : w.heap.size ≤ gb59003)); have n5_ := Aside0.mk ((by rw [hg]; exact Nat.ne_of_lt (blk_lt (g := gb59001) (o := .cells #[.string a0_0, .slice A0_1 l0_1.length c0_1, .int .i64 a0_2, .int .i64 a0_3, .slice (some ad59002) l0_4.length c0_4] 35 (0, 0)) (by (with_reducible repeat (first | refine blk_drewN ?_ _ | refine blk_drew ?_ | refine blk_alloc ?_ _)); exact BK59001.out)) : gb59001 ≠ gb59003)); have n6_ := Aside0.mk ((by rw [hg]; exact Nat.ne_of_gt (blk_lt (g := gb59001) (o := .cells #[.string a0_0, .slice A0_1 l0_1.length c0_1, .int .i64 a0_2, .int .i64 a0_3, .slice (some ad59002) l0_4.length c0_4] 35 (0, 0)) (by (with_reducible repeat (first | refine blk_drewN ?_ _ | refine blk_drew ?_ | refine blk_alloc ?_ _)); exact BK59001.out)) : gb59003 ≠ gb59001)); clear BK59001; clear HB; have BK59001 := n0_; have HB := n1_; have BK59003 := n2_; have GW59003 := n3_; have GE59003 := n4_; have NB59001_59003 := n5_; have NB59003_59001 := n6_; clear n0_ n1_ n2_ n3_ n4_ n5_ n6_; clear hb hbox hg; have hnb8 := NB59003_59001.out; have hnc8 := NB59001_59003.out; have hcz9_0 : w7.cell? ⟨gb59003, 0, none⟩ = some (.int .i64 0) := (blk_cell BK59003.out 0).trans rfl; have hcz9_1 : w7.cell? ⟨gb59003, 1, none⟩ = some (.string (⟨#[]⟩ : ByteArray)) := (blk_cell BK59003.out 1).trans rfl; have hcz9_2 : w7.cell? ⟨gb59003, 2, none⟩ = some (.int .i64 0) := (blk_cell BK59003.out 2).trans rfl; have hfz9_0 := blk_frozen BK59003.out 0; have hfz9_1 := blk_frozen BK59003.out 1; have hfz9_2 := blk_frozen BK59003.out 2))
          (try simp only [Act.put, List.setIfInBounds_toArray, List.set_cons_zero, List.set_cons_succ])
          go_cut [18] (fun v18 wc => ∃ (kq : Nat) (x18_4 : Bool), v18 = .bool x18_4 ∧ Aside0 (dataflowref39_moves.j1 kq x3_1 x18_4 a0_0 l0_1 a0_2 a0_3 l0_4 ((rd_T64 l0_4 x3_1).f0) ((rd_T64 l0_4 x3_1).f1) ((rd_T64 l0_4 x3_1).f2) = some r) ∧ Aside0 (kq ≤ k1) ∧ Aside0 (wc.heap[gb59001]? = some (.cells #[.string a0_0, (.slice A0_1 l0_1.length c0_1), .int .i64 a0_2, .int .i64 a0_3, (.slice (some ad59002) l0_4.length c0_4)] 35 (0, 0))) ∧ Aside0 (wc.heap[gb59003]? = some (.cells #[.int .i64 ((rd_T64 l0_4 x3_1).f0), .string ((rd_T64 l0_4 x3_1).f1), .int .i64 ((rd_T64 l0_4 x3_1).f2)] 64 (0, 0))) ∧ Aside0 (Below w.heap.size w wc))
          case first =>
            have H := HC5.out
            clear HC5
            by_cases c10 : ((rd_T64 l0_4 x3_1).f0) < 0
            · rw [if_pos c10] at H
              have c10b0 : decide (((rd_T64 l0_4 x3_1).f0) < 0) = true := decide_eq_true c10
              clear c10
              (first | rw [c10b0] | (simp only [i64_w, i32_w]; rw [c10b0]) | skip)
              have H' := Aside0.mk H
              clear H
              have hnb11 := NB59003_59001.out
              have hnc11 := NB59001_59003.out
              have hcz12_0 : w7.cell? ⟨gb59003, 0, none⟩ = some (.int .i64 0) := (blk_cell BK59003.out 0).trans rfl
              have hcz12_1 : w7.cell? ⟨gb59003, 1, none⟩ = some (.string (⟨#[]⟩ : ByteArray)) := (blk_cell BK59003.out 1).trans rfl
              have hcz12_2 : w7.cell? ⟨gb59003, 2, none⟩ = some (.int .i64 0) := (blk_cell BK59003.out 2).trans rfl
              have hfz12_0 := blk_frozen BK59003.out 0
              have hfz12_1 := blk_frozen BK59003.out 1
              have hfz12_2 := blk_frozen BK59003.out 2
              go_wp2
              go_meet
              case rel => exact ⟨_, (true), (by first | rfl | (simp; done) | (simp [*]; done)), H', ⟨by have := HK1.out; first | omega | exact Nat.le_refl _⟩, ⟨by (with_reducible repeat (first | refine blk_drewN ?_ _ | refine blk_drew ?_ | refine blk_alloc ?_ _)); refine blk_far ?_ NB59001_59003.out _; (with_reducible repeat (first | refine blk_drewN ?_ _ | refine blk_drew ?_ | refine blk_alloc ?_ _)); refine blk_far ?_ NB59001_59003.out _; (with_reducible repeat (first | refine blk_drewN ?_ _ | refine blk_drew ?_ | refine blk_alloc ?_ _)); refine blk_far ?_ NB59001_59003.out _; (with_reducible repeat (first | refine blk_drewN ?_ _ | refine blk_drew ?_ | refine blk_alloc ?_ _)); exact BK59001.out⟩, ⟨by (with_reducible repeat (first | refine blk_drewN ?_ _ | refine blk_drew ?_ | refine blk_alloc ?_ _)); refine blk_put (cs := #[.int .i64 ((rd_T64 l0_4 x3_1).f0), .string ((rd_T64 l0_4 x3_1).f1), .int .i64 0]) ?_ 2 _ rfl; (with_reducible repeat (first | refine blk_drewN ?_ _ | refine blk_drew ?_ | refine blk_alloc ?_ _)); refine blk_put (cs := #[.int .i64 ((rd_T64 l0_4 x3_1).f0), .string (⟨#[]⟩ : ByteArray), .int .i64 0]) ?_ 1 _ rfl; (with_reducible repeat (first | refine blk_drewN ?_ _ | refine blk_drew ?_ | refine blk_alloc ?_ _)); refine blk_put (cs := #[.int .i64 0, .string (⟨#[]⟩ : ByteArray), .int .i64 0]) ?_ 0 _ rfl; (with_reducible repeat (first | refine blk_drewN ?_ _ | refine blk_drew ?_ | refine blk_alloc ?_ _)); exact BK59003.out⟩, ⟨by repeat (first | (with_reducible first | exact HB.out | apply below_alloc | apply pw_below_drewN | apply below_drew1 | refine below_set ?_ GE59001.out | refine below_set ?_ GE59003.out) | exact HB.out)⟩⟩
            · rw [if_neg c10] at H
              have c10b0 : decide (((rd_T64 l0_4 x3_1).f0) < 0) = false := decide_eq_false c10
              clear c10
              (first | rw [c10b0] | (simp only [i64_w, i32_w]; rw [c10b0]) | skip)
              by_cases c13 : ((rd_T64 l0_4 x3_1).f0) ≥ (l0_1.length : Int)
              · rw [if_pos c13] at H
                have c13b0 : decide ((l0_1.length : Int) ≤ ((rd_T64 l0_4 x3_1).f0)) = true := decide_eq_true c13
                clear c13
                have H' := Aside0.mk H
                clear H
                have hnb14 := NB59003_59001.out
                have hnc14 := NB59001_59003.out
                have hcz15_0 : w7.cell? ⟨gb59003, 0, none⟩ = some (.int .i64 0) := (blk_cell BK59003.out 0).trans rfl
                have hcz15_1 : w7.cell? ⟨gb59003, 1, none⟩ = some (.string (⟨#[]⟩ : ByteArray)) := (blk_cell BK59003.out 1).trans rfl
                have hcz15_2 : w7.cell? ⟨gb59003, 2, none⟩ = some (.int .i64 0) := (blk_cell BK59003.out 2).trans rfl
                have hfz15_0 := blk_frozen BK59003.out 0
                have hfz15_1 := blk_frozen BK59003.out 1
                have hfz15_2 := blk_frozen BK59003.out 2
                have hcz16_0 : w7.cell? ⟨gb59001, 0, none⟩ = some (.string a0_0) := (blk_cell BK59001.out 0).trans rfl
                have hcz16_1 : w7.cell? ⟨gb59001, 1, none⟩ = some (.slice A0_1 l0_1.length c0_1) := (blk_cell BK59001.out 1).trans rfl
                have hcz16_2 : w7.cell? ⟨gb59001, 2, none⟩ = some (.int .i64 a0_2) := (blk_cell BK59001.out 2).trans rfl
                have hcz16_3 : w7.cell? ⟨gb59001, 3, none⟩ = some (.int .i64 a0_3) := (blk_cell BK59001.out 3).trans rfl
                have hcz16_4 : w7.cell? ⟨gb59001, 4, none⟩ = some (.slice (some ad59002) l0_4.length c0_4) := (blk_cell BK59001.out 4).trans rfl
                have hfz16_0 := blk_frozen BK59001.out 0
                have hfz16_1 := blk_frozen BK59001.out 1
                have hfz16_2 := blk_frozen BK59001.out 2
                have hfz16_3 := blk_frozen BK59001.out 3
                have hfz16_4 := blk_frozen BK59001.out 4
                go_wp2
                go_meet
                case rel => exact ⟨_, (true), (by first | rfl | (simp; done) | (simp [*]; done)), H', ⟨by have := HK1.out; first | omega | exact Nat.le_refl _⟩, ⟨by (with_reducible repeat (first | refine blk_drewN ?_ _ | refine blk_drew ?_ | refine blk_alloc ?_ _)); refine blk_far ?_ NB59001_59003.out _; (with_reducible repeat (first | refine blk_drewN ?_ _ | refine blk_drew ?_ | refine blk_alloc ?_ _)); refine blk_far ?_ NB59001_59003.out _; (with_reducible repeat (first | refine blk_drewN ?_ _ | refine blk_drew ?_ | refine blk_alloc ?_ _)); refine blk_far ?_ NB59001_59003.out _; (with_reducible repeat (first | refine blk_drewN ?_ _ | refine blk_drew ?_ | refine blk_alloc ?_ _)); exact BK59001.out⟩, ⟨by (with_reducible repeat (first | refine blk_drewN ?_ _ | refine blk_drew ?_ | refine blk_alloc ?_ _)); refine blk_put (cs := #[.int .i64 ((rd_T64 l0_4 x3_1).f0), .string ((rd_T64 l0_4 x3_1).f1), .int .i64 0]) ?_ 2 _ rfl; (with_reducible repeat (first | refine blk_drewN ?_ _ | refine blk_drew ?_ | refine blk_alloc ?_ _)); refine blk_put (cs := #[.int .i64 ((rd_T64 l0_4 x3_1).f0), .string (⟨#[]⟩ : ByteArray), .int .i64 0]) ?_ 1 _ rfl; (with_reducible repeat (first | refine blk_drewN ?_ _ | refine blk_drew ?_ | refine blk_alloc ?_ _)); refine blk_put (cs := #[.int .i64 0, .string (⟨#[]⟩ : ByteArray), .int .i64 0]) ?_ 0 _ rfl; (with_reducible repeat (first | refine blk_drewN ?_ _ | refine blk_drew ?_ | refine blk_alloc ?_ _)); exact BK59003.out⟩, ⟨by repeat (first | (with_reducible first | exact HB.out | apply below_alloc | apply pw_below_drewN | apply below_drew1 | refine below_set ?_ GE59001.out | refine below_set ?_ GE59003.out) | exact HB.out)⟩⟩
              · rw [if_neg c13] at H
                have c13b0 : decide ((l0_1.length : Int) ≤ ((rd_T64 l0_4 x3_1).f0)) = false := decide_eq_false c13
                clear c13
                by_cases c17 : ((rd_T64 l0_4 x3_1).f2) < 0
                · rw [if_pos c17] at H
                  have c17b0 : decide (((rd_T64 l0_4 x3_1).f2) < 0) = true := decide_eq_true c17
                  clear c17
                  have H' := Aside0.mk H
                  clear H
                  have hnb18 := NB59003_59001.out
                  have hnc18 := NB59001_59003.out
                  have hcz19_0 : w7.cell? ⟨gb59003, 0, none⟩ = some (.int .i64 0) := (blk_cell BK59003.out 0).trans rfl
                  have hcz19_1 : w7.cell? ⟨gb59003, 1, none⟩ = some (.string (⟨#[]⟩ : ByteArray)) := (blk_cell BK59003.out 1).trans rfl
                  have hcz19_2 : w7.cell? ⟨gb59003, 2, none⟩ = some (.int .i64 0) := (blk_cell BK59003.out 2).trans rfl
                  have hfz19_0 := blk_frozen BK59003.out 0
                  have hfz19_1 := blk_frozen BK59003.out 1
                  have hfz19_2 := blk_frozen BK59003.out 2
                  have hcz20_0 : w7.cell? ⟨gb59001, 0, none⟩ = some (.string a0_0) := (blk_cell BK59001.out 0).trans rfl
                  have hcz20_1 : w7.cell? ⟨gb59001, 1, none⟩ = some (.slice A0_1 l0_1.length c0_1) := (blk_cell BK59001.out 1).trans rfl
                  have hcz20_2 : w7.cell? ⟨gb59001, 2, none⟩ = some (.int .i64 a0_2) := (blk_cell BK59001.out 2).trans rfl
                  have hcz20_3 : w7.cell? ⟨gb59001, 3, none⟩ = some (.int .i64 a0_3) := (blk_cell BK59001.out 3).trans rfl
                  have hcz20_4 : w7.cell? ⟨gb59001, 4, none⟩ = some (.slice (some ad59002) l0_4.length c0_4) := (blk_cell BK59001.out 4).trans rfl
                  have hfz20_0 := blk_frozen BK59001.out 0
                  have hfz20_1 := blk_frozen BK59001.out 1
                  have hfz20_2 := blk_frozen BK59001.out 2
                  have hfz20_3 := blk_frozen BK59001.out 3
                  have hfz20_4 := blk_frozen BK59001.out 4
                  go_wp2
                  go_meet
                  case rel => exact ⟨_, (true), (by first | rfl | (simp; done) | (simp [*]; done)), H', ⟨by have := HK1.out; first | omega | exact Nat.le_refl _⟩, ⟨by (with_reducible repeat (first | refine blk_drewN ?_ _ | refine blk_drew ?_ | refine blk_alloc ?_ _)); refine blk_far ?_ NB59001_59003.out _; (with_reducible repeat (first | refine blk_drewN ?_ _ | refine blk_drew ?_ | refine blk_alloc ?_ _)); refine blk_far ?_ NB59001_59003.out _; (with_reducible repeat (first | refine blk_drewN ?_ _ | refine blk_drew ?_ | refine blk_alloc ?_ _)); refine blk_far ?_ NB59001_59003.out _; (with_reducible repeat (first | refine blk_drewN ?_ _ | refine blk_drew ?_ | refine blk_alloc ?_ _)); exact BK59001.out⟩, ⟨by (with_reducible repeat (first | refine blk_drewN ?_ _ | refine blk_drew ?_ | refine blk_alloc ?_ _)); refine blk_put (cs := #[.int .i64 ((rd_T64 l0_4 x3_1).f0), .string ((rd_T64 l0_4 x3_1).f1), .int .i64 0]) ?_ 2 _ rfl; (with_reducible repeat (first | refine blk_drewN ?_ _ | refine blk_drew ?_ | refine blk_alloc ?_ _)); refine blk_put (cs := #[.int .i64 ((rd_T64 l0_4 x3_1).f0), .string (⟨#[]⟩ : ByteArray), .int .i64 0]) ?_ 1 _ rfl; (with_reducible repeat (first | refine blk_drewN ?_ _ | refine blk_drew ?_ | refine blk_alloc ?_ _)); refine blk_put (cs := #[.int .i64 0, .string (⟨#[]⟩ : ByteArray), .int .i64 0]) ?_ 0 _ rfl; (with_reducible repeat (first | refine blk_drewN ?_ _ | refine blk_drew ?_ | refine blk_alloc ?_ _)); exact BK59003.out⟩, ⟨by repeat (first | (with_reducible first | exact HB.out | apply below_alloc | apply pw_below_drewN | apply below_drew1 | refine below_set ?_ GE59001.out | refine below_set ?_ GE59003.out) | exact HB.out)⟩⟩
                · rw [if_neg c17] at H
                  have c17b0 : decide (((rd_T64 l0_4 x3_1).f2) < 0) = false := decide_eq_false c17
                  clear c17
                  have H' := Aside0.mk H
                  clear H
                  have hnb21 := NB59003_59001.out
                  have hnc21 := NB59001_59003.out
                  have hcz22_0 : w7.cell? ⟨gb59003, 0, none⟩ = some (.int .i64 0) := (blk_cell BK59003.out 0).trans rfl
                  have hcz22_1 : w7.cell? ⟨gb59003, 1, none⟩ = some (.string (⟨#[]⟩ : ByteArray)) := (blk_cell BK59003.out 1).trans rfl
                  have hcz22_2 : w7.cell? ⟨gb59003, 2, none⟩ = some (.int .i64 0) := (blk_cell BK59003.out 2).trans rfl
                  have hfz22_0 := blk_frozen BK59003.out 0
                  have hfz22_1 := blk_frozen BK59003.out 1
                  have hfz22_2 := blk_frozen BK59003.out 2
                  have hcz23_0 : w7.cell? ⟨gb59001, 0, none⟩ = some (.string a0_0) := (blk_cell BK59001.out 0).trans rfl
                  have hcz23_1 : w7.cell? ⟨gb59001, 1, none⟩ = some (.slice A0_1 l0_1.length c0_1) := (blk_cell BK59001.out 1).trans rfl
                  have hcz23_2 : w7.cell? ⟨gb59001, 2, none⟩ = some (.int .i64 a0_2) := (blk_cell BK59001.out 2).trans rfl
                  have hcz23_3 : w7.cell? ⟨gb59001, 3, none⟩ = some (.int .i64 a0_3) := (blk_cell BK59001.out 3).trans rfl
                  have hcz23_4 : w7.cell? ⟨gb59001, 4, none⟩ = some (.slice (some ad59002) l0_4.length c0_4) := (blk_cell BK59001.out 4).trans rfl
                  have hfz23_0 := blk_frozen BK59001.out 0
                  have hfz23_1 := blk_frozen BK59001.out 1
                  have hfz23_2 := blk_frozen BK59001.out 2
                  have hfz23_3 := blk_frozen BK59001.out 3
                  have hfz23_4 := blk_frozen BK59001.out 4
                  go_wp2
                  go_meet
                  case rel => exact ⟨_, (decide (((rd_T64 l0_4 x3_1).f2) ≥ (l0_1.length : Int))), (by first | rfl | (simp; done) | (simp [*]; done)), H', ⟨by have := HK1.out; first | omega | exact Nat.le_refl _⟩, ⟨by (with_reducible repeat (first | refine blk_drewN ?_ _ | refine blk_drew ?_ | refine blk_alloc ?_ _)); refine blk_far ?_ NB59001_59003.out _; (with_reducible repeat (first | refine blk_drewN ?_ _ | refine blk_drew ?_ | refine blk_alloc ?_ _)); refine blk_far ?_ NB59001_59003.out _; (with_reducible repeat (first | refine blk_drewN ?_ _ | refine blk_drew ?_ | refine blk_alloc ?_ _)); refine blk_far ?_ NB59001_59003.out _; (with_reducible repeat (first | refine blk_drewN ?_ _ | refine blk_drew ?_ | refine blk_alloc ?_ _)); exact BK59001.out⟩, ⟨by (with_reducible repeat (first | refine blk_drewN ?_ _ | refine blk_drew ?_ | refine blk_alloc ?_ _)); refine blk_put (cs := #[.int .i64 ((rd_T64 l0_4 x3_1).f0), .string ((rd_T64 l0_4 x3_1).f1), .int .i64 0]) ?_ 2 _ rfl; (with_reducible repeat (first | refine blk_drewN ?_ _ | refine blk_drew ?_ | refine blk_alloc ?_ _)); refine blk_put (cs := #[.int .i64 ((rd_T64 l0_4 x3_1).f0), .string (⟨#[]⟩ : ByteArray), .int .i64 0]) ?_ 1 _ rfl; (with_reducible repeat (first | refine blk_drewN ?_ _ | refine blk_drew ?_ | refine blk_alloc ?_ _)); refine blk_put (cs := #[.int .i64 0, .string (⟨#[]⟩ : ByteArray), .int .i64 0]) ?_ 0 _ rfl; (with_reducible repeat (first | refine blk_drewN ?_ _ | refine blk_drew ?_ | refine blk_alloc ?_ _)); exact BK59003.out⟩, ⟨by repeat (first | (with_reducible first | exact HB.out | apply below_alloc | apply pw_below_drewN | apply below_drew1 | refine below_set ?_ GE59001.out | refine below_set ?_ GE59003.out) | exact HB.out)⟩⟩
          case rest =>
            clear HC5
            try clear c1
            try clear c2
            try clear p2
            try clear c3
            try clear c3b0
            try clear c4
            try clear c4b0
            try clear c5
            try clear p5
            try clear q5
            try clear hx5
            try clear c8
            try clear c10
            try clear c10b0
            try clear c11
            try clear c13
            try clear c13b0
            try clear c14
            try clear c17
            try clear c17b0
            try clear c18
            try clear c21
            try clear hcz12_0
            try clear hcz12_1
            try clear hcz12_2
            try clear hcz15_0
            try clear hcz15_1
            try clear hcz15_2
            try clear hcz16_0
            try clear hcz16_1
            try clear hcz16_2
            try clear hcz16_3
            try clear hcz16_4
            try clear hcz19_0
            try clear hcz19_1
            try clear hcz19_2
            try clear hcz20_0
            try clear hcz20_1
            try clear hcz20_2
            try clear hcz20_3
            try clear hcz20_4
            try clear hcz22_0
            try clear hcz22_1
            try clear hcz22_2
            try clear hcz23_0
            try clear hcz23_1
            try clear hcz23_2
            try clear hcz23_3
            try clear hcz23_4
            try clear hcz6_0
            try clear hcz6_1
            try clear hcz6_2
            try clear hcz6_3
            try clear hcz6_4
            try clear hcz9_0
            try clear hcz9_1
            try clear hcz9_2
            try clear hfz12_0
            try clear hfz12_1
            try clear hfz12_2
            try clear hfz15_0
            try clear hfz15_1
            try clear hfz15_2
            try clear hfz16_0
            try clear hfz16_1
            try clear hfz16_2
            try clear hfz16_3
            try clear hfz16_4
            try clear hfz19_0
            try clear hfz19_1
            try clear hfz19_2
            try clear hfz20_0
            try clear hfz20_1
            try clear hfz20_2
            try clear hfz20_3
            try clear hfz20_4
            try clear hfz22_0
            try clear hfz22_1
            try clear hfz22_2
            try clear hfz23_0
            try clear hfz23_1
            try clear hfz23_2
            try clear hfz23_3
            try clear hfz23_4
            try clear hfz6_0
            try clear hfz6_1
            try clear hfz6_2
            try clear hfz6_3
            try clear hfz6_4
            try clear hfz9_0
            try clear hfz9_1
            try clear hfz9_2
            try clear hx59002_0
            try clear hx59002_1
            try clear hx59002_2
            try clear p2
            try clear p59002
            try clear q59002
            obtain ⟨kq, x18_4, rfl, HA, HJ4, BK59001, BK59003, HB⟩ := hcut
            cases kq with
            | zero => exact absurd HA.out (by simp [dataflowref39_moves.j1])
            | succ kj4 =>
              have H := HA.out
              clear HA
              simp only [dataflowref39_moves.j1] at H
              by_cases c24 : x18_4 = true
              · subst c24
                have H1 : (some 4) = some r := by rw [if_pos rfl] at H; exact H
                clear H
                have H := H1
                clear H1
                obtain rfl := Option.some.inj H
                go_wp2
                go_ret
                exact ⟨by first | rfl | (simp [errW_none, errW_some] <;> rfl) | (simp [*, errW_none, errW_some] <;> rfl), by repeat (first | (with_reducible first | exact HB.out | apply below_alloc | apply pw_below_drewN | apply below_drew1 | refine below_set ?_ GE59001.out | refine below_set ?_ GE59003.out) | exact HB.out)⟩
              · replace c24 := Bool.eq_false_iff.mpr c24
                subst c24
                have H1 : ((dataflowref07_Ident.f kj4 ((rd_T64 l0_4 x3_1).f1)).bind fun t59004 => (if t59004 = true then (if ((rd_T64 l0_4 x3_1).f0) = a0_3 then (some 22) else (if x3_1 > 0 then (if 0 ≤ (wrap64 (x3_1 - 1)) then (if (wrap64 (x3_1 - 1)) < (l0_4.length : Int) then (if ((rd_T64 l0_4 (wrap64 (x3_1 - 1))).f0) > ((rd_T64 l0_4 x3_1).f0) then (some 13) else (if ((rd_T64 l0_4 (wrap64 (x3_1 - 1))).f0) = ((rd_T64 l0_4 x3_1).f0) then (if ((Op.bytesLess (((rd_T64 l0_4 (wrap64 (x3_1 - 1))).f1).toList) ((rd_T64 l0_4 x3_1).f1).toList) = true) then (dataflowref39_moves.l0 kj4 (wrap64 (x3_1 + 1)) a0_0 l0_1 a0_2 a0_3 l0_4) else (some 13)) else (dataflowref39_moves.l0 kj4 (wrap64 (x3_1 + 1)) a0_0 l0_1 a0_2 a0_3 l0_4))) else (none)) else (none)) else (dataflowref39_moves.l0 kj4 (wrap64 (x3_1 + 1)) a0_0 l0_1 a0_2 a0_3 l0_4))) else (some 5))) = some r := by rw [if_neg (show ¬ (false = true) by decide)] at H; exact H
                clear H
                have H := H1
                clear H1
                replace H := Option.bind_eq_some_iff.mp H
                obtain ⟨t59004, A250, H⟩ := H
                replace H : (if t59004 = true then (if ((rd_T64 l0_4 x3_1).f0) = a0_3 then (some 22) else (if x3_1 > 0 then (if 0 ≤ (wrap64 (x3_1 - 1)) then (if (wrap64 (x3_1 - 1)) < (l0_4.length : Int) then (if ((rd_T64 l0_4 (wrap64 (x3_1 - 1))).f0) > ((rd_T64 l0_4 x3_1).f0) then (some 13) else (if ((rd_T64 l0_4 (wrap64 (x3_1 - 1))).f0) = ((rd_T64 l0_4 x3_1).f0) then (if ((Op.bytesLess (((rd_T64 l0_4 (wrap64 (x3_1 - 1))).f1).toList) ((rd_T64 l0_4 x3_1).f1).toList) = true) then (dataflowref39_moves.l0 kj4 (wrap64 (x3_1 + 1)) a0_0 l0_1 a0_2 a0_3 l0_4) else (some 13)) else (dataflowref39_moves.l0 kj4 (wrap64 (x3_1 + 1)) a0_0 l0_1 a0_2 a0_3 l0_4))) else (none)) else (none)) else (dataflowref39_moves.l0 kj4 (wrap64 (x3_1 + 1)) a0_0 l0_1 a0_2 a0_3 l0_4))) else (some 5)) = some r := H
                have A25 := Aside0.mk A250
                clear A250
                by_cases c26 : t59004 = true
                · subst c26
                  have H1 : (if ((rd_T64 l0_4 x3_1).f0) = a0_3 then (some 22) else (if x3_1 > 0 then (if 0 ≤ (wrap64 (x3_1 - 1)) then (if (wrap64 (x3_1 - 1)) < (l0_4.length : Int) then (if ((rd_T64 l0_4 (wrap64 (x3_1 - 1))).f0) > ((rd_T64 l0_4 x3_1).f0) then (some 13) else (if ((rd_T64 l0_4 (wrap64 (x3_1 - 1))).f0) = ((rd_T64 l0_4 x3_1).f0) then (if ((Op.bytesLess (((rd_T64 l0_4 (wrap64 (x3_1 - 1))).f1).toList) ((rd_T64 l0_4 x3_1).f1).toList) = true) then (dataflowref39_moves.l0 kj4 (wrap64 (x3_1 + 1)) a0_0 l0_1 a0_2 a0_3 l0_4) else (some 13)) else (dataflowref39_moves.l0 kj4 (wrap64 (x3_1 + 1)) a0_0 l0_1 a0_2 a0_3 l0_4))) else (none)) else (none)) else (dataflowref39_moves.l0 kj4 (wrap64 (x3_1 + 1)) a0_0 l0_1 a0_2 a0_3 l0_4))) = some r := by rw [if_pos rfl] at H; exact H
                  clear H
                  have H := H1
                  clear H1
                  by_cases c27 : ((rd_T64 l0_4 x3_1).f0) = a0_3
                  · rw [if_pos c27] at H
                    have c27b0 : (((rd_T64 l0_4 x3_1).f0) == a0_3) = true := beq_iff_eq.mpr c27
                    have c27b1 : (((rd_T64 l0_4 x3_1).f0) != a0_3) = false := bne_eq_false_iff_eq.mpr c27
                    clear c27
                    obtain rfl := Option.some.inj H
                    have hnb28 := NB59003_59001.out
                    have hnc28 := NB59001_59003.out
                    have hcz29_0 : wc.cell? ⟨gb59003, 0, none⟩ = some (.int .i64 ((rd_T64 l0_4 x3_1).f0)) := (blk_cell BK59003.out 0).trans rfl
                    have hcz29_1 : wc.cell? ⟨gb59003, 1, none⟩ = some (.string ((rd_T64 l0_4 x3_1).f1)) := (blk_cell BK59003.out 1).trans rfl
                    have hcz29_2 : wc.cell? ⟨gb59003, 2, none⟩ = some (.int .i64 ((rd_T64 l0_4 x3_1).f2)) := (blk_cell BK59003.out 2).trans rfl
                    have hfz29_0 := blk_frozen BK59003.out 0
                    have hfz29_1 := blk_frozen BK59003.out 1
                    have hfz29_2 := blk_frozen BK59003.out 2
                    go_wp2_with (first | ((with_reducible refine gate_callee (f := 18) rfl ?_); refine goesL_ (some 46) rfl rfl Tryd.func18 (by kernel_rfl) rfl #[.string ((rd_T64 l0_4 x3_1).f1)] rfl (by (try simp only [List.map_toArray, List.map_cons, List.map_nil]); first | done | rfl | (simp only [List.length_drop, List.length_take]; rfl)) ?_; (with_reducible refine (dataflowref07_Ident.calls kj4 ((rd_T64 l0_4 x3_1).f1) true _ A25.out).mono ?_); rintro e w30 ⟨rfl, hb⟩; refine ⟨_, rfl, ?_⟩; have n0_ := Aside0.mk (blk_below (g := gb59001) (o := .cells #[.string a0_0, .slice A0_1 l0_1.length c0_1, .int .i64 a0_2, .int .i64 a0_3, .slice (some ad59002) l0_4.length c0_4] 35 (0, 0)) (by (with_reducible repeat (first | refine blk_drewN ?_ _ | refine blk_drew ?_ | refine blk_alloc ?_ _)); exact BK59001.out) hb); have n1_ := Aside0.mk (blk_below (g := gb59003) (o := .cells #[.int .i64 ((rd_T64 l0_4 x3_1).f0), .string ((rd_T64 l0_4 x3_1).f1), .int .i64 ((rd_T64 l0_4 x3_1).f2)] 64 (0, 0)) (by (with_reducible repeat (first | refine blk_drewN ?_ _ | refine blk_drew ?_ | refine blk_alloc ?_ _)); exact BK59003.out) hb); have n2_ := Aside0.mk (below_step (by repeat (first | (with_reducible first | exact HB.out | apply below_alloc | apply pw_below_drewN | apply below_drew1 | refine below_set ?_ GE59001.out | refine below_set ?_ GE59003.out) | exact HB.out)) hb); clear BK59001; clear BK59003; clear HB; have BK59001 := n0_; have BK59003 := n1_; have HB := n2_; clear n0_ n1_ n2_; (try clear hb); (try clear hb2); (try clear hk); (try clear hi); have hcz31_0 : w30.cell? ⟨gb59003, 0, none⟩ = some (.int .i64 ((rd_T64 l0_4 x3_1).f0)) := (blk_cell BK59003.out 0).trans rfl; have hcz31_1 : w30.cell? ⟨gb59003, 1, none⟩ = some (.string ((rd_T64 l0_4 x3_1).f1)) := (blk_cell BK59003.out 1).trans rfl; have hcz31_2 : w30.cell? ⟨gb59003, 2, none⟩ = some (.int .i64 ((rd_T64 l0_4 x3_1).f2)) := (blk_cell BK59003.out 2).trans rfl; have hfz31_0 := blk_frozen BK59003.out 0; have hfz31_1 := blk_frozen BK59003.out 1; have hfz31_2 := blk_frozen BK59003.out 2; have hcz32_0 : w30.cell? ⟨gb59001, 0, none⟩ = some (.string a0_0) := (blk_cell BK59001.out 0).trans rfl; have hcz32_1 : w30.cell? ⟨gb59001, 1, none⟩ = some (.slice A0_1 l0_1.length c0_1) := (blk_cell BK59001.out 1).trans rfl; have hcz32_2 : w30.cell? ⟨gb59001, 2, none⟩ = some (.int .i64 a0_2) := (blk_cell BK59001.out 2).trans rfl; have hcz32_3 : w30.cell? ⟨gb59001, 3, none⟩ = some (.int .i64 a0_3) := (blk_cell BK59001.out 3).trans rfl; have hcz32_4 : w30.cell? ⟨gb59001, 4, none⟩ = some (.slice (some ad59002) l0_4.length c0_4) := (blk_cell BK59001.out 4).trans rfl; have hfz32_0 := blk_frozen BK59001.out 0; have hfz32_1 := blk_frozen BK59001.out 1; have hfz32_2 := blk_frozen BK59001.out 2; have hfz32_3 := blk_frozen BK59001.out 3; have hfz32_4 := blk_frozen BK59001.out 4))
                    go_ret
                    exact ⟨by first | rfl | (simp [errW_none, errW_some] <;> rfl) | (simp [*, errW_none, errW_some] <;> rfl), by repeat (first | (with_reducible first | exact HB.out | apply below_alloc | apply pw_below_drewN | apply below_drew1 | refine below_set ?_ GE59001.out | refine below_set ?_ GE59003.out) | exact HB.out)⟩
                  · rw [if_neg c27] at H
                    have c27b0 : (((rd_T64 l0_4 x3_1).f0) == a0_3) = false := beq_eq_false_iff_ne.mpr c27
                    have c27b1 : (((rd_T64 l0_4 x3_1).f0) != a0_3) = true := bne_iff_ne.mpr c27
                    by_cases c33 : x3_1 > 0
                    · rw [if_pos c33] at H
                      have c33b0 : decide (0 < x3_1) = true := decide_eq_true c33
                      clear c33
                      obtain ⟨ji34, hji34⟩ : ∃ j_ : Int, (wrap64 (x3_1 - 1)) = j_ := ⟨_, rfl⟩
                      replace H : (if 0 ≤ (ji34) then (if (ji34) < (l0_4.length : Int) then (if ((rd_T64 l0_4 (ji34)).f0) > ((rd_T64 l0_4 x3_1).f0) then (some 13) else (if ((rd_T64 l0_4 (ji34)).f0) = ((rd_T64 l0_4 x3_1).f0) then (if ((Op.bytesLess (((rd_T64 l0_4 (ji34)).f1).toList) ((rd_T64 l0_4 x3_1).f1).toList) = true) then (dataflowref39_moves.l0 kj4 (wrap64 (x3_1 + 1)) a0_0 l0_1 a0_2 a0_3 l0_4) else (some 13)) else (dataflowref39_moves.l0 kj4 (wrap64 (x3_1 + 1)) a0_0 l0_1 a0_2 a0_3 l0_4))) else (none)) else (none)) = some r := by first | (rw [hji34] at H; exact H) | (simp only [hji34] at H ⊢; exact H)
                      (try rw [hji34] at A25)
                      have hji34w : (IntKind.i64.wrap (x3_1 - 1)) = ji34 := (i64_w _).trans hji34
                      by_cases c35 : 0 ≤ (ji34)
                      · rw [if_pos c35] at H
                        have c35b0 : decide (0 ≤ (ji34)) = true := decide_eq_true c35
                        clear c35
                        by_cases c36 : (ji34) < (l0_4.length : Int)
                        · rw [if_pos c36] at H
                          have c36b0 : decide ((ji34) < (l0_4.length : Int)) = true := decide_eq_true c36
                          clear c36
                          by_cases c37 : ((rd_T64 l0_4 (ji34)).f0) > ((rd_T64 l0_4 x3_1).f0)
                          · rw [if_pos c37] at H
                            have c37b0 : decide (((rd_T64 l0_4 x3_1).f0) < ((rd_T64 l0_4 (ji34)).f0)) = true := decide_eq_true c37
                            clear c37
                            obtain rfl := Option.some.inj H
                            have hnb38 := NB59003_59001.out
                            have hnc38 := NB59001_59003.out
                            have hcz39_0 : wc.cell? ⟨gb59003, 0, none⟩ = some (.int .i64 ((rd_T64 l0_4 x3_1).f0)) := (blk_cell BK59003.out 0).trans rfl
                            have hcz39_1 : wc.cell? ⟨gb59003, 1, none⟩ = some (.string ((rd_T64 l0_4 x3_1).f1)) := (blk_cell BK59003.out 1).trans rfl
                            have hcz39_2 : wc.cell? ⟨gb59003, 2, none⟩ = some (.int .i64 ((rd_T64 l0_4 x3_1).f2)) := (blk_cell BK59003.out 2).trans rfl
                            have hfz39_0 := blk_frozen BK59003.out 0
                            have hfz39_1 := blk_frozen BK59003.out 1
                            have hfz39_2 := blk_frozen BK59003.out 2
                            go_wp2_with (first | ((with_reducible refine gate_callee (f := 18) rfl ?_); refine goesL_ (some 46) rfl rfl Tryd.func18 (by kernel_rfl) rfl #[.string ((rd_T64 l0_4 x3_1).f1)] rfl (by (try simp only [List.map_toArray, List.map_cons, List.map_nil]); first | done | rfl | (simp only [List.length_drop, List.length_take]; rfl)) ?_; (with_reducible refine (dataflowref07_Ident.calls kj4 ((rd_T64 l0_4 x3_1).f1) true _ A25.out).mono ?_); rintro e w40 ⟨rfl, hb⟩; refine ⟨_, rfl, ?_⟩; have n0_ := Aside0.mk (blk_below (g := gb59001) (o := .cells #[.string a0_0, .slice A0_1 l0_1.length c0_1, .int .i64 a0_2, .int .i64 a0_3, .slice (some ad59002) l0_4.length c0_4] 35 (0, 0)) (by (with_reducible repeat (first | refine blk_drewN ?_ _ | refine blk_drew ?_ | refine blk_alloc ?_ _)); exact BK59001.out) hb); have n1_ := Aside0.mk (blk_below (g := gb59003) (o := .cells #[.int .i64 ((rd_T64 l0_4 x3_1).f0), .string ((rd_T64 l0_4 x3_1).f1), .int .i64 ((rd_T64 l0_4 x3_1).f2)] 64 (0, 0)) (by (with_reducible repeat (first | refine blk_drewN ?_ _ | refine blk_drew ?_ | refine blk_alloc ?_ _)); exact BK59003.out) hb); have n2_ := Aside0.mk (below_step (by repeat (first | (with_reducible first | exact HB.out | apply below_alloc | apply pw_below_drewN | apply below_drew1 | refine below_set ?_ GE59001.out | refine below_set ?_ GE59003.out) | exact HB.out)) hb); clear BK59001; clear BK59003; clear HB; have BK59001 := n0_; have BK59003 := n1_; have HB := n2_; clear n0_ n1_ n2_; (try clear hb); (try clear hb2); (try clear hk); (try clear hi); have hcz41_0 : w40.cell? ⟨gb59003, 0, none⟩ = some (.int .i64 ((rd_T64 l0_4 x3_1).f0)) := (blk_cell BK59003.out 0).trans rfl; have hcz41_1 : w40.cell? ⟨gb59003, 1, none⟩ = some (.string ((rd_T64 l0_4 x3_1).f1)) := (blk_cell BK59003.out 1).trans rfl; have hcz41_2 : w40.cell? ⟨gb59003, 2, none⟩ = some (.int .i64 ((rd_T64 l0_4 x3_1).f2)) := (blk_cell BK59003.out 2).trans rfl; have hfz41_0 := blk_frozen BK59003.out 0; have hfz41_1 := blk_frozen BK59003.out 1; have hfz41_2 := blk_frozen BK59003.out 2; have hcz42_0 : w40.cell? ⟨gb59001, 0, none⟩ = some (.string a0_0) := (blk_cell BK59001.out 0).trans rfl; have hcz42_1 : w40.cell? ⟨gb59001, 1, none⟩ = some (.slice A0_1 l0_1.length c0_1) := (blk_cell BK59001.out 1).trans rfl; have hcz42_2 : w40.cell? ⟨gb59001, 2, none⟩ = some (.int .i64 a0_2) := (blk_cell BK59001.out 2).trans rfl; have hcz42_3 : w40.cell? ⟨gb59001, 3, none⟩ = some (.int .i64 a0_3) := (blk_cell BK59001.out 3).trans rfl; have hcz42_4 : w40.cell? ⟨gb59001, 4, none⟩ = some (.slice (some ad59002) l0_4.length c0_4) := (blk_cell BK59001.out 4).trans rfl; have hfz42_0 := blk_frozen BK59001.out 0; have hfz42_1 := blk_frozen BK59001.out 1; have hfz42_2 := blk_frozen BK59001.out 2; have hfz42_3 := blk_frozen BK59001.out 3; have hfz42_4 := blk_frozen BK59001.out 4; have p59005 : 0 ≤ ((ji34) : Int) := of_decide_eq_true (by first | (with_reducible assumption) | assumption); have q59005 : (ji34) < (l0_4.length : Int) := of_decide_eq_true (by first | (with_reducible assumption) | assumption); obtain ⟨ad59005, e59005, hx59005_0, hx59005_1, hx59005_2⟩ := at_T64 HR0_4.out (ji34) p59005 q59005; obtain rfl : ad59002 = ad59005 := (by injection e59005); replace hx59005_0 := (HB.out.cell (World.block_lt_of_cell? w _ hx59005_0)).trans hx59005_0; replace hx59005_1 := (HB.out.cell (World.block_lt_of_cell? w _ hx59005_1)).trans hx59005_1; replace hx59005_2 := (HB.out.cell (World.block_lt_of_cell? w _ hx59005_2)).trans hx59005_2; replace p59005 := eq_true p59005; replace q59005 := eq_true q59005) | ((with_reducible refine gate_dst (N := 5) rfl ?_); (try (refine gate_guard (by rfl) ?_; dsimp only)); refine box_event ?hg (N := 5) ?hd (cs := #[.int .i64 0, .string (⟨#[]⟩ : ByteArray), .int .i64 0]) (t := 64) ?hr ?_; (case hd => rfl); (case hg => rfl); (case hr => first | (go_simp; done) | (go_simp; rfl)); intro gb59006 hg w43 hbox hb; have n0_ := Aside0.mk (blk_below (g := gb59001) (o := .cells #[.string a0_0, .slice A0_1 l0_1.length c0_1, .int .i64 a0_2, .int .i64 a0_3, .slice (some ad59002) l0_4.length c0_4] 35 (0, 0)) (by (with_reducible repeat (first | refine blk_drewN ?_ _ | refine blk_drew ?_ | refine blk_alloc ?_ _)); exact BK59001.out) hb); have n1_ := Aside0.mk (blk_below (g := gb59003) (o := .cells #[.int .i64 ((rd_T64 l0_4 x3_1).f0), .string ((rd_T64 l0_4 x3_1).f1), .int .i64 ((rd_T64 l0_4 x3_1).f2)] 64 (0, 0)) (by (with_reducible repeat (first | refine blk_drewN ?_ _ | refine blk_drew ?_ | refine blk_alloc ?_ _)); exact BK59003.out) hb); have n2_ := Aside0.mk (below_step (by repeat (first | (with_reducible first | exact HB.out | apply below_alloc | apply pw_below_drewN | apply below_drew1 | refine below_set ?_ GE59001.out | refine below_set ?_ GE59003.out) | exact HB.out)) hb); have n3_ := Aside0.mk (hbox); have n4_ := Aside0.mk ((by rw [hg]; exact (below_size (by repeat (first | (with_reducible first | exact HB.out | apply below_alloc | apply pw_below_drewN | apply below_drew1 | refine below_set ?_ GE59001.out | refine below_set ?_ GE59003.out) | exact HB.out))) : w.heap.size ≤ gb59006)); have n5_ := Aside0.mk ((by rw [hg]; exact (below_size (by repeat (first | (with_reducible first | exact HB.out | apply below_alloc | apply pw_below_drewN | apply below_drew1 | refine below_set ?_ GE59001.out | refine below_set ?_ GE59003.out) | exact HB.out))) : w.heap.size ≤ gb59006)); have n6_ := Aside0.mk ((by rw [hg]; exact Nat.ne_of_lt (blk_lt (g := gb59001) (o := .cells #[.string a0_0, .slice A0_1 l0_1.length c0_1, .int .i64 a0_2, .int .i64 a0_3, .slice (some ad59002) l0_4.length c0_4] 35 (0, 0)) (by (with_reducible repeat (first | refine blk_drewN ?_ _ | refine blk_drew ?_ | refine blk_alloc ?_ _)); exact BK59001.out)) : gb59001 ≠ gb59006)); have n7_ := Aside0.mk ((by rw [hg]; exact Nat.ne_of_gt (blk_lt (g := gb59001) (o := .cells #[.string a0_0, .slice A0_1 l0_1.length c0_1, .int .i64 a0_2, .int .i64 a0_3, .slice (some ad59002) l0_4.length c0_4] 35 (0, 0)) (by (with_reducible repeat (first | refine blk_drewN ?_ _ | refine blk_drew ?_ | refine blk_alloc ?_ _)); exact BK59001.out)) : gb59006 ≠ gb59001)); have n8_ := Aside0.mk ((by rw [hg]; exact Nat.ne_of_lt (blk_lt (g := gb59003) (o := .cells #[.int .i64 ((rd_T64 l0_4 x3_1).f0), .string ((rd_T64 l0_4 x3_1).f1), .int .i64 ((rd_T64 l0_4 x3_1).f2)] 64 (0, 0)) (by (with_reducible repeat (first | refine blk_drewN ?_ _ | refine blk_drew ?_ | refine blk_alloc ?_ _)); exact BK59003.out)) : gb59003 ≠ gb59006)); have n9_ := Aside0.mk ((by rw [hg]; exact Nat.ne_of_gt (blk_lt (g := gb59003) (o := .cells #[.int .i64 ((rd_T64 l0_4 x3_1).f0), .string ((rd_T64 l0_4 x3_1).f1), .int .i64 ((rd_T64 l0_4 x3_1).f2)] 64 (0, 0)) (by (with_reducible repeat (first | refine blk_drewN ?_ _ | refine blk_drew ?_ | refine blk_alloc ?_ _)); exact BK59003.out)) : gb59006 ≠ gb59003)); clear BK59001; clear BK59003; clear HB; have BK59001 := n0_; have BK59003 := n1_; have HB := n2_; have BK59006 := n3_; have GW59006 := n4_; have GE59006 := n5_; have NB59001_59006 := n6_; have NB59006_59001 := n7_; have NB59003_59006 := n8_; have NB59006_59003 := n9_; clear n0_ n1_ n2_ n3_ n4_ n5_ n6_ n7_ n8_ n9_; clear hb hbox hg; have hnb44 := NB59006_59001.out; have hnc44 := NB59001_59006.out; have hnb45 := NB59006_59003.out; have hnc45 := NB59003_59006.out; have hcz46_0 : w43.cell? ⟨gb59006, 0, none⟩ = some (.int .i64 0) := (blk_cell BK59006.out 0).trans rfl; have hcz46_1 : w43.cell? ⟨gb59006, 1, none⟩ = some (.string (⟨#[]⟩ : ByteArray)) := (blk_cell BK59006.out 1).trans rfl; have hcz46_2 : w43.cell? ⟨gb59006, 2, none⟩ = some (.int .i64 0) := (blk_cell BK59006.out 2).trans rfl; have hfz46_0 := blk_frozen BK59006.out 0; have hfz46_1 := blk_frozen BK59006.out 1; have hfz46_2 := blk_frozen BK59006.out 2; have hcz47_0 : w43.cell? ⟨gb59003, 0, none⟩ = some (.int .i64 ((rd_T64 l0_4 x3_1).f0)) := (blk_cell BK59003.out 0).trans rfl; have hcz47_1 : w43.cell? ⟨gb59003, 1, none⟩ = some (.string ((rd_T64 l0_4 x3_1).f1)) := (blk_cell BK59003.out 1).trans rfl; have hcz47_2 : w43.cell? ⟨gb59003, 2, none⟩ = some (.int .i64 ((rd_T64 l0_4 x3_1).f2)) := (blk_cell BK59003.out 2).trans rfl; have hfz47_0 := blk_frozen BK59003.out 0; have hfz47_1 := blk_frozen BK59003.out 1; have hfz47_2 := blk_frozen BK59003.out 2))
                            go_ret
                            exact ⟨by first | rfl | (simp [errW_none, errW_some] <;> rfl) | (simp only [← hji34]; first | rfl | (simp [errW_none, errW_some] <;> rfl)) | (simp [*, errW_none, errW_some] <;> rfl), by repeat (first | (with_reducible first | exact HB.out | apply below_alloc | apply pw_below_drewN | apply below_drew1 | refine below_set ?_ GE59001.out | refine below_set ?_ GE59003.out | refine below_set ?_ GE59006.out) | exact HB.out)⟩
                          · rw [if_neg c37] at H
                            have c37b0 : decide (((rd_T64 l0_4 x3_1).f0) < ((rd_T64 l0_4 (ji34)).f0)) = false := decide_eq_false c37
                            clear c37
                            by_cases c48 : ((rd_T64 l0_4 (ji34)).f0) = ((rd_T64 l0_4 x3_1).f0)
                            · rw [if_pos c48] at H
                              have c48b0 : (((rd_T64 l0_4 (ji34)).f0) == ((rd_T64 l0_4 x3_1).f0)) = true := beq_iff_eq.mpr c48
                              have c48b1 : (((rd_T64 l0_4 (ji34)).f0) != ((rd_T64 l0_4 x3_1).f0)) = false := bne_eq_false_iff_eq.mpr c48
                              clear c48
                              by_cases c49 : ((Op.bytesLess (((rd_T64 l0_4 (ji34)).f1).toList) ((rd_T64 l0_4 x3_1).f1).toList) = true)
                              · rw [if_pos c49] at H
                                have c49b0 : (Op.bytesLess (((rd_T64 l0_4 (ji34)).f1).toList) ((rd_T64 l0_4 x3_1).f1).toList) = true := c49
                                clear c49
                                have H' := Aside0.mk H
                                clear H
                                have hnb50 := NB59003_59001.out
                                have hnc50 := NB59001_59003.out
                                have hcz51_0 : wc.cell? ⟨gb59003, 0, none⟩ = some (.int .i64 ((rd_T64 l0_4 x3_1).f0)) := (blk_cell BK59003.out 0).trans rfl
                                have hcz51_1 : wc.cell? ⟨gb59003, 1, none⟩ = some (.string ((rd_T64 l0_4 x3_1).f1)) := (blk_cell BK59003.out 1).trans rfl
                                have hcz51_2 : wc.cell? ⟨gb59003, 2, none⟩ = some (.int .i64 ((rd_T64 l0_4 x3_1).f2)) := (blk_cell BK59003.out 2).trans rfl
                                have hfz51_0 := blk_frozen BK59003.out 0
                                have hfz51_1 := blk_frozen BK59003.out 1
                                have hfz51_2 := blk_frozen BK59003.out 2
                                go_wp2_with (first | ((with_reducible refine gate_callee (f := 18) rfl ?_); refine goesL_ (some 46) rfl rfl Tryd.func18 (by kernel_rfl) rfl #[.string ((rd_T64 l0_4 x3_1).f1)] rfl (by (try simp only [List.map_toArray, List.map_cons, List.map_nil]); first | done | rfl | (simp only [List.length_drop, List.length_take]; rfl)) ?_; (with_reducible refine (dataflowref07_Ident.calls kj4 ((rd_T64 l0_4 x3_1).f1) true _ A25.out).mono ?_); rintro e w52 ⟨rfl, hb⟩; refine ⟨_, rfl, ?_⟩; have n0_ := Aside0.mk (blk_below (g := gb59001) (o := .cells #[.string a0_0, .slice A0_1 l0_1.length c0_1, .int .i64 a0_2, .int .i64 a0_3, .slice (some ad59002) l0_4.length c0_4] 35 (0, 0)) (by (with_reducible repeat (first | refine blk_drewN ?_ _ | refine blk_drew ?_ | refine blk_alloc ?_ _)); exact BK59001.out) hb); have n1_ := Aside0.mk (blk_below (g := gb59003) (o := .cells #[.int .i64 ((rd_T64 l0_4 x3_1).f0), .string ((rd_T64 l0_4 x3_1).f1), .int .i64 ((rd_T64 l0_4 x3_1).f2)] 64 (0, 0)) (by (with_reducible repeat (first | refine blk_drewN ?_ _ | refine blk_drew ?_ | refine blk_alloc ?_ _)); exact BK59003.out) hb); have n2_ := Aside0.mk (below_step (by repeat (first | (with_reducible first | exact HB.out | apply below_alloc | apply pw_below_drewN | apply below_drew1 | refine below_set ?_ GE59001.out | refine below_set ?_ GE59003.out) | exact HB.out)) hb); clear BK59001; clear BK59003; clear HB; have BK59001 := n0_; have BK59003 := n1_; have HB := n2_; clear n0_ n1_ n2_; (try clear hb); (try clear hb2); (try clear hk); (try clear hi); have hcz53_0 : w52.cell? ⟨gb59003, 0, none⟩ = some (.int .i64 ((rd_T64 l0_4 x3_1).f0)) := (blk_cell BK59003.out 0).trans rfl; have hcz53_1 : w52.cell? ⟨gb59003, 1, none⟩ = some (.string ((rd_T64 l0_4 x3_1).f1)) := (blk_cell BK59003.out 1).trans rfl; have hcz53_2 : w52.cell? ⟨gb59003, 2, none⟩ = some (.int .i64 ((rd_T64 l0_4 x3_1).f2)) := (blk_cell BK59003.out 2).trans rfl; have hfz53_0 := blk_frozen BK59003.out 0; have hfz53_1 := blk_frozen BK59003.out 1; have hfz53_2 := blk_frozen BK59003.out 2; have hcz54_0 : w52.cell? ⟨gb59001, 0, none⟩ = some (.string a0_0) := (blk_cell BK59001.out 0).trans rfl; have hcz54_1 : w52.cell? ⟨gb59001, 1, none⟩ = some (.slice A0_1 l0_1.length c0_1) := (blk_cell BK59001.out 1).trans rfl; have hcz54_2 : w52.cell? ⟨gb59001, 2, none⟩ = some (.int .i64 a0_2) := (blk_cell BK59001.out 2).trans rfl; have hcz54_3 : w52.cell? ⟨gb59001, 3, none⟩ = some (.int .i64 a0_3) := (blk_cell BK59001.out 3).trans rfl; have hcz54_4 : w52.cell? ⟨gb59001, 4, none⟩ = some (.slice (some ad59002) l0_4.length c0_4) := (blk_cell BK59001.out 4).trans rfl; have hfz54_0 := blk_frozen BK59001.out 0; have hfz54_1 := blk_frozen BK59001.out 1; have hfz54_2 := blk_frozen BK59001.out 2; have hfz54_3 := blk_frozen BK59001.out 3; have hfz54_4 := blk_frozen BK59001.out 4; have p59005 : 0 ≤ ((ji34) : Int) := of_decide_eq_true (by first | (with_reducible assumption) | assumption); have q59005 : (ji34) < (l0_4.length : Int) := of_decide_eq_true (by first | (with_reducible assumption) | assumption); obtain ⟨ad59005, e59005, hx59005_0, hx59005_1, hx59005_2⟩ := at_T64 HR0_4.out (ji34) p59005 q59005; obtain rfl : ad59002 = ad59005 := (by injection e59005); replace hx59005_0 := (HB.out.cell (World.block_lt_of_cell? w _ hx59005_0)).trans hx59005_0; replace hx59005_1 := (HB.out.cell (World.block_lt_of_cell? w _ hx59005_1)).trans hx59005_1; replace hx59005_2 := (HB.out.cell (World.block_lt_of_cell? w _ hx59005_2)).trans hx59005_2; replace p59005 := eq_true p59005; replace q59005 := eq_true q59005) | ((with_reducible refine gate_dst (N := 5) rfl ?_); (try (refine gate_guard (by rfl) ?_; dsimp only)); refine box_event ?hg (N := 5) ?hd (cs := #[.int .i64 0, .string (⟨#[]⟩ : ByteArray), .int .i64 0]) (t := 64) ?hr ?_; (case hd => rfl); (case hg => rfl); (case hr => first | (go_simp; done) | (go_simp; rfl)); intro gb59006 hg w55 hbox hb; have n0_ := Aside0.mk (blk_below (g := gb59001) (o := .cells #[.string a0_0, .slice A0_1 l0_1.length c0_1, .int .i64 a0_2, .int .i64 a0_3, .slice (some ad59002) l0_4.length c0_4] 35 (0, 0)) (by (with_reducible repeat (first | refine blk_drewN ?_ _ | refine blk_drew ?_ | refine blk_alloc ?_ _)); exact BK59001.out) hb); have n1_ := Aside0.mk (blk_below (g := gb59003) (o := .cells #[.int .i64 ((rd_T64 l0_4 x3_1).f0), .string ((rd_T64 l0_4 x3_1).f1), .int .i64 ((rd_T64 l0_4 x3_1).f2)] 64 (0, 0)) (by (with_reducible repeat (first | refine blk_drewN ?_ _ | refine blk_drew ?_ | refine blk_alloc ?_ _)); exact BK59003.out) hb); have n2_ := Aside0.mk (below_step (by repeat (first | (with_reducible first | exact HB.out | apply below_alloc | apply pw_below_drewN | apply below_drew1 | refine below_set ?_ GE59001.out | refine below_set ?_ GE59003.out) | exact HB.out)) hb); have n3_ := Aside0.mk (hbox); have n4_ := Aside0.mk ((by rw [hg]; exact (below_size (by repeat (first | (with_reducible first | exact HB.out | apply below_alloc | apply pw_below_drewN | apply below_drew1 | refine below_set ?_ GE59001.out | refine below_set ?_ GE59003.out) | exact HB.out))) : w.heap.size ≤ gb59006)); have n5_ := Aside0.mk ((by rw [hg]; exact (below_size (by repeat (first | (with_reducible first | exact HB.out | apply below_alloc | apply pw_below_drewN | apply below_drew1 | refine below_set ?_ GE59001.out | refine below_set ?_ GE59003.out) | exact HB.out))) : w.heap.size ≤ gb59006)); have n6_ := Aside0.mk ((by rw [hg]; exact Nat.ne_of_lt (blk_lt (g := gb59001) (o := .cells #[.string a0_0, .slice A0_1 l0_1.length c0_1, .int .i64 a0_2, .int .i64 a0_3, .slice (some ad59002) l0_4.length c0_4] 35 (0, 0)) (by (with_reducible repeat (first | refine blk_drewN ?_ _ | refine blk_drew ?_ | refine blk_alloc ?_ _)); exact BK59001.out)) : gb59001 ≠ gb59006)); have n7_ := Aside0.mk ((by rw [hg]; exact Nat.ne_of_gt (blk_lt (g := gb59001) (o := .cells #[.string a0_0, .slice A0_1 l0_1.length c0_1, .int .i64 a0_2, .int .i64 a0_3, .slice (some ad59002) l0_4.length c0_4] 35 (0, 0)) (by (with_reducible repeat (first | refine blk_drewN ?_ _ | refine blk_drew ?_ | refine blk_alloc ?_ _)); exact BK59001.out)) : gb59006 ≠ gb59001)); have n8_ := Aside0.mk ((by rw [hg]; exact Nat.ne_of_lt (blk_lt (g := gb59003) (o := .cells #[.int .i64 ((rd_T64 l0_4 x3_1).f0), .string ((rd_T64 l0_4 x3_1).f1), .int .i64 ((rd_T64 l0_4 x3_1).f2)] 64 (0, 0)) (by (with_reducible repeat (first | refine blk_drewN ?_ _ | refine blk_drew ?_ | refine blk_alloc ?_ _)); exact BK59003.out)) : gb59003 ≠ gb59006)); have n9_ := Aside0.mk ((by rw [hg]; exact Nat.ne_of_gt (blk_lt (g := gb59003) (o := .cells #[.int .i64 ((rd_T64 l0_4 x3_1).f0), .string ((rd_T64 l0_4 x3_1).f1), .int .i64 ((rd_T64 l0_4 x3_1).f2)] 64 (0, 0)) (by (with_reducible repeat (first | refine blk_drewN ?_ _ | refine blk_drew ?_ | refine blk_alloc ?_ _)); exact BK59003.out)) : gb59006 ≠ gb59003)); clear BK59001; clear BK59003; clear HB; have BK59001 := n0_; have BK59003 := n1_; have HB := n2_; have BK59006 := n3_; have GW59006 := n4_; have GE59006 := n5_; have NB59001_59006 := n6_; have NB59006_59001 := n7_; have NB59003_59006 := n8_; have NB59006_59003 := n9_; clear n0_ n1_ n2_ n3_ n4_ n5_ n6_ n7_ n8_ n9_; clear hb hbox hg; have hnb56 := NB59006_59001.out; have hnc56 := NB59001_59006.out; have hnb57 := NB59006_59003.out; have hnc57 := NB59003_59006.out; have hcz58_0 : w55.cell? ⟨gb59006, 0, none⟩ = some (.int .i64 0) := (blk_cell BK59006.out 0).trans rfl; have hcz58_1 : w55.cell? ⟨gb59006, 1, none⟩ = some (.string (⟨#[]⟩ : ByteArray)) := (blk_cell BK59006.out 1).trans rfl; have hcz58_2 : w55.cell? ⟨gb59006, 2, none⟩ = some (.int .i64 0) := (blk_cell BK59006.out 2).trans rfl; have hfz58_0 := blk_frozen BK59006.out 0; have hfz58_1 := blk_frozen BK59006.out 1; have hfz58_2 := blk_frozen BK59006.out 2; have hcz59_0 : w55.cell? ⟨gb59003, 0, none⟩ = some (.int .i64 ((rd_T64 l0_4 x3_1).f0)) := (blk_cell BK59003.out 0).trans rfl; have hcz59_1 : w55.cell? ⟨gb59003, 1, none⟩ = some (.string ((rd_T64 l0_4 x3_1).f1)) := (blk_cell BK59003.out 1).trans rfl; have hcz59_2 : w55.cell? ⟨gb59003, 2, none⟩ = some (.int .i64 ((rd_T64 l0_4 x3_1).f2)) := (blk_cell BK59003.out 2).trans rfl; have hfz59_0 := blk_frozen BK59003.out 0; have hfz59_1 := blk_frozen BK59003.out 1; have hfz59_2 := blk_frozen BK59003.out 2))
                                go_roundg kj4
                                case measure => have := HK1.out; have := HJ4.out; omega
                                case rel => exact ⟨(wrap64 (x3_1 + 1)), (by first | rfl | (simp; done) | (simp [*]; done)), H', ⟨by have := HK1.out; have := HJ4.out; omega⟩, ⟨by (with_reducible repeat (first | refine blk_drewN ?_ _ | refine blk_drew ?_ | refine blk_alloc ?_ _)); refine blk_far ?_ NB59001_59006.out _; (with_reducible repeat (first | refine blk_drewN ?_ _ | refine blk_drew ?_ | refine blk_alloc ?_ _)); refine blk_far ?_ NB59001_59006.out _; (with_reducible repeat (first | refine blk_drewN ?_ _ | refine blk_drew ?_ | refine blk_alloc ?_ _)); refine blk_far ?_ NB59001_59006.out _; (with_reducible repeat (first | refine blk_drewN ?_ _ | refine blk_drew ?_ | refine blk_alloc ?_ _)); exact BK59001.out⟩, ⟨by repeat (first | (with_reducible first | exact HB.out | apply below_alloc | apply pw_below_drewN | apply below_drew1 | refine below_set ?_ GE59001.out | refine below_set ?_ GE59003.out | refine below_set ?_ GE59006.out) | exact HB.out)⟩⟩
                              · rw [if_neg c49] at H
                                have c49b0 : (Op.bytesLess (((rd_T64 l0_4 (ji34)).f1).toList) ((rd_T64 l0_4 x3_1).f1).toList) = false := by simpa using c49
                                clear c49
                                obtain rfl := Option.some.inj H
                                have hnb60 := NB59003_59001.out
                                have hnc60 := NB59001_59003.out
                                have hcz61_0 : wc.cell? ⟨gb59003, 0, none⟩ = some (.int .i64 ((rd_T64 l0_4 x3_1).f0)) := (blk_cell BK59003.out 0).trans rfl
                                have hcz61_1 : wc.cell? ⟨gb59003, 1, none⟩ = some (.string ((rd_T64 l0_4 x3_1).f1)) := (blk_cell BK59003.out 1).trans rfl
                                have hcz61_2 : wc.cell? ⟨gb59003, 2, none⟩ = some (.int .i64 ((rd_T64 l0_4 x3_1).f2)) := (blk_cell BK59003.out 2).trans rfl
                                have hfz61_0 := blk_frozen BK59003.out 0
                                have hfz61_1 := blk_frozen BK59003.out 1
                                have hfz61_2 := blk_frozen BK59003.out 2
                                go_wp2_with (first | ((with_reducible refine gate_callee (f := 18) rfl ?_); refine goesL_ (some 46) rfl rfl Tryd.func18 (by kernel_rfl) rfl #[.string ((rd_T64 l0_4 x3_1).f1)] rfl (by (try simp only [List.map_toArray, List.map_cons, List.map_nil]); first | done | rfl | (simp only [List.length_drop, List.length_take]; rfl)) ?_; (with_reducible refine (dataflowref07_Ident.calls kj4 ((rd_T64 l0_4 x3_1).f1) true _ A25.out).mono ?_); rintro e w62 ⟨rfl, hb⟩; refine ⟨_, rfl, ?_⟩; have n0_ := Aside0.mk (blk_below (g := gb59001) (o := .cells #[.string a0_0, .slice A0_1 l0_1.length c0_1, .int .i64 a0_2, .int .i64 a0_3, .slice (some ad59002) l0_4.length c0_4] 35 (0, 0)) (by (with_reducible repeat (first | refine blk_drewN ?_ _ | refine blk_drew ?_ | refine blk_alloc ?_ _)); exact BK59001.out) hb); have n1_ := Aside0.mk (blk_below (g := gb59003) (o := .cells #[.int .i64 ((rd_T64 l0_4 x3_1).f0), .string ((rd_T64 l0_4 x3_1).f1), .int .i64 ((rd_T64 l0_4 x3_1).f2)] 64 (0, 0)) (by (with_reducible repeat (first | refine blk_drewN ?_ _ | refine blk_drew ?_ | refine blk_alloc ?_ _)); exact BK59003.out) hb); have n2_ := Aside0.mk (below_step (by repeat (first | (with_reducible first | exact HB.out | apply below_alloc | apply pw_below_drewN | apply below_drew1 | refine below_set ?_ GE59001.out | refine below_set ?_ GE59003.out) | exact HB.out)) hb); clear BK59001; clear BK59003; clear HB; have BK59001 := n0_; have BK59003 := n1_; have HB := n2_; clear n0_ n1_ n2_; (try clear hb); (try clear hb2); (try clear hk); (try clear hi); have hcz63_0 : w62.cell? ⟨gb59003, 0, none⟩ = some (.int .i64 ((rd_T64 l0_4 x3_1).f0)) := (blk_cell BK59003.out 0).trans rfl; have hcz63_1 : w62.cell? ⟨gb59003, 1, none⟩ = some (.string ((rd_T64 l0_4 x3_1).f1)) := (blk_cell BK59003.out 1).trans rfl; have hcz63_2 : w62.cell? ⟨gb59003, 2, none⟩ = some (.int .i64 ((rd_T64 l0_4 x3_1).f2)) := (blk_cell BK59003.out 2).trans rfl; have hfz63_0 := blk_frozen BK59003.out 0; have hfz63_1 := blk_frozen BK59003.out 1; have hfz63_2 := blk_frozen BK59003.out 2; have hcz64_0 : w62.cell? ⟨gb59001, 0, none⟩ = some (.string a0_0) := (blk_cell BK59001.out 0).trans rfl; have hcz64_1 : w62.cell? ⟨gb59001, 1, none⟩ = some (.slice A0_1 l0_1.length c0_1) := (blk_cell BK59001.out 1).trans rfl; have hcz64_2 : w62.cell? ⟨gb59001, 2, none⟩ = some (.int .i64 a0_2) := (blk_cell BK59001.out 2).trans rfl; have hcz64_3 : w62.cell? ⟨gb59001, 3, none⟩ = some (.int .i64 a0_3) := (blk_cell BK59001.out 3).trans rfl; have hcz64_4 : w62.cell? ⟨gb59001, 4, none⟩ = some (.slice (some ad59002) l0_4.length c0_4) := (blk_cell BK59001.out 4).trans rfl; have hfz64_0 := blk_frozen BK59001.out 0; have hfz64_1 := blk_frozen BK59001.out 1; have hfz64_2 := blk_frozen BK59001.out 2; have hfz64_3 := blk_frozen BK59001.out 3; have hfz64_4 := blk_frozen BK59001.out 4; have p59005 : 0 ≤ ((ji34) : Int) := of_decide_eq_true (by first | (with_reducible assumption) | assumption); have q59005 : (ji34) < (l0_4.length : Int) := of_decide_eq_true (by first | (with_reducible assumption) | assumption); obtain ⟨ad59005, e59005, hx59005_0, hx59005_1, hx59005_2⟩ := at_T64 HR0_4.out (ji34) p59005 q59005; obtain rfl : ad59002 = ad59005 := (by injection e59005); replace hx59005_0 := (HB.out.cell (World.block_lt_of_cell? w _ hx59005_0)).trans hx59005_0; replace hx59005_1 := (HB.out.cell (World.block_lt_of_cell? w _ hx59005_1)).trans hx59005_1; replace hx59005_2 := (HB.out.cell (World.block_lt_of_cell? w _ hx59005_2)).trans hx59005_2; replace p59005 := eq_true p59005; replace q59005 := eq_true q59005) | ((with_reducible refine gate_dst (N := 5) rfl ?_); (try (refine gate_guard (by rfl) ?_; dsimp only)); refine box_event ?hg (N := 5) ?hd (cs := #[.int .i64 0, .string (⟨#[]⟩ : ByteArray), .int .i64 0]) (t := 64) ?hr ?_; (case hd => rfl); (case hg => rfl); (case hr => first | (go_simp; done) | (go_simp; rfl)); intro gb59006 hg w65 hbox hb; have n0_ := Aside0.mk (blk_below (g := gb59001) (o := .cells #[.string a0_0, .slice A0_1 l0_1.length c0_1, .int .i64 a0_2, .int .i64 a0_3, .slice (some ad59002) l0_4.length c0_4] 35 (0, 0)) (by (with_reducible repeat (first | refine blk_drewN ?_ _ | refine blk_drew ?_ | refine blk_alloc ?_ _)); exact BK59001.out) hb); have n1_ := Aside0.mk (blk_below (g := gb59003) (o := .cells #[.int .i64 ((rd_T64 l0_4 x3_1).f0), .string ((rd_T64 l0_4 x3_1).f1), .int .i64 ((rd_T64 l0_4 x3_1).f2)] 64 (0, 0)) (by (with_reducible repeat (first | refine blk_drewN ?_ _ | refine blk_drew ?_ | refine blk_alloc ?_ _)); exact BK59003.out) hb); have n2_ := Aside0.mk (below_step (by repeat (first | (with_reducible first | exact HB.out | apply below_alloc | apply pw_below_drewN | apply below_drew1 | refine below_set ?_ GE59001.out | refine below_set ?_ GE59003.out) | exact HB.out)) hb); have n3_ := Aside0.mk (hbox); have n4_ := Aside0.mk ((by rw [hg]; exact (below_size (by repeat (first | (with_reducible first | exact HB.out | apply below_alloc | apply pw_below_drewN | apply below_drew1 | refine below_set ?_ GE59001.out | refine below_set ?_ GE59003.out) | exact HB.out))) : w.heap.size ≤ gb59006)); have n5_ := Aside0.mk ((by rw [hg]; exact (below_size (by repeat (first | (with_reducible first | exact HB.out | apply below_alloc | apply pw_below_drewN | apply below_drew1 | refine below_set ?_ GE59001.out | refine below_set ?_ GE59003.out) | exact HB.out))) : w.heap.size ≤ gb59006)); have n6_ := Aside0.mk ((by rw [hg]; exact Nat.ne_of_lt (blk_lt (g := gb59001) (o := .cells #[.string a0_0, .slice A0_1 l0_1.length c0_1, .int .i64 a0_2, .int .i64 a0_3, .slice (some ad59002) l0_4.length c0_4] 35 (0, 0)) (by (with_reducible repeat (first | refine blk_drewN ?_ _ | refine blk_drew ?_ | refine blk_alloc ?_ _)); exact BK59001.out)) : gb59001 ≠ gb59006)); have n7_ := Aside0.mk ((by rw [hg]; exact Nat.ne_of_gt (blk_lt (g := gb59001) (o := .cells #[.string a0_0, .slice A0_1 l0_1.length c0_1, .int .i64 a0_2, .int .i64 a0_3, .slice (some ad59002) l0_4.length c0_4] 35 (0, 0)) (by (with_reducible repeat (first | refine blk_drewN ?_ _ | refine blk_drew ?_ | refine blk_alloc ?_ _)); exact BK59001.out)) : gb59006 ≠ gb59001)); have n8_ := Aside0.mk ((by rw [hg]; exact Nat.ne_of_lt (blk_lt (g := gb59003) (o := .cells #[.int .i64 ((rd_T64 l0_4 x3_1).f0), .string ((rd_T64 l0_4 x3_1).f1), .int .i64 ((rd_T64 l0_4 x3_1).f2)] 64 (0, 0)) (by (with_reducible repeat (first | refine blk_drewN ?_ _ | refine blk_drew ?_ | refine blk_alloc ?_ _)); exact BK59003.out)) : gb59003 ≠ gb59006)); have n9_ := Aside0.mk ((by rw [hg]; exact Nat.ne_of_gt (blk_lt (g := gb59003) (o := .cells #[.int .i64 ((rd_T64 l0_4 x3_1).f0), .string ((rd_T64 l0_4 x3_1).f1), .int .i64 ((rd_T64 l0_4 x3_1).f2)] 64 (0, 0)) (by (with_reducible repeat (first | refine blk_drewN ?_ _ | refine blk_drew ?_ | refine blk_alloc ?_ _)); exact BK59003.out)) : gb59006 ≠ gb59003)); clear BK59001; clear BK59003; clear HB; have BK59001 := n0_; have BK59003 := n1_; have HB := n2_; have BK59006 := n3_; have GW59006 := n4_; have GE59006 := n5_; have NB59001_59006 := n6_; have NB59006_59001 := n7_; have NB59003_59006 := n8_; have NB59006_59003 := n9_; clear n0_ n1_ n2_ n3_ n4_ n5_ n6_ n7_ n8_ n9_; clear hb hbox hg; have hnb66 := NB59006_59001.out; have hnc66 := NB59001_59006.out; have hnb67 := NB59006_59003.out; have hnc67 := NB59003_59006.out; have hcz68_0 : w65.cell? ⟨gb59006, 0, none⟩ = some (.int .i64 0) := (blk_cell BK59006.out 0).trans rfl; have hcz68_1 : w65.cell? ⟨gb59006, 1, none⟩ = some (.string (⟨#[]⟩ : ByteArray)) := (blk_cell BK59006.out 1).trans rfl; have hcz68_2 : w65.cell? ⟨gb59006, 2, none⟩ = some (.int .i64 0) := (blk_cell BK59006.out 2).trans rfl; have hfz68_0 := blk_frozen BK59006.out 0; have hfz68_1 := blk_frozen BK59006.out 1; have hfz68_2 := blk_frozen BK59006.out 2; have hcz69_0 : w65.cell? ⟨gb59003, 0, none⟩ = some (.int .i64 ((rd_T64 l0_4 x3_1).f0)) := (blk_cell BK59003.out 0).trans rfl; have hcz69_1 : w65.cell? ⟨gb59003, 1, none⟩ = some (.string ((rd_T64 l0_4 x3_1).f1)) := (blk_cell BK59003.out 1).trans rfl; have hcz69_2 : w65.cell? ⟨gb59003, 2, none⟩ = some (.int .i64 ((rd_T64 l0_4 x3_1).f2)) := (blk_cell BK59003.out 2).trans rfl; have hfz69_0 := blk_frozen BK59003.out 0; have hfz69_1 := blk_frozen BK59003.out 1; have hfz69_2 := blk_frozen BK59003.out 2))
                                go_ret
                                exact ⟨by first | rfl | (simp [errW_none, errW_some] <;> rfl) | (simp only [← hji34]; first | rfl | (simp [errW_none, errW_some] <;> rfl)) | (simp [*, errW_none, errW_some] <;> rfl), by repeat (first | (with_reducible first | exact HB.out | apply below_alloc | apply pw_below_drewN | apply below_drew1 | refine below_set ?_ GE59001.out | refine below_set ?_ GE59003.out | refine below_set ?_ GE59006.out) | exact HB.out)⟩
                            · rw [if_neg c48] at H
                              have c48b0 : (((rd_T64 l0_4 (ji34)).f0) == ((rd_T64 l0_4 x3_1).f0)) = false := beq_eq_false_iff_ne.mpr c48
                              have c48b1 : (((rd_T64 l0_4 (ji34)).f0) != ((rd_T64 l0_4 x3_1).f0)) = true := bne_iff_ne.mpr c48
                              have H' := Aside0.mk H
                              clear H
                              have hnb70 := NB59003_59001.out
                              have hnc70 := NB59001_59003.out
                              have hcz71_0 : wc.cell? ⟨gb59003, 0, none⟩ = some (.int .i64 ((rd_T64 l0_4 x3_1).f0)) := (blk_cell BK59003.out 0).trans rfl
                              have hcz71_1 : wc.cell? ⟨gb59003, 1, none⟩ = some (.string ((rd_T64 l0_4 x3_1).f1)) := (blk_cell BK59003.out 1).trans rfl
                              have hcz71_2 : wc.cell? ⟨gb59003, 2, none⟩ = some (.int .i64 ((rd_T64 l0_4 x3_1).f2)) := (blk_cell BK59003.out 2).trans rfl
                              have hfz71_0 := blk_frozen BK59003.out 0
                              have hfz71_1 := blk_frozen BK59003.out 1
                              have hfz71_2 := blk_frozen BK59003.out 2
                              go_wp2_with (first | ((with_reducible refine gate_callee (f := 18) rfl ?_); refine goesL_ (some 46) rfl rfl Tryd.func18 (by kernel_rfl) rfl #[.string ((rd_T64 l0_4 x3_1).f1)] rfl (by (try simp only [List.map_toArray, List.map_cons, List.map_nil]); first | done | rfl | (simp only [List.length_drop, List.length_take]; rfl)) ?_; (with_reducible refine (dataflowref07_Ident.calls kj4 ((rd_T64 l0_4 x3_1).f1) true _ A25.out).mono ?_); rintro e w72 ⟨rfl, hb⟩; refine ⟨_, rfl, ?_⟩; have n0_ := Aside0.mk (blk_below (g := gb59001) (o := .cells #[.string a0_0, .slice A0_1 l0_1.length c0_1, .int .i64 a0_2, .int .i64 a0_3, .slice (some ad59002) l0_4.length c0_4] 35 (0, 0)) (by (with_reducible repeat (first | refine blk_drewN ?_ _ | refine blk_drew ?_ | refine blk_alloc ?_ _)); exact BK59001.out) hb); have n1_ := Aside0.mk (blk_below (g := gb59003) (o := .cells #[.int .i64 ((rd_T64 l0_4 x3_1).f0), .string ((rd_T64 l0_4 x3_1).f1), .int .i64 ((rd_T64 l0_4 x3_1).f2)] 64 (0, 0)) (by (with_reducible repeat (first | refine blk_drewN ?_ _ | refine blk_drew ?_ | refine blk_alloc ?_ _)); exact BK59003.out) hb); have n2_ := Aside0.mk (below_step (by repeat (first | (with_reducible first | exact HB.out | apply below_alloc | apply pw_below_drewN | apply below_drew1 | refine below_set ?_ GE59001.out | refine below_set ?_ GE59003.out) | exact HB.out)) hb); clear BK59001; clear BK59003; clear HB; have BK59001 := n0_; have BK59003 := n1_; have HB := n2_; clear n0_ n1_ n2_; (try clear hb); (try clear hb2); (try clear hk); (try clear hi); have hcz73_0 : w72.cell? ⟨gb59003, 0, none⟩ = some (.int .i64 ((rd_T64 l0_4 x3_1).f0)) := (blk_cell BK59003.out 0).trans rfl; have hcz73_1 : w72.cell? ⟨gb59003, 1, none⟩ = some (.string ((rd_T64 l0_4 x3_1).f1)) := (blk_cell BK59003.out 1).trans rfl; have hcz73_2 : w72.cell? ⟨gb59003, 2, none⟩ = some (.int .i64 ((rd_T64 l0_4 x3_1).f2)) := (blk_cell BK59003.out 2).trans rfl; have hfz73_0 := blk_frozen BK59003.out 0; have hfz73_1 := blk_frozen BK59003.out 1; have hfz73_2 := blk_frozen BK59003.out 2; have hcz74_0 : w72.cell? ⟨gb59001, 0, none⟩ = some (.string a0_0) := (blk_cell BK59001.out 0).trans rfl; have hcz74_1 : w72.cell? ⟨gb59001, 1, none⟩ = some (.slice A0_1 l0_1.length c0_1) := (blk_cell BK59001.out 1).trans rfl; have hcz74_2 : w72.cell? ⟨gb59001, 2, none⟩ = some (.int .i64 a0_2) := (blk_cell BK59001.out 2).trans rfl; have hcz74_3 : w72.cell? ⟨gb59001, 3, none⟩ = some (.int .i64 a0_3) := (blk_cell BK59001.out 3).trans rfl; have hcz74_4 : w72.cell? ⟨gb59001, 4, none⟩ = some (.slice (some ad59002) l0_4.length c0_4) := (blk_cell BK59001.out 4).trans rfl; have hfz74_0 := blk_frozen BK59001.out 0; have hfz74_1 := blk_frozen BK59001.out 1; have hfz74_2 := blk_frozen BK59001.out 2; have hfz74_3 := blk_frozen BK59001.out 3; have hfz74_4 := blk_frozen BK59001.out 4; have p59005 : 0 ≤ ((ji34) : Int) := of_decide_eq_true (by first | (with_reducible assumption) | assumption); have q59005 : (ji34) < (l0_4.length : Int) := of_decide_eq_true (by first | (with_reducible assumption) | assumption); obtain ⟨ad59005, e59005, hx59005_0, hx59005_1, hx59005_2⟩ := at_T64 HR0_4.out (ji34) p59005 q59005; obtain rfl : ad59002 = ad59005 := (by injection e59005); replace hx59005_0 := (HB.out.cell (World.block_lt_of_cell? w _ hx59005_0)).trans hx59005_0; replace hx59005_1 := (HB.out.cell (World.block_lt_of_cell? w _ hx59005_1)).trans hx59005_1; replace hx59005_2 := (HB.out.cell (World.block_lt_of_cell? w _ hx59005_2)).trans hx59005_2; replace p59005 := eq_true p59005; replace q59005 := eq_true q59005) | ((with_reducible refine gate_dst (N := 5) rfl ?_); (try (refine gate_guard (by rfl) ?_; dsimp only)); refine box_event ?hg (N := 5) ?hd (cs := #[.int .i64 0, .string (⟨#[]⟩ : ByteArray), .int .i64 0]) (t := 64) ?hr ?_; (case hd => rfl); (case hg => rfl); (case hr => first | (go_simp; done) | (go_simp; rfl)); intro gb59006 hg w75 hbox hb; have n0_ := Aside0.mk (blk_below (g := gb59001) (o := .cells #[.string a0_0, .slice A0_1 l0_1.length c0_1, .int .i64 a0_2, .int .i64 a0_3, .slice (some ad59002) l0_4.length c0_4] 35 (0, 0)) (by (with_reducible repeat (first | refine blk_drewN ?_ _ | refine blk_drew ?_ | refine blk_alloc ?_ _)); exact BK59001.out) hb); have n1_ := Aside0.mk (blk_below (g := gb59003) (o := .cells #[.int .i64 ((rd_T64 l0_4 x3_1).f0), .string ((rd_T64 l0_4 x3_1).f1), .int .i64 ((rd_T64 l0_4 x3_1).f2)] 64 (0, 0)) (by (with_reducible repeat (first | refine blk_drewN ?_ _ | refine blk_drew ?_ | refine blk_alloc ?_ _)); exact BK59003.out) hb); have n2_ := Aside0.mk (below_step (by repeat (first | (with_reducible first | exact HB.out | apply below_alloc | apply pw_below_drewN | apply below_drew1 | refine below_set ?_ GE59001.out | refine below_set ?_ GE59003.out) | exact HB.out)) hb); have n3_ := Aside0.mk (hbox); have n4_ := Aside0.mk ((by rw [hg]; exact (below_size (by repeat (first | (with_reducible first | exact HB.out | apply below_alloc | apply pw_below_drewN | apply below_drew1 | refine below_set ?_ GE59001.out | refine below_set ?_ GE59003.out) | exact HB.out))) : w.heap.size ≤ gb59006)); have n5_ := Aside0.mk ((by rw [hg]; exact (below_size (by repeat (first | (with_reducible first | exact HB.out | apply below_alloc | apply pw_below_drewN | apply below_drew1 | refine below_set ?_ GE59001.out | refine below_set ?_ GE59003.out) | exact HB.out))) : w.heap.size ≤ gb59006)); have n6_ := Aside0.mk ((by rw [hg]; exact Nat.ne_of_lt (blk_lt (g := gb59001) (o := .cells #[.string a0_0, .slice A0_1 l0_1.length c0_1, .int .i64 a0_2, .int .i64 a0_3, .slice (some ad59002) l0_4.length c0_4] 35 (0, 0)) (by (with_reducible repeat (first | refine blk_drewN ?_ _ | refine blk_drew ?_ | refine blk_alloc ?_ _)); exact BK59001.out)) : gb59001 ≠ gb59006)); have n7_ := Aside0.mk ((by rw [hg]; exact Nat.ne_of_gt (blk_lt (g := gb59001) (o := .cells #[.string a0_0, .slice A0_1 l0_1.length c0_1, .int .i64 a0_2, .int .i64 a0_3, .slice (some ad59002) l0_4.length c0_4] 35 (0, 0)) (by (with_reducible repeat (first | refine blk_drewN ?_ _ | refine blk_drew ?_ | refine blk_alloc ?_ _)); exact BK59001.out)) : gb59006 ≠ gb59001)); have n8_ := Aside0.mk ((by rw [hg]; exact Nat.ne_of_lt (blk_lt (g := gb59003) (o := .cells #[.int .i64 ((rd_T64 l0_4 x3_1).f0), .string ((rd_T64 l0_4 x3_1).f1), .int .i64 ((rd_T64 l0_4 x3_1).f2)] 64 (0, 0)) (by (with_reducible repeat (first | refine blk_drewN ?_ _ | refine blk_drew ?_ | refine blk_alloc ?_ _)); exact BK59003.out)) : gb59003 ≠ gb59006)); have n9_ := Aside0.mk ((by rw [hg]; exact Nat.ne_of_gt (blk_lt (g := gb59003) (o := .cells #[.int .i64 ((rd_T64 l0_4 x3_1).f0), .string ((rd_T64 l0_4 x3_1).f1), .int .i64 ((rd_T64 l0_4 x3_1).f2)] 64 (0, 0)) (by (with_reducible repeat (first | refine blk_drewN ?_ _ | refine blk_drew ?_ | refine blk_alloc ?_ _)); exact BK59003.out)) : gb59006 ≠ gb59003)); clear BK59001; clear BK59003; clear HB; have BK59001 := n0_; have BK59003 := n1_; have HB := n2_; have BK59006 := n3_; have GW59006 := n4_; have GE59006 := n5_; have NB59001_59006 := n6_; have NB59006_59001 := n7_; have NB59003_59006 := n8_; have NB59006_59003 := n9_; clear n0_ n1_ n2_ n3_ n4_ n5_ n6_ n7_ n8_ n9_; clear hb hbox hg; have hnb76 := NB59006_59001.out; have hnc76 := NB59001_59006.out; have hnb77 := NB59006_59003.out; have hnc77 := NB59003_59006.out; have hcz78_0 : w75.cell? ⟨gb59006, 0, none⟩ = some (.int .i64 0) := (blk_cell BK59006.out 0).trans rfl; have hcz78_1 : w75.cell? ⟨gb59006, 1, none⟩ = some (.string (⟨#[]⟩ : ByteArray)) := (blk_cell BK59006.out 1).trans rfl; have hcz78_2 : w75.cell? ⟨gb59006, 2, none⟩ = some (.int .i64 0) := (blk_cell BK59006.out 2).trans rfl; have hfz78_0 := blk_frozen BK59006.out 0; have hfz78_1 := blk_frozen BK59006.out 1; have hfz78_2 := blk_frozen BK59006.out 2; have hcz79_0 : w75.cell? ⟨gb59003, 0, none⟩ = some (.int .i64 ((rd_T64 l0_4 x3_1).f0)) := (blk_cell BK59003.out 0).trans rfl; have hcz79_1 : w75.cell? ⟨gb59003, 1, none⟩ = some (.string ((rd_T64 l0_4 x3_1).f1)) := (blk_cell BK59003.out 1).trans rfl; have hcz79_2 : w75.cell? ⟨gb59003, 2, none⟩ = some (.int .i64 ((rd_T64 l0_4 x3_1).f2)) := (blk_cell BK59003.out 2).trans rfl; have hfz79_0 := blk_frozen BK59003.out 0; have hfz79_1 := blk_frozen BK59003.out 1; have hfz79_2 := blk_frozen BK59003.out 2))
                              go_roundg kj4
                              case measure => have := HK1.out; have := HJ4.out; omega
                              case rel => exact ⟨(wrap64 (x3_1 + 1)), (by first | rfl | (simp; done) | (simp [*]; done)), H', ⟨by have := HK1.out; have := HJ4.out; omega⟩, ⟨by (with_reducible repeat (first | refine blk_drewN ?_ _ | refine blk_drew ?_ | refine blk_alloc ?_ _)); refine blk_far ?_ NB59001_59006.out _; (with_reducible repeat (first | refine blk_drewN ?_ _ | refine blk_drew ?_ | refine blk_alloc ?_ _)); refine blk_far ?_ NB59001_59006.out _; (with_reducible repeat (first | refine blk_drewN ?_ _ | refine blk_drew ?_ | refine blk_alloc ?_ _)); refine blk_far ?_ NB59001_59006.out _; (with_reducible repeat (first | refine blk_drewN ?_ _ | refine blk_drew ?_ | refine blk_alloc ?_ _)); exact BK59001.out⟩, ⟨by repeat (first | (with_reducible first | exact HB.out | apply below_alloc | apply pw_below_drewN | apply below_drew1 | refine below_set ?_ GE59001.out | refine below_set ?_ GE59003.out | refine below_set ?_ GE59006.out) | exact HB.out)⟩⟩
                        · rw [if_neg c36] at H
                          exact absurd H (by simp)
                      · rw [if_neg c35] at H
                        exact absurd H (by simp)
                    · rw [if_neg c33] at H
                      have c33b0 : decide (0 < x3_1) = false := decide_eq_false c33
                      clear c33
                      have H' := Aside0.mk H
                      clear H
                      have hnb80 := NB59003_59001.out
                      have hnc80 := NB59001_59003.out
                      have hcz81_0 : wc.cell? ⟨gb59003, 0, none⟩ = some (.int .i64 ((rd_T64 l0_4 x3_1).f0)) := (blk_cell BK59003.out 0).trans rfl
                      have hcz81_1 : wc.cell? ⟨gb59003, 1, none⟩ = some (.string ((rd_T64 l0_4 x3_1).f1)) := (blk_cell BK59003.out 1).trans rfl
                      have hcz81_2 : wc.cell? ⟨gb59003, 2, none⟩ = some (.int .i64 ((rd_T64 l0_4 x3_1).f2)) := (blk_cell BK59003.out 2).trans rfl
                      have hfz81_0 := blk_frozen BK59003.out 0
                      have hfz81_1 := blk_frozen BK59003.out 1
                      have hfz81_2 := blk_frozen BK59003.out 2
                      go_wp2_with (first | ((with_reducible refine gate_callee (f := 18) rfl ?_); refine goesL_ (some 46) rfl rfl Tryd.func18 (by kernel_rfl) rfl #[.string ((rd_T64 l0_4 x3_1).f1)] rfl (by (try simp only [List.map_toArray, List.map_cons, List.map_nil]); first | done | rfl | (simp only [List.length_drop, List.length_take]; rfl)) ?_; (with_reducible refine (dataflowref07_Ident.calls kj4 ((rd_T64 l0_4 x3_1).f1) true _ A25.out).mono ?_); rintro e w82 ⟨rfl, hb⟩; refine ⟨_, rfl, ?_⟩; have n0_ := Aside0.mk (blk_below (g := gb59001) (o := .cells #[.string a0_0, .slice A0_1 l0_1.length c0_1, .int .i64 a0_2, .int .i64 a0_3, .slice (some ad59002) l0_4.length c0_4] 35 (0, 0)) (by (with_reducible repeat (first | refine blk_drewN ?_ _ | refine blk_drew ?_ | refine blk_alloc ?_ _)); exact BK59001.out) hb); have n1_ := Aside0.mk (blk_below (g := gb59003) (o := .cells #[.int .i64 ((rd_T64 l0_4 x3_1).f0), .string ((rd_T64 l0_4 x3_1).f1), .int .i64 ((rd_T64 l0_4 x3_1).f2)] 64 (0, 0)) (by (with_reducible repeat (first | refine blk_drewN ?_ _ | refine blk_drew ?_ | refine blk_alloc ?_ _)); exact BK59003.out) hb); have n2_ := Aside0.mk (below_step (by repeat (first | (with_reducible first | exact HB.out | apply below_alloc | apply pw_below_drewN | apply below_drew1 | refine below_set ?_ GE59001.out | refine below_set ?_ GE59003.out) | exact HB.out)) hb); clear BK59001; clear BK59003; clear HB; have BK59001 := n0_; have BK59003 := n1_; have HB := n2_; clear n0_ n1_ n2_; (try clear hb); (try clear hb2); (try clear hk); (try clear hi); have hcz83_0 : w82.cell? ⟨gb59003, 0, none⟩ = some (.int .i64 ((rd_T64 l0_4 x3_1).f0)) := (blk_cell BK59003.out 0).trans rfl; have hcz83_1 : w82.cell? ⟨gb59003, 1, none⟩ = some (.string ((rd_T64 l0_4 x3_1).f1)) := (blk_cell BK59003.out 1).trans rfl; have hcz83_2 : w82.cell? ⟨gb59003, 2, none⟩ = some (.int .i64 ((rd_T64 l0_4 x3_1).f2)) := (blk_cell BK59003.out 2).trans rfl; have hfz83_0 := blk_frozen BK59003.out 0; have hfz83_1 := blk_frozen BK59003.out 1; have hfz83_2 := blk_frozen BK59003.out 2; have hcz84_0 : w82.cell? ⟨gb59001, 0, none⟩ = some (.string a0_0) := (blk_cell BK59001.out 0).trans rfl; have hcz84_1 : w82.cell? ⟨gb59001, 1, none⟩ = some (.slice A0_1 l0_1.length c0_1) := (blk_cell BK59001.out 1).trans rfl; have hcz84_2 : w82.cell? ⟨gb59001, 2, none⟩ = some (.int .i64 a0_2) := (blk_cell BK59001.out 2).trans rfl; have hcz84_3 : w82.cell? ⟨gb59001, 3, none⟩ = some (.int .i64 a0_3) := (blk_cell BK59001.out 3).trans rfl; have hcz84_4 : w82.cell? ⟨gb59001, 4, none⟩ = some (.slice (some ad59002) l0_4.length c0_4) := (blk_cell BK59001.out 4).trans rfl; have hfz84_0 := blk_frozen BK59001.out 0; have hfz84_1 := blk_frozen BK59001.out 1; have hfz84_2 := blk_frozen BK59001.out 2; have hfz84_3 := blk_frozen BK59001.out 3; have hfz84_4 := blk_frozen BK59001.out 4))
                      go_roundg kj4
                      case measure => have := HK1.out; have := HJ4.out; omega
                      case rel => exact ⟨(wrap64 (x3_1 + 1)), (by first | rfl | (simp; done) | (simp [*]; done)), H', ⟨by have := HK1.out; have := HJ4.out; omega⟩, ⟨by (with_reducible repeat (first | refine blk_drewN ?_ _ | refine blk_drew ?_ | refine blk_alloc ?_ _)); exact BK59001.out⟩, ⟨by repeat (first | (with_reducible first | exact HB.out | apply below_alloc | apply pw_below_drewN | apply below_drew1 | refine below_set ?_ GE59001.out | refine below_set ?_ GE59003.out) | exact HB.out)⟩⟩
                · replace c26 := Bool.eq_false_iff.mpr c26
                  subst c26
                  have H1 : (some 5) = some r := by rw [if_neg (show ¬ (false = true) by decide)] at H; exact H
                  clear H
                  have H := H1
                  clear H1
                  obtain rfl := Option.some.inj H
                  have hnb85 := NB59003_59001.out
                  have hnc85 := NB59001_59003.out
                  have hcz86_0 : wc.cell? ⟨gb59003, 0, none⟩ = some (.int .i64 ((rd_T64 l0_4 x3_1).f0)) := (blk_cell BK59003.out 0).trans rfl
                  have hcz86_1 : wc.cell? ⟨gb59003, 1, none⟩ = some (.string ((rd_T64 l0_4 x3_1).f1)) := (blk_cell BK59003.out 1).trans rfl
                  have hcz86_2 : wc.cell? ⟨gb59003, 2, none⟩ = some (.int .i64 ((rd_T64 l0_4 x3_1).f2)) := (blk_cell BK59003.out 2).trans rfl
                  have hfz86_0 := blk_frozen BK59003.out 0
                  have hfz86_1 := blk_frozen BK59003.out 1
                  have hfz86_2 := blk_frozen BK59003.out 2
                  go_wp2_with (first | ((with_reducible refine gate_callee (f := 18) rfl ?_); refine goesL_ (some 46) rfl rfl Tryd.func18 (by kernel_rfl) rfl #[.string ((rd_T64 l0_4 x3_1).f1)] rfl (by (try simp only [List.map_toArray, List.map_cons, List.map_nil]); first | done | rfl | (simp only [List.length_drop, List.length_take]; rfl)) ?_; (with_reducible refine (dataflowref07_Ident.calls kj4 ((rd_T64 l0_4 x3_1).f1) false _ A25.out).mono ?_); rintro e w87 ⟨rfl, hb⟩; refine ⟨_, rfl, ?_⟩; have n0_ := Aside0.mk (blk_below (g := gb59001) (o := .cells #[.string a0_0, .slice A0_1 l0_1.length c0_1, .int .i64 a0_2, .int .i64 a0_3, .slice (some ad59002) l0_4.length c0_4] 35 (0, 0)) (by (with_reducible repeat (first | refine blk_drewN ?_ _ | refine blk_drew ?_ | refine blk_alloc ?_ _)); exact BK59001.out) hb); have n1_ := Aside0.mk (blk_below (g := gb59003) (o := .cells #[.int .i64 ((rd_T64 l0_4 x3_1).f0), .string ((rd_T64 l0_4 x3_1).f1), .int .i64 ((rd_T64 l0_4 x3_1).f2)] 64 (0, 0)) (by (with_reducible repeat (first | refine blk_drewN ?_ _ | refine blk_drew ?_ | refine blk_alloc ?_ _)); exact BK59003.out) hb); have n2_ := Aside0.mk (below_step (by repeat (first | (with_reducible first | exact HB.out | apply below_alloc | apply pw_below_drewN | apply below_drew1 | refine below_set ?_ GE59001.out | refine below_set ?_ GE59003.out) | exact HB.out)) hb); clear BK59001; clear BK59003; clear HB; have BK59001 := n0_; have BK59003 := n1_; have HB := n2_; clear n0_ n1_ n2_; (try clear hb); (try clear hb2); (try clear hk); (try clear hi)))
                  go_ret
                  exact ⟨by first | rfl | (simp [errW_none, errW_some] <;> rfl) | (simp [*, errW_none, errW_some] <;> rfl), by repeat (first | (with_reducible first | exact HB.out | apply below_alloc | apply pw_below_drewN | apply below_drew1 | refine below_set ?_ GE59001.out | refine below_set ?_ GE59003.out) | exact HB.out)⟩
        · rw [if_neg c4] at H
          exact absurd H (by simp)
      · rw [if_neg c3] at H
        have c3b0 : decide (x3_1 < (l0_4.length : Int)) = false := decide_eq_false c3
        clear c3
        obtain rfl := Option.some.inj H
        have hcz88_0 : wr.cell? ⟨gb59001, 0, none⟩ = some (.string a0_0) := (blk_cell BK59001.out 0).trans rfl
        have hcz88_1 : wr.cell? ⟨gb59001, 1, none⟩ = some (.slice A0_1 l0_1.length c0_1) := (blk_cell BK59001.out 1).trans rfl
        have hcz88_2 : wr.cell? ⟨gb59001, 2, none⟩ = some (.int .i64 a0_2) := (blk_cell BK59001.out 2).trans rfl
        have hcz88_3 : wr.cell? ⟨gb59001, 3, none⟩ = some (.int .i64 a0_3) := (blk_cell BK59001.out 3).trans rfl
        have hcz88_4 : wr.cell? ⟨gb59001, 4, none⟩ = some (.slice A0_4 l0_4.length c0_4) := (blk_cell BK59001.out 4).trans rfl
        have hfz88_0 := blk_frozen BK59001.out 0
        have hfz88_1 := blk_frozen BK59001.out 1
        have hfz88_2 := blk_frozen BK59001.out 2
        have hfz88_3 := blk_frozen BK59001.out 3
        have hfz88_4 := blk_frozen BK59001.out 4
        go_wp2
        go_ret
        exact ⟨by first | rfl | (simp [errW_none, errW_some] <;> rfl) | (simp [*, errW_none, errW_some] <;> rfl), by repeat (first | (with_reducible first | exact HB.out | apply below_alloc | apply pw_below_drewN | apply below_drew1 | refine below_set ?_ GE59001.out) | exact HB.out)⟩

/-! ### dataflowref39_Check: function 34 -/
mutual
def dataflowref39_Check.j0 : Nat → Bool → ByteArray → List ByteArray → Int → Int → List (S64) → Option (Int)
  | 0, _, _, _, _, _, _ => none
  | k + 1, x17, x35002000, x35002001, x35002002, x35002003, x35002004 => if x17 = true then (some 3) else (if (x35002001.length : Int) = 0 then (some 4) else (dataflowref39_Check.l0 k 0 x35002000 x35002001 x35002002 x35002003 x35002004))
def dataflowref39_Check.l0 : Nat → Int → ByteArray → List ByteArray → Int → Int → List (S64) → Option (Int)
  | 0, _, _, _, _, _, _ => none
  | k + 1, x3, x35002000, x35002001, x35002002, x35002003, x35002004 => if x3 < (x35002001.length : Int) then (if 0 ≤ x3 then ((dataflowref07_Ident.f k (rdOf ByteArray.empty x35002001 x3)).bind fun t35004 => (if t35004 = true then (if x3 ≤ (x35002001.length : Int) then ((dataflowref39_at.f k (x35002001.take (x3 : Int).toNat) (rdOf ByteArray.empty x35002001 x3)).bind fun t35007 => (if t35007 ≥ 0 then (some 7) else (dataflowref39_Check.l0 k (wrap64 (x3 + 1)) x35002000 x35002001 x35002002 x35002003 x35002004))) else (none)) else (some 5))) else (none)) else (if x35002002 < 0 then (dataflowref39_Check.j2 k true x35002000 x35002001 x35002002 x35002003 x35002004) else (if x35002002 ≥ (x35002001.length : Int) then (dataflowref39_Check.j2 k true x35002000 x35002001 x35002002 x35002003 x35002004) else (if x35002003 < 0 then (dataflowref39_Check.j2 k true x35002000 x35002001 x35002002 x35002003 x35002004) else (dataflowref39_Check.j2 k (decide (x35002003 ≥ (x35002001.length : Int))) x35002000 x35002001 x35002002 x35002003 x35002004))))
def dataflowref39_Check.j2 : Nat → Bool → ByteArray → List ByteArray → Int → Int → List (S64) → Option (Int)
  | 0, _, _, _, _, _, _ => none
  | k + 1, x70, x35002000, x35002001, x35002002, x35002003, x35002004 => if x70 = true then (some 4) else (if x35002002 = x35002003 then (some 1) else ((dataflowref39_moves.f k x35002000 x35002001 x35002002 x35002003 x35002004).bind fun t35008 => (some t35008)))
end
def dataflowref39_Check.f (k : Nat) (a0_0 : ByteArray) (l0_1 : List ByteArray) (a0_2 : Int) (a0_3 : Int) (l0_4 : List (S64)) : Option (Int) := (dataflowref07_Ident.f k a0_0).bind fun t35002 => (if t35002 = true then (if (l0_1.length : Int) > 16 then (dataflowref39_Check.j0 k true a0_0 l0_1 a0_2 a0_3 l0_4) else (dataflowref39_Check.j0 k (decide ((l0_4.length : Int) > 256)) a0_0 l0_1 a0_2 a0_3 l0_4)) else (some 5))
theorem dataflowref39_Check.mono_l : ∀ k, (∀ y0 y1 y2 y3 y4 y5, LeO (dataflowref39_Check.j0 k y0 y1 y2 y3 y4 y5) (dataflowref39_Check.j0 (k + 1) y0 y1 y2 y3 y4 y5)) ∧ (∀ y0 y1 y2 y3 y4 y5, LeO (dataflowref39_Check.l0 k y0 y1 y2 y3 y4 y5) (dataflowref39_Check.l0 (k + 1) y0 y1 y2 y3 y4 y5)) ∧ (∀ y0 y1 y2 y3 y4 y5, LeO (dataflowref39_Check.j2 k y0 y1 y2 y3 y4 y5) (dataflowref39_Check.j2 (k + 1) y0 y1 y2 y3 y4 y5))
  | 0 => ⟨fun _ _ _ _ _ _ r h => by simp [dataflowref39_Check.j0] at h, fun _ _ _ _ _ _ r h => by simp [dataflowref39_Check.l0] at h, fun _ _ _ _ _ _ r h => by simp [dataflowref39_Check.j2] at h⟩
  | k + 1 => by
    obtain ⟨ih0, ih1, ih2⟩ := dataflowref39_Check.mono_l k
    refine ⟨?_, ?_, ?_⟩
    · intro y0 y1 y2 y3 y4 y5
      unfold dataflowref39_Check.j0
      repeat' first
      | (with_reducible exact ih0 _ _ _ _ _ _)
      | (with_reducible exact ih1 _ _ _ _ _ _)
      | (with_reducible exact ih2 _ _ _ _ _ _)
      | (with_reducible exact dataflowref07_Ident.mono _ _)
      | (with_reducible exact dataflowref39_at.mono _ _ _)
      | (with_reducible exact dataflowref39_moves.mono _ _ _ _ _ _)
      | (with_reducible exact LeO.refl _)
      | (with_reducible exact LeO.none _)
      | (with_reducible refine LeO.ite ?_ ?_)
      | (with_reducible refine LeO.bind ?_ (fun _ => ?_))
      | exact ih0 _ _ _ _ _ _
      | exact ih1 _ _ _ _ _ _
      | exact ih2 _ _ _ _ _ _
      | exact dataflowref07_Ident.mono _ _
      | exact dataflowref39_at.mono _ _ _
      | exact dataflowref39_moves.mono _ _ _ _ _ _
      | exact LeO.none _
      | refine LeO.ite ?_ ?_
      | refine LeO.bind ?_ (fun _ => ?_)
    · intro y0 y1 y2 y3 y4 y5
      unfold dataflowref39_Check.l0
      repeat' first
      | (with_reducible exact ih0 _ _ _ _ _ _)
      | (with_reducible exact ih1 _ _ _ _ _ _)
      | (with_reducible exact ih2 _ _ _ _ _ _)
      | (with_reducible exact dataflowref07_Ident.mono _ _)
      | (with_reducible exact dataflowref39_at.mono _ _ _)
      | (with_reducible exact dataflowref39_moves.mono _ _ _ _ _ _)
      | (with_reducible exact LeO.refl _)
      | (with_reducible exact LeO.none _)
      | (with_reducible refine LeO.ite ?_ ?_)
      | (with_reducible refine LeO.bind ?_ (fun _ => ?_))
      | exact ih0 _ _ _ _ _ _
      | exact ih1 _ _ _ _ _ _
      | exact ih2 _ _ _ _ _ _
      | exact dataflowref07_Ident.mono _ _
      | exact dataflowref39_at.mono _ _ _
      | exact dataflowref39_moves.mono _ _ _ _ _ _
      | exact LeO.none _
      | refine LeO.ite ?_ ?_
      | refine LeO.bind ?_ (fun _ => ?_)
    · intro y0 y1 y2 y3 y4 y5
      unfold dataflowref39_Check.j2
      repeat' first
      | (with_reducible exact ih0 _ _ _ _ _ _)
      | (with_reducible exact ih1 _ _ _ _ _ _)
      | (with_reducible exact ih2 _ _ _ _ _ _)
      | (with_reducible exact dataflowref07_Ident.mono _ _)
      | (with_reducible exact dataflowref39_at.mono _ _ _)
      | (with_reducible exact dataflowref39_moves.mono _ _ _ _ _ _)
      | (with_reducible exact LeO.refl _)
      | (with_reducible exact LeO.none _)
      | (with_reducible refine LeO.ite ?_ ?_)
      | (with_reducible refine LeO.bind ?_ (fun _ => ?_))
      | exact ih0 _ _ _ _ _ _
      | exact ih1 _ _ _ _ _ _
      | exact ih2 _ _ _ _ _ _
      | exact dataflowref07_Ident.mono _ _
      | exact dataflowref39_at.mono _ _ _
      | exact dataflowref39_moves.mono _ _ _ _ _ _
      | exact LeO.none _
      | refine LeO.ite ?_ ?_
      | refine LeO.bind ?_ (fun _ => ?_)
theorem dataflowref39_Check.mono : ∀ a0 a1 a2 a3 a4 k, LeO (dataflowref39_Check.f k a0 a1 a2 a3 a4) (dataflowref39_Check.f (k + 1) a0 a1 a2 a3 a4) := by
  intro a0 a1 a2 a3 a4 k
  obtain ⟨ih0, ih1, ih2⟩ := dataflowref39_Check.mono_l k
  unfold dataflowref39_Check.f
  repeat' first
      | (with_reducible exact ih0 _ _ _ _ _ _)
      | (with_reducible exact ih1 _ _ _ _ _ _)
      | (with_reducible exact ih2 _ _ _ _ _ _)
      | (with_reducible exact dataflowref07_Ident.mono _ _)
      | (with_reducible exact dataflowref39_at.mono _ _ _)
      | (with_reducible exact dataflowref39_moves.mono _ _ _ _ _ _)
      | (with_reducible exact LeO.refl _)
      | (with_reducible exact LeO.none _)
      | (with_reducible refine LeO.ite ?_ ?_)
      | (with_reducible refine LeO.bind ?_ (fun _ => ?_))
      | exact ih0 _ _ _ _ _ _
      | exact ih1 _ _ _ _ _ _
      | exact ih2 _ _ _ _ _ _
      | exact dataflowref07_Ident.mono _ _
      | exact dataflowref39_at.mono _ _ _
      | exact dataflowref39_moves.mono _ _ _ _ _ _
      | exact LeO.none _
      | refine LeO.ite ?_ ?_
      | refine LeO.bind ?_ (fun _ => ?_)
set_option maxHeartbeats 8000000 in
set_option maxRecDepth 100000 in
theorem dataflowref39_Check.calls (k : Nat) (a0_0 : ByteArray) (A0_1 : Option Addr) (c0_1 : Nat) (l0_1 : List ByteArray) (a0_2 : Int) (a0_3 : Int) (A0_4 : Option Addr) (c0_4 : Nat) (l0_4 : List (S64)) (r : Int) (w : World) (hr0_1 : Kd.C Kd.string w A0_1 l0_1.length l0_1) (hc0_1 : l0_1.length ≤ c0_1) (hr0_4 : Kd.C k64 w A0_4 l0_4.length l0_4) (hc0_4 : l0_4.length ≤ c0_4) (h : dataflowref39_Check.f k a0_0 l0_1 a0_2 a0_3 l0_4 = some r) :
    Calls Tryd.prog 34 #[.agg #[.string a0_0, .slice A0_1 l0_1.length c0_1, .int .i64 a0_2, .int .i64 a0_3, .slice A0_4 l0_4.length c0_4]] w fun e w' => e = .returned (.int .i64 r) ∧ Below w.heap.size w w' := by
  have hu35 := Tryd.underlying35
  have HR0_1 := Aside0.mk hr0_1
  have HC0_1 := Aside0.mk hc0_1
  clear hr0_1 hc0_1
  have HR0_4 := Aside0.mk hr0_4
  have HC0_4 := Aside0.mk hc0_4
  clear hr0_4 hc0_4
  have HB := Aside0.mk (Below.refl w.heap.size w)
  have H : ((dataflowref07_Ident.f k a0_0).bind fun t35002 => (if t35002 = true then (if (l0_1.length : Int) > 16 then (dataflowref39_Check.j0 k true a0_0 l0_1 a0_2 a0_3 l0_4) else (dataflowref39_Check.j0 k (decide ((l0_4.length : Int) > 256)) a0_0 l0_1 a0_2 a0_3 l0_4)) else (some 5))) = some r := h
  clear h
  replace H := Option.bind_eq_some_iff.mp H
  obtain ⟨t35002, A20, H⟩ := H
  replace H : (if t35002 = true then (if (l0_1.length : Int) > 16 then (dataflowref39_Check.j0 k true a0_0 l0_1 a0_2 a0_3 l0_4) else (dataflowref39_Check.j0 k (decide ((l0_4.length : Int) > 256)) a0_0 l0_1 a0_2 a0_3 l0_4)) else (some 5)) = some r := H
  have A2 := Aside0.mk A20
  clear A20
  by_cases c3 : t35002 = true
  · subst c3
    have H1 : (if (l0_1.length : Int) > 16 then (dataflowref39_Check.j0 k true a0_0 l0_1 a0_2 a0_3 l0_4) else (dataflowref39_Check.j0 k (decide ((l0_4.length : Int) > 256)) a0_0 l0_1 a0_2 a0_3 l0_4)) = some r := by rw [if_pos rfl] at H; exact H
    clear H
    have H := H1
    clear H1
    have HC4 := Aside0.mk H
    clear H
    go_enter Tryd.func34, Tryd.ntmps34
    go_upto_region 3 with (first | ((with_reducible refine gate_dst (N := 1) rfl ?_); (try (refine gate_guard (by rfl) ?_; dsimp only)); refine box_event ?hg (N := 1) ?hd (cs := #[.string a0_0, .slice A0_1 l0_1.length c0_1, .int .i64 a0_2, .int .i64 a0_3, .slice A0_4 l0_4.length c0_4]) (t := 35) ?hr ?_; (case hd => rfl); (case hg => rfl); (case hr => first | (go_simp; done) | (go_simp; rfl)); intro gb35001 hg w5 hbox hb; have n0_ := Aside0.mk (below_step (by repeat (first | (with_reducible first | exact HB.out | apply below_alloc | apply pw_below_drewN | apply below_drew1) | exact HB.out)) hb); have n1_ := Aside0.mk (hbox); have n2_ := Aside0.mk ((by rw [hg]; exact (below_size (by repeat (first | (with_reducible first | exact HB.out | apply below_alloc | apply pw_below_drewN | apply below_drew1) | exact HB.out))) : w.heap.size ≤ gb35001)); have n3_ := Aside0.mk ((by rw [hg]; exact (below_size (by repeat (first | (with_reducible first | exact HB.out | apply below_alloc | apply pw_below_drewN | apply below_drew1) | exact HB.out))) : w.heap.size ≤ gb35001)); clear HB; have HB := n0_; have BK35001 := n1_; have GW35001 := n2_; have GE35001 := n3_; clear n0_ n1_ n2_ n3_; clear hb hbox hg; have hcz6_0 : w5.cell? ⟨gb35001, 0, none⟩ = some (.string a0_0) := (blk_cell BK35001.out 0).trans rfl; have hcz6_1 : w5.cell? ⟨gb35001, 1, none⟩ = some (.slice A0_1 l0_1.length c0_1) := (blk_cell BK35001.out 1).trans rfl; have hcz6_2 : w5.cell? ⟨gb35001, 2, none⟩ = some (.int .i64 a0_2) := (blk_cell BK35001.out 2).trans rfl; have hcz6_3 : w5.cell? ⟨gb35001, 3, none⟩ = some (.int .i64 a0_3) := (blk_cell BK35001.out 3).trans rfl; have hcz6_4 : w5.cell? ⟨gb35001, 4, none⟩ = some (.slice A0_4 l0_4.length c0_4) := (blk_cell BK35001.out 4).trans rfl; have hfz6_0 := blk_frozen BK35001.out 0; have hfz6_1 := blk_frozen BK35001.out 1; have hfz6_2 := blk_frozen BK35001.out 2; have hfz6_3 := blk_frozen BK35001.out 3; have hfz6_4 := blk_frozen BK35001.out 4) | (go_at_call 18; (with_reducible refine (dataflowref07_Ident.calls k a0_0 true _ A2.out).mono ?_); rintro e w7 ⟨rfl, hb⟩; have n0_ := Aside0.mk (blk_below (g := gb35001) (o := .cells #[.string a0_0, .slice A0_1 l0_1.length c0_1, .int .i64 a0_2, .int .i64 a0_3, .slice A0_4 l0_4.length c0_4] 35 (0, 0)) (by (with_reducible repeat (first | refine blk_drewN ?_ _ | refine blk_drew ?_ | refine blk_alloc ?_ _)); exact BK35001.out) hb); have n1_ := Aside0.mk (below_step (by repeat (first | (with_reducible first | exact HB.out | apply below_alloc | apply pw_below_drewN | apply below_drew1 | refine below_set ?_ GE35001.out) | exact HB.out)) hb); clear BK35001; clear HB; have BK35001 := n0_; have HB := n1_; clear n0_ n1_; (try clear hb); (try clear hb2); (try clear hk); (try clear hi)))
    repeat (go_quiet (first | ((with_reducible refine gate_dst (N := 1) rfl ?_); (try (refine gate_guard (by rfl) ?_; dsimp only)); refine box_event ?hg (N := 1) ?hd (cs := #[.string a0_0, .slice A0_1 l0_1.length c0_1, .int .i64 a0_2, .int .i64 a0_3, .slice A0_4 l0_4.length c0_4]) (t := 35) ?hr ?_; (case hd => rfl); (case hg => rfl); (case hr => first | (go_simp; done) | (go_simp; rfl)); intro gb35001 hg w5 hbox hb; have n0_ := Aside0.mk (below_step (by repeat (first | (with_reducible first | exact HB.out | apply below_alloc | apply pw_below_drewN | apply below_drew1) | exact HB.out)) hb); have n1_ := Aside0.mk (hbox); have n2_ := Aside0.mk ((by rw [hg]; exact (below_size (by repeat (first | (with_reducible first | exact HB.out | apply below_alloc | apply pw_below_drewN | apply below_drew1) | exact HB.out))) : w.heap.size ≤ gb35001)); have n3_ := Aside0.mk ((by rw [hg]; exact (below_size (by repeat (first | (with_reducible first | exact HB.out | apply below_alloc | apply pw_below_drewN | apply below_drew1) | exact HB.out))) : w.heap.size ≤ gb35001)); clear HB; have HB := n0_; have BK35001 := n1_; have GW35001 := n2_; have GE35001 := n3_; clear n0_ n1_ n2_ n3_; clear hb hbox hg; have hcz6_0 : w5.cell? ⟨gb35001, 0, none⟩ = some (.string a0_0) := (blk_cell BK35001.out 0).trans rfl; have hcz6_1 : w5.cell? ⟨gb35001, 1, none⟩ = some (.slice A0_1 l0_1.length c0_1) := (blk_cell BK35001.out 1).trans rfl; have hcz6_2 : w5.cell? ⟨gb35001, 2, none⟩ = some (.int .i64 a0_2) := (blk_cell BK35001.out 2).trans rfl; have hcz6_3 : w5.cell? ⟨gb35001, 3, none⟩ = some (.int .i64 a0_3) := (blk_cell BK35001.out 3).trans rfl; have hcz6_4 : w5.cell? ⟨gb35001, 4, none⟩ = some (.slice A0_4 l0_4.length c0_4) := (blk_cell BK35001.out 4).trans rfl; have hfz6_0 := blk_frozen BK35001.out 0; have hfz6_1 := blk_frozen BK35001.out 1; have hfz6_2 := blk_frozen BK35001.out 2; have hfz6_3 := blk_frozen BK35001.out 3; have hfz6_4 := blk_frozen BK35001.out 4) | (go_at_call 18; (with_reducible refine (dataflowref07_Ident.calls k a0_0 true _ A2.out).mono ?_); rintro e w7 ⟨rfl, hb⟩; have n0_ := Aside0.mk (blk_below (g := gb35001) (o := .cells #[.string a0_0, .slice A0_1 l0_1.length c0_1, .int .i64 a0_2, .int .i64 a0_3, .slice A0_4 l0_4.length c0_4] 35 (0, 0)) (by (with_reducible repeat (first | refine blk_drewN ?_ _ | refine blk_drew ?_ | refine blk_alloc ?_ _)); exact BK35001.out) hb); have n1_ := Aside0.mk (below_step (by repeat (first | (with_reducible first | exact HB.out | apply below_alloc | apply pw_below_drewN | apply below_drew1 | refine below_set ?_ GE35001.out) | exact HB.out)) hb); clear BK35001; clear HB; have BK35001 := n0_; have HB := n1_; clear n0_ n1_; (try clear hb); (try clear hb2); (try clear hk); (try clear hi))); go_upto_region 3 with (first | ((with_reducible refine gate_dst (N := 1) rfl ?_); (try (refine gate_guard (by rfl) ?_; dsimp only)); refine box_event ?hg (N := 1) ?hd (cs := #[.string a0_0, .slice A0_1 l0_1.length c0_1, .int .i64 a0_2, .int .i64 a0_3, .slice A0_4 l0_4.length c0_4]) (t := 35) ?hr ?_; (case hd => rfl); (case hg => rfl); (case hr => first | (go_simp; done) | (go_simp; rfl)); intro gb35001 hg w5 hbox hb; have n0_ := Aside0.mk (below_step (by repeat (first | (with_reducible first | exact HB.out | apply below_alloc | apply pw_below_drewN | apply below_drew1) | exact HB.out)) hb); have n1_ := Aside0.mk (hbox); have n2_ := Aside0.mk ((by rw [hg]; exact (below_size (by repeat (first | (with_reducible first | exact HB.out | apply below_alloc | apply pw_below_drewN | apply below_drew1) | exact HB.out))) : w.heap.size ≤ gb35001)); have n3_ := Aside0.mk ((by rw [hg]; exact (below_size (by repeat (first | (with_reducible first | exact HB.out | apply below_alloc | apply pw_below_drewN | apply below_drew1) | exact HB.out))) : w.heap.size ≤ gb35001)); clear HB; have HB := n0_; have BK35001 := n1_; have GW35001 := n2_; have GE35001 := n3_; clear n0_ n1_ n2_ n3_; clear hb hbox hg; have hcz6_0 : w5.cell? ⟨gb35001, 0, none⟩ = some (.string a0_0) := (blk_cell BK35001.out 0).trans rfl; have hcz6_1 : w5.cell? ⟨gb35001, 1, none⟩ = some (.slice A0_1 l0_1.length c0_1) := (blk_cell BK35001.out 1).trans rfl; have hcz6_2 : w5.cell? ⟨gb35001, 2, none⟩ = some (.int .i64 a0_2) := (blk_cell BK35001.out 2).trans rfl; have hcz6_3 : w5.cell? ⟨gb35001, 3, none⟩ = some (.int .i64 a0_3) := (blk_cell BK35001.out 3).trans rfl; have hcz6_4 : w5.cell? ⟨gb35001, 4, none⟩ = some (.slice A0_4 l0_4.length c0_4) := (blk_cell BK35001.out 4).trans rfl; have hfz6_0 := blk_frozen BK35001.out 0; have hfz6_1 := blk_frozen BK35001.out 1; have hfz6_2 := blk_frozen BK35001.out 2; have hfz6_3 := blk_frozen BK35001.out 3; have hfz6_4 := blk_frozen BK35001.out 4) | (go_at_call 18; (with_reducible refine (dataflowref07_Ident.calls k a0_0 true _ A2.out).mono ?_); rintro e w7 ⟨rfl, hb⟩; have n0_ := Aside0.mk (blk_below (g := gb35001) (o := .cells #[.string a0_0, .slice A0_1 l0_1.length c0_1, .int .i64 a0_2, .int .i64 a0_3, .slice A0_4 l0_4.length c0_4] 35 (0, 0)) (by (with_reducible repeat (first | refine blk_drewN ?_ _ | refine blk_drew ?_ | refine blk_alloc ?_ _)); exact BK35001.out) hb); have n1_ := Aside0.mk (below_step (by repeat (first | (with_reducible first | exact HB.out | apply below_alloc | apply pw_below_drewN | apply below_drew1 | refine below_set ?_ GE35001.out) | exact HB.out)) hb); clear BK35001; clear HB; have BK35001 := n0_; have HB := n1_; clear n0_ n1_; (try clear hb); (try clear hb2); (try clear hk); (try clear hi))))
    (try simp only [Act.put, List.setIfInBounds_toArray, List.set_cons_zero, List.set_cons_succ])
    go_cut [17] (fun v17 wc => ∃ (kq : Nat) (x17_3 : Bool), v17 = .bool x17_3 ∧ Aside0 (dataflowref39_Check.j0 kq x17_3 a0_0 l0_1 a0_2 a0_3 l0_4 = some r) ∧ Aside0 (kq ≤ k) ∧ Aside0 (wc.heap[gb35001]? = some (.cells #[.string a0_0, (.slice A0_1 l0_1.length c0_1), .int .i64 a0_2, .int .i64 a0_3, (.slice A0_4 l0_4.length c0_4)] 35 (0, 0))) ∧ Aside0 (Below w.heap.size w wc))
    case first =>
      have H := HC4.out
      clear HC4
      by_cases c8 : (l0_1.length : Int) > 16
      · rw [if_pos c8] at H
        have c8b0 : decide (16 < (l0_1.length : Int)) = true := decide_eq_true c8
        have c8b1 : decide (16 < l0_1.length) = true := decide_eq_true (by omega)
        clear c8
        (first | rw [c8b0] | (simp only [i64_w, i32_w]; rw [c8b0]) | skip)
        have H' := Aside0.mk H
        clear H
        have hcz9_0 : w7.cell? ⟨gb35001, 0, none⟩ = some (.string a0_0) := (blk_cell BK35001.out 0).trans rfl
        have hcz9_1 : w7.cell? ⟨gb35001, 1, none⟩ = some (.slice A0_1 l0_1.length c0_1) := (blk_cell BK35001.out 1).trans rfl
        have hcz9_2 : w7.cell? ⟨gb35001, 2, none⟩ = some (.int .i64 a0_2) := (blk_cell BK35001.out 2).trans rfl
        have hcz9_3 : w7.cell? ⟨gb35001, 3, none⟩ = some (.int .i64 a0_3) := (blk_cell BK35001.out 3).trans rfl
        have hcz9_4 : w7.cell? ⟨gb35001, 4, none⟩ = some (.slice A0_4 l0_4.length c0_4) := (blk_cell BK35001.out 4).trans rfl
        have hfz9_0 := blk_frozen BK35001.out 0
        have hfz9_1 := blk_frozen BK35001.out 1
        have hfz9_2 := blk_frozen BK35001.out 2
        have hfz9_3 := blk_frozen BK35001.out 3
        have hfz9_4 := blk_frozen BK35001.out 4
        go_wp2
        repeat (go_quiet (fail); try go_wp2)
        go_meet
        case rel => exact ⟨_, (true), (by first | rfl | (simp; done) | (simp [*]; done)), H', ⟨by first | omega | exact Nat.le_refl _⟩, ⟨by (with_reducible repeat (first | refine blk_drewN ?_ _ | refine blk_drew ?_ | refine blk_alloc ?_ _)); exact BK35001.out⟩, ⟨by repeat (first | (with_reducible first | exact HB.out | apply below_alloc | apply pw_below_drewN | apply below_drew1 | refine below_set ?_ GE35001.out) | exact HB.out)⟩⟩
      · rw [if_neg c8] at H
        have c8b0 : decide (16 < (l0_1.length : Int)) = false := decide_eq_false c8
        have c8b1 : decide (16 < l0_1.length) = false := decide_eq_false (by omega)
        clear c8
        (first | rw [c8b0] | (simp only [i64_w, i32_w]; rw [c8b0]) | skip)
        have H' := Aside0.mk H
        clear H
        have hcz10_0 : w7.cell? ⟨gb35001, 0, none⟩ = some (.string a0_0) := (blk_cell BK35001.out 0).trans rfl
        have hcz10_1 : w7.cell? ⟨gb35001, 1, none⟩ = some (.slice A0_1 l0_1.length c0_1) := (blk_cell BK35001.out 1).trans rfl
        have hcz10_2 : w7.cell? ⟨gb35001, 2, none⟩ = some (.int .i64 a0_2) := (blk_cell BK35001.out 2).trans rfl
        have hcz10_3 : w7.cell? ⟨gb35001, 3, none⟩ = some (.int .i64 a0_3) := (blk_cell BK35001.out 3).trans rfl
        have hcz10_4 : w7.cell? ⟨gb35001, 4, none⟩ = some (.slice A0_4 l0_4.length c0_4) := (blk_cell BK35001.out 4).trans rfl
        have hfz10_0 := blk_frozen BK35001.out 0
        have hfz10_1 := blk_frozen BK35001.out 1
        have hfz10_2 := blk_frozen BK35001.out 2
        have hfz10_3 := blk_frozen BK35001.out 3
        have hfz10_4 := blk_frozen BK35001.out 4
        go_wp2
        repeat (go_quiet (fail); try go_wp2)
        go_meet
        case rel => exact ⟨_, (decide ((l0_4.length : Int) > 256)), (by first | rfl | (simp; done) | (simp [*]; done)), H', ⟨by first | omega | exact Nat.le_refl _⟩, ⟨by (with_reducible repeat (first | refine blk_drewN ?_ _ | refine blk_drew ?_ | refine blk_alloc ?_ _)); exact BK35001.out⟩, ⟨by repeat (first | (with_reducible first | exact HB.out | apply below_alloc | apply pw_below_drewN | apply below_drew1 | refine below_set ?_ GE35001.out) | exact HB.out)⟩⟩
    case rest =>
      clear HC4
      try clear p2
      try clear c3
      try clear c8
      try clear c8b0
      try clear c8b1
      try clear hcz10_0
      try clear hcz10_1
      try clear hcz10_2
      try clear hcz10_3
      try clear hcz10_4
      try clear hcz6_0
      try clear hcz6_1
      try clear hcz6_2
      try clear hcz6_3
      try clear hcz6_4
      try clear hcz9_0
      try clear hcz9_1
      try clear hcz9_2
      try clear hcz9_3
      try clear hcz9_4
      try clear hfz10_0
      try clear hfz10_1
      try clear hfz10_2
      try clear hfz10_3
      try clear hfz10_4
      try clear hfz6_0
      try clear hfz6_1
      try clear hfz6_2
      try clear hfz6_3
      try clear hfz6_4
      try clear hfz9_0
      try clear hfz9_1
      try clear hfz9_2
      try clear hfz9_3
      try clear hfz9_4
      obtain ⟨kq, x17_3, rfl, HA, HJ3, BK35001, HB⟩ := hcut
      cases kq with
      | zero => exact absurd HA.out (by simp [dataflowref39_Check.j0])
      | succ kj3 =>
        have H := HA.out
        clear HA
        simp only [dataflowref39_Check.j0] at H
        by_cases c11 : x17_3 = true
        · subst c11
          have H1 : (some 3) = some r := by rw [if_pos rfl] at H; exact H
          clear H
          have H := H1
          clear H1
          obtain rfl := Option.some.inj H
          go_wp2
          repeat (go_quiet (fail); try go_wp2)
          go_ret
          exact ⟨by first | rfl | (simp [errW_none, errW_some] <;> rfl) | (simp [*, errW_none, errW_some] <;> rfl), by repeat (first | (with_reducible first | exact HB.out | apply below_alloc | apply pw_below_drewN | apply below_drew1 | refine below_set ?_ GE35001.out) | exact HB.out)⟩
        · replace c11 := Bool.eq_false_iff.mpr c11
          subst c11
          have H1 : (if (l0_1.length : Int) = 0 then (some 4) else (dataflowref39_Check.l0 kj3 0 a0_0 l0_1 a0_2 a0_3 l0_4)) = some r := by rw [if_neg (show ¬ (false = true) by decide)] at H; exact H
          clear H
          have H := H1
          clear H1
          by_cases c12 : (l0_1.length : Int) = 0
          · rw [if_pos c12] at H
            have c12b0 : ((l0_1.length : Int) == 0) = true := beq_iff_eq.mpr c12
            have c12b1 : ((l0_1.length : Int) != 0) = false := bne_eq_false_iff_eq.mpr c12
            clear c12
            obtain rfl := Option.some.inj H
            have hcz13_0 : wc.cell? ⟨gb35001, 0, none⟩ = some (.string a0_0) := (blk_cell BK35001.out 0).trans rfl
            have hcz13_1 : wc.cell? ⟨gb35001, 1, none⟩ = some (.slice A0_1 l0_1.length c0_1) := (blk_cell BK35001.out 1).trans rfl
            have hcz13_2 : wc.cell? ⟨gb35001, 2, none⟩ = some (.int .i64 a0_2) := (blk_cell BK35001.out 2).trans rfl
            have hcz13_3 : wc.cell? ⟨gb35001, 3, none⟩ = some (.int .i64 a0_3) := (blk_cell BK35001.out 3).trans rfl
            have hcz13_4 : wc.cell? ⟨gb35001, 4, none⟩ = some (.slice A0_4 l0_4.length c0_4) := (blk_cell BK35001.out 4).trans rfl
            have hfz13_0 := blk_frozen BK35001.out 0
            have hfz13_1 := blk_frozen BK35001.out 1
            have hfz13_2 := blk_frozen BK35001.out 2
            have hfz13_3 := blk_frozen BK35001.out 3
            have hfz13_4 := blk_frozen BK35001.out 4
            go_wp2
            repeat (go_quiet (fail); try go_wp2)
            go_ret
            exact ⟨by first | rfl | (simp [errW_none, errW_some] <;> rfl) | (simp [*, errW_none, errW_some] <;> rfl), by repeat (first | (with_reducible first | exact HB.out | apply below_alloc | apply pw_below_drewN | apply below_drew1 | refine below_set ?_ GE35001.out) | exact HB.out)⟩
          · rw [if_neg c12] at H
            have c12b0 : ((l0_1.length : Int) == 0) = false := beq_eq_false_iff_ne.mpr c12
            have c12b1 : ((l0_1.length : Int) != 0) = true := bne_iff_ne.mpr c12
            have c12b2 : ¬ (l0_1 = []) := fun h_ => c12 (by rw [h_]; rfl)
            have H' := Aside0.mk H
            clear H
            have hcz14_0 : wc.cell? ⟨gb35001, 0, none⟩ = some (.string a0_0) := (blk_cell BK35001.out 0).trans rfl
            have hcz14_1 : wc.cell? ⟨gb35001, 1, none⟩ = some (.slice A0_1 l0_1.length c0_1) := (blk_cell BK35001.out 1).trans rfl
            have hcz14_2 : wc.cell? ⟨gb35001, 2, none⟩ = some (.int .i64 a0_2) := (blk_cell BK35001.out 2).trans rfl
            have hcz14_3 : wc.cell? ⟨gb35001, 3, none⟩ = some (.int .i64 a0_3) := (blk_cell BK35001.out 3).trans rfl
            have hcz14_4 : wc.cell? ⟨gb35001, 4, none⟩ = some (.slice A0_4 l0_4.length c0_4) := (blk_cell BK35001.out 4).trans rfl
            have hfz14_0 := blk_frozen BK35001.out 0
            have hfz14_1 := blk_frozen BK35001.out 1
            have hfz14_2 := blk_frozen BK35001.out 2
            have hfz14_3 := blk_frozen BK35001.out 3
            have hfz14_4 := blk_frozen BK35001.out 4
            go_wp2
            repeat (go_quiet (fail); try go_wp2)
            go_loopg [3] kj3 (fun kq v3 w' => ∃ (x3_2 : Int), v3 = .int .i64 x3_2 ∧ Aside0 (dataflowref39_Check.l0 kq x3_2 a0_0 l0_1 a0_2 a0_3 l0_4 = some r) ∧ Aside0 (kq ≤ kj3) ∧ Aside0 (w'.heap[gb35001]? = some (.cells #[.string a0_0, (.slice A0_1 l0_1.length c0_1), .int .i64 a0_2, .int .i64 a0_3, (.slice A0_4 l0_4.length c0_4)] 35 (0, 0))) ∧ Aside0 (Below w.heap.size w w'))
            case atStart => exact ⟨(0), (by first | rfl | (simp; done) | (simp [*]; done)), H', ⟨Nat.le_refl _⟩, ⟨by (with_reducible repeat (first | refine blk_drewN ?_ _ | refine blk_drew ?_ | refine blk_alloc ?_ _)); exact BK35001.out⟩, ⟨by repeat (first | (with_reducible first | exact HB.out | apply below_alloc | apply pw_below_drewN | apply below_drew1 | refine below_set ?_ GE35001.out) | exact HB.out)⟩⟩
            case round =>
              clear H'
              try clear c1
              try clear p2
              try clear c3
              try clear c8
              try clear c8b0
              try clear c8b1
              try clear c11
              try clear c12
              try clear c12b0
              try clear c12b1
              try clear c12b2
              try clear hcz10_0
              try clear hcz10_1
              try clear hcz10_2
              try clear hcz10_3
              try clear hcz10_4
              try clear hcz13_0
              try clear hcz13_1
              try clear hcz13_2
              try clear hcz13_3
              try clear hcz13_4
              try clear hcz14_0
              try clear hcz14_1
              try clear hcz14_2
              try clear hcz14_3
              try clear hcz14_4
              try clear hcz6_0
              try clear hcz6_1
              try clear hcz6_2
              try clear hcz6_3
              try clear hcz6_4
              try clear hcz9_0
              try clear hcz9_1
              try clear hcz9_2
              try clear hcz9_3
              try clear hcz9_4
              try clear hfz10_0
              try clear hfz10_1
              try clear hfz10_2
              try clear hfz10_3
              try clear hfz10_4
              try clear hfz13_0
              try clear hfz13_1
              try clear hfz13_2
              try clear hfz13_3
              try clear hfz13_4
              try clear hfz14_0
              try clear hfz14_1
              try clear hfz14_2
              try clear hfz14_3
              try clear hfz14_4
              try clear hfz6_0
              try clear hfz6_1
              try clear hfz6_2
              try clear hfz6_3
              try clear hfz6_4
              try clear hfz9_0
              try clear hfz9_1
              try clear hfz9_2
              try clear hfz9_3
              try clear hfz9_4
              try clear p2
              obtain ⟨x3_2, rfl, HA, HK2, BK35001, HB⟩ := hrel
              cases gk with
              | zero => exact absurd HA.out (by simp [dataflowref39_Check.l0])
              | succ k2 =>
                have H := HA.out
                clear HA
                simp only [dataflowref39_Check.l0] at H
                by_cases c15 : x3_2 < (l0_1.length : Int)
                · rw [if_pos c15] at H
                  have c15b0 : decide (x3_2 < (l0_1.length : Int)) = true := decide_eq_true c15
                  clear c15
                  by_cases c16 : 0 ≤ x3_2
                  · rw [if_pos c16] at H
                    have c16b0 : decide (0 ≤ x3_2) = true := decide_eq_true c16
                    clear c16
                    replace H := Option.bind_eq_some_iff.mp H
                    obtain ⟨t35004, A170, H⟩ := H
                    replace H : (if t35004 = true then (if x3_2 ≤ (l0_1.length : Int) then ((dataflowref39_at.f k2 (l0_1.take (x3_2 : Int).toNat) (rdOf ByteArray.empty l0_1 x3_2)).bind fun t35007 => (if t35007 ≥ 0 then (some 7) else (dataflowref39_Check.l0 k2 (wrap64 (x3_2 + 1)) a0_0 l0_1 a0_2 a0_3 l0_4))) else (none)) else (some 5)) = some r := H
                    have A17 := Aside0.mk A170
                    clear A170
                    by_cases c18 : t35004 = true
                    · subst c18
                      have H1 : (if x3_2 ≤ (l0_1.length : Int) then ((dataflowref39_at.f k2 (l0_1.take (x3_2 : Int).toNat) (rdOf ByteArray.empty l0_1 x3_2)).bind fun t35007 => (if t35007 ≥ 0 then (some 7) else (dataflowref39_Check.l0 k2 (wrap64 (x3_2 + 1)) a0_0 l0_1 a0_2 a0_3 l0_4))) else (none)) = some r := by rw [if_pos rfl] at H; exact H
                      clear H
                      have H := H1
                      clear H1
                      have c19b0 := eq_true (of_decide_eq_true (by first | (with_reducible assumption) | assumption) : 0 ≤ x3_2)
                      by_cases c20 : x3_2 ≤ (l0_1.length : Int)
                      · rw [if_pos c20] at H
                        have c20b0 := eq_true c20
                        have c20b1 : decide (x3_2 ≤ (l0_1.length : Int)) = true := decide_eq_true c20
                        clear c20
                        replace H := Option.bind_eq_some_iff.mp H
                        obtain ⟨t35007, A210, H⟩ := H
                        replace H : (if t35007 ≥ 0 then (some 7) else (dataflowref39_Check.l0 k2 (wrap64 (x3_2 + 1)) a0_0 l0_1 a0_2 a0_3 l0_4)) = some r := H
                        have A21 := Aside0.mk A210
                        clear A210
                        by_cases c22 : t35007 ≥ 0
                        · rw [if_pos c22] at H
                          have c22b0 : decide (0 ≤ t35007) = true := decide_eq_true c22
                          clear c22
                          obtain rfl := Option.some.inj H
                          have hcz23_0 : wr.cell? ⟨gb35001, 0, none⟩ = some (.string a0_0) := (blk_cell BK35001.out 0).trans rfl
                          have hcz23_1 : wr.cell? ⟨gb35001, 1, none⟩ = some (.slice A0_1 l0_1.length c0_1) := (blk_cell BK35001.out 1).trans rfl
                          have hcz23_2 : wr.cell? ⟨gb35001, 2, none⟩ = some (.int .i64 a0_2) := (blk_cell BK35001.out 2).trans rfl
                          have hcz23_3 : wr.cell? ⟨gb35001, 3, none⟩ = some (.int .i64 a0_3) := (blk_cell BK35001.out 3).trans rfl
                          have hcz23_4 : wr.cell? ⟨gb35001, 4, none⟩ = some (.slice A0_4 l0_4.length c0_4) := (blk_cell BK35001.out 4).trans rfl
                          have hfz23_0 := blk_frozen BK35001.out 0
                          have hfz23_1 := blk_frozen BK35001.out 1
                          have hfz23_2 := blk_frozen BK35001.out 2
                          have hfz23_3 := blk_frozen BK35001.out 3
                          have hfz23_4 := blk_frozen BK35001.out 4
                          have p35003 : 0 ≤ (x3_2 : Int) := of_decide_eq_true (by first | (with_reducible assumption) | assumption)
                          have q35003 : x3_2 < (l0_1.length : Int) := of_decide_eq_true (by first | (with_reducible assumption) | assumption)
                          obtain ⟨ad35003, e35003, hx35003_0⟩ := Kd.at_string HR0_1.out x3_2 p35003 q35003
                          cases e35003
                          replace hx35003_0 := (HB.out.cell (World.block_lt_of_cell? w _ hx35003_0)).trans hx35003_0
                          replace p35003 := eq_true p35003
                          replace q35003 := eq_true q35003
                          go_wp2_with (first | (go_at_call 18; (with_reducible refine (dataflowref07_Ident.calls k2 (rdOf ByteArray.empty l0_1 x3_2) true _ A17.out).mono ?_); rintro e w24 ⟨rfl, hb⟩; have n0_ := Aside0.mk (blk_below (g := gb35001) (o := .cells #[.string a0_0, .slice (some ad35003) l0_1.length c0_1, .int .i64 a0_2, .int .i64 a0_3, .slice A0_4 l0_4.length c0_4] 35 (0, 0)) (by (with_reducible repeat (first | refine blk_drewN ?_ _ | refine blk_drew ?_ | refine blk_alloc ?_ _)); exact BK35001.out) hb); have n1_ := Aside0.mk (below_step (by repeat (first | (with_reducible first | exact HB.out | apply below_alloc | apply pw_below_drewN | apply below_drew1 | refine below_set ?_ GE35001.out) | exact HB.out)) hb); clear BK35001; clear HB; have BK35001 := n0_; have HB := n1_; clear n0_ n1_; (try clear hb); (try clear hb2); (try clear hk); (try clear hi); have hcz25_0 : w24.cell? ⟨gb35001, 0, none⟩ = some (.string a0_0) := (blk_cell BK35001.out 0).trans rfl; have hcz25_1 : w24.cell? ⟨gb35001, 1, none⟩ = some (.slice (some ad35003) l0_1.length c0_1) := (blk_cell BK35001.out 1).trans rfl; have hcz25_2 : w24.cell? ⟨gb35001, 2, none⟩ = some (.int .i64 a0_2) := (blk_cell BK35001.out 2).trans rfl; have hcz25_3 : w24.cell? ⟨gb35001, 3, none⟩ = some (.int .i64 a0_3) := (blk_cell BK35001.out 3).trans rfl; have hcz25_4 : w24.cell? ⟨gb35001, 4, none⟩ = some (.slice A0_4 l0_4.length c0_4) := (blk_cell BK35001.out 4).trans rfl; have hfz25_0 := blk_frozen BK35001.out 0; have hfz25_1 := blk_frozen BK35001.out 1; have hfz25_2 := blk_frozen BK35001.out 2; have hfz25_3 := blk_frozen BK35001.out 3; have hfz25_4 := blk_frozen BK35001.out 4; obtain ⟨i026, hi026, _, hsz26, _⟩ := info_parts info9; obtain ⟨hcut26, hA26, hC26⟩ := print_take_of (P := Tryd.prog) Value.string (⟨#[]⟩ : ByteArray) 32 9 .i64 Tryd.underlying32 hi026 hsz26 (some ad35003) c0_1 l0_1 x3_2 (of_decide_eq_true (by first | (with_reducible assumption) | assumption)) (of_decide_eq_true (by first | (with_reducible assumption) | assumption)) HC0_1.out; have HR35005 := Aside0.mk (Kd.C_of_reads (h1 := fun _ => rfl) (hA26 _ (Kd.reads_of_C HR0_1.out))); have HC35005 := Aside0.mk hC26; clear hA26 hC26 hi026 hsz26; have p35006 : 0 ≤ (x3_2 : Int) := of_decide_eq_true (by first | (with_reducible assumption) | assumption); have q35006 : x3_2 < (l0_1.length : Int) := of_decide_eq_true (by first | (with_reducible assumption) | assumption); obtain ⟨ad35006, e35006, hx35006_0⟩ := Kd.at_string HR0_1.out x3_2 p35006 q35006; obtain rfl : ad35003 = ad35006 := (by injection e35006); replace hx35006_0 := (HB.out.cell (World.block_lt_of_cell? w _ hx35006_0)).trans hx35006_0; replace p35006 := eq_true p35006; replace q35006 := eq_true q35006) | (go_at_call 57; refine calls_of_args (args' := #[.slice (some ad35003) (l0_1.take (x3_2 : Int).toNat).length c0_1, .string (rdOf ByteArray.empty l0_1 x3_2)]) (by first | rfl | (go_simp; done) | (simp [*]; done)) ?_; (with_reducible refine (dataflowref39_at.calls k2 _ _ (l0_1.take (x3_2 : Int).toNat) (rdOf ByteArray.empty l0_1 x3_2) t35007 _ ?side1 ?side2 A21.out).mono ?_); (case side1 => repeat (first | exact (Kd.C_below HR35005.out HB.out) | (with_reducible refine Kd.C_alloc ?_ _) | (with_reducible refine Kd.C_drewN ?_ _) | (with_reducible refine Kd.C_drew ?_))); (case side2 => exact HC35005.out); rintro e w' ⟨rfl, ⟨nd, rfl⟩⟩; (try first | exact ⟨rfl, _, World.drewN_drewN _ _ _⟩ | exact ⟨rfl, _, Eq.trans (World.drewN_drewN _ _ _) (congrArg (World.drewN _) (Nat.add_assoc _ _ _))⟩)))
                          repeat (go_quiet (first | (go_at_call 18; (with_reducible refine (dataflowref07_Ident.calls k2 (rdOf ByteArray.empty l0_1 x3_2) true _ A17.out).mono ?_); rintro e w24 ⟨rfl, hb⟩; have n0_ := Aside0.mk (blk_below (g := gb35001) (o := .cells #[.string a0_0, .slice (some ad35003) l0_1.length c0_1, .int .i64 a0_2, .int .i64 a0_3, .slice A0_4 l0_4.length c0_4] 35 (0, 0)) (by (with_reducible repeat (first | refine blk_drewN ?_ _ | refine blk_drew ?_ | refine blk_alloc ?_ _)); exact BK35001.out) hb); have n1_ := Aside0.mk (below_step (by repeat (first | (with_reducible first | exact HB.out | apply below_alloc | apply pw_below_drewN | apply below_drew1 | refine below_set ?_ GE35001.out) | exact HB.out)) hb); clear BK35001; clear HB; have BK35001 := n0_; have HB := n1_; clear n0_ n1_; (try clear hb); (try clear hb2); (try clear hk); (try clear hi); have hcz25_0 : w24.cell? ⟨gb35001, 0, none⟩ = some (.string a0_0) := (blk_cell BK35001.out 0).trans rfl; have hcz25_1 : w24.cell? ⟨gb35001, 1, none⟩ = some (.slice (some ad35003) l0_1.length c0_1) := (blk_cell BK35001.out 1).trans rfl; have hcz25_2 : w24.cell? ⟨gb35001, 2, none⟩ = some (.int .i64 a0_2) := (blk_cell BK35001.out 2).trans rfl; have hcz25_3 : w24.cell? ⟨gb35001, 3, none⟩ = some (.int .i64 a0_3) := (blk_cell BK35001.out 3).trans rfl; have hcz25_4 : w24.cell? ⟨gb35001, 4, none⟩ = some (.slice A0_4 l0_4.length c0_4) := (blk_cell BK35001.out 4).trans rfl; have hfz25_0 := blk_frozen BK35001.out 0; have hfz25_1 := blk_frozen BK35001.out 1; have hfz25_2 := blk_frozen BK35001.out 2; have hfz25_3 := blk_frozen BK35001.out 3; have hfz25_4 := blk_frozen BK35001.out 4; obtain ⟨i026, hi026, _, hsz26, _⟩ := info_parts info9; obtain ⟨hcut26, hA26, hC26⟩ := print_take_of (P := Tryd.prog) Value.string (⟨#[]⟩ : ByteArray) 32 9 .i64 Tryd.underlying32 hi026 hsz26 (some ad35003) c0_1 l0_1 x3_2 (of_decide_eq_true (by first | (with_reducible assumption) | assumption)) (of_decide_eq_true (by first | (with_reducible assumption) | assumption)) HC0_1.out; have HR35005 := Aside0.mk (Kd.C_of_reads (h1 := fun _ => rfl) (hA26 _ (Kd.reads_of_C HR0_1.out))); have HC35005 := Aside0.mk hC26; clear hA26 hC26 hi026 hsz26; have p35006 : 0 ≤ (x3_2 : Int) := of_decide_eq_true (by first | (with_reducible assumption) | assumption); have q35006 : x3_2 < (l0_1.length : Int) := of_decide_eq_true (by first | (with_reducible assumption) | assumption); obtain ⟨ad35006, e35006, hx35006_0⟩ := Kd.at_string HR0_1.out x3_2 p35006 q35006; obtain rfl : ad35003 = ad35006 := (by injection e35006); replace hx35006_0 := (HB.out.cell (World.block_lt_of_cell? w _ hx35006_0)).trans hx35006_0; replace p35006 := eq_true p35006; replace q35006 := eq_true q35006) | (go_at_call 57; refine calls_of_args (args' := #[.slice (some ad35003) (l0_1.take (x3_2 : Int).toNat).length c0_1, .string (rdOf ByteArray.empty l0_1 x3_2)]) (by first | rfl | (go_simp; done) | (simp [*]; done)) ?_; (with_reducible refine (dataflowref39_at.calls k2 _ _ (l0_1.take (x3_2 : Int).toNat) (rdOf ByteArray.empty l0_1 x3_2) t35007 _ ?side1 ?side2 A21.out).mono ?_); (case side1 => repeat (first | exact (Kd.C_below HR35005.out HB.out) | (with_reducible refine Kd.C_alloc ?_ _) | (with_reducible refine Kd.C_drewN ?_ _) | (with_reducible refine Kd.C_drew ?_))); (case side2 => exact HC35005.out); rintro e w' ⟨rfl, ⟨nd, rfl⟩⟩; (try first | exact ⟨rfl, _, World.drewN_drewN _ _ _⟩ | exact ⟨rfl, _, Eq.trans (World.drewN_drewN _ _ _) (congrArg (World.drewN _) (Nat.add_assoc _ _ _))⟩))); try go_wp2_with (first | (go_at_call 18; (with_reducible refine (dataflowref07_Ident.calls k2 (rdOf ByteArray.empty l0_1 x3_2) true _ A17.out).mono ?_); rintro e w24 ⟨rfl, hb⟩; have n0_ := Aside0.mk (blk_below (g := gb35001) (o := .cells #[.string a0_0, .slice (some ad35003) l0_1.length c0_1, .int .i64 a0_2, .int .i64 a0_3, .slice A0_4 l0_4.length c0_4] 35 (0, 0)) (by (with_reducible repeat (first | refine blk_drewN ?_ _ | refine blk_drew ?_ | refine blk_alloc ?_ _)); exact BK35001.out) hb); have n1_ := Aside0.mk (below_step (by repeat (first | (with_reducible first | exact HB.out | apply below_alloc | apply pw_below_drewN | apply below_drew1 | refine below_set ?_ GE35001.out) | exact HB.out)) hb); clear BK35001; clear HB; have BK35001 := n0_; have HB := n1_; clear n0_ n1_; (try clear hb); (try clear hb2); (try clear hk); (try clear hi); have hcz25_0 : w24.cell? ⟨gb35001, 0, none⟩ = some (.string a0_0) := (blk_cell BK35001.out 0).trans rfl; have hcz25_1 : w24.cell? ⟨gb35001, 1, none⟩ = some (.slice (some ad35003) l0_1.length c0_1) := (blk_cell BK35001.out 1).trans rfl; have hcz25_2 : w24.cell? ⟨gb35001, 2, none⟩ = some (.int .i64 a0_2) := (blk_cell BK35001.out 2).trans rfl; have hcz25_3 : w24.cell? ⟨gb35001, 3, none⟩ = some (.int .i64 a0_3) := (blk_cell BK35001.out 3).trans rfl; have hcz25_4 : w24.cell? ⟨gb35001, 4, none⟩ = some (.slice A0_4 l0_4.length c0_4) := (blk_cell BK35001.out 4).trans rfl; have hfz25_0 := blk_frozen BK35001.out 0; have hfz25_1 := blk_frozen BK35001.out 1; have hfz25_2 := blk_frozen BK35001.out 2; have hfz25_3 := blk_frozen BK35001.out 3; have hfz25_4 := blk_frozen BK35001.out 4; obtain ⟨i026, hi026, _, hsz26, _⟩ := info_parts info9; obtain ⟨hcut26, hA26, hC26⟩ := print_take_of (P := Tryd.prog) Value.string (⟨#[]⟩ : ByteArray) 32 9 .i64 Tryd.underlying32 hi026 hsz26 (some ad35003) c0_1 l0_1 x3_2 (of_decide_eq_true (by first | (with_reducible assumption) | assumption)) (of_decide_eq_true (by first | (with_reducible assumption) | assumption)) HC0_1.out; have HR35005 := Aside0.mk (Kd.C_of_reads (h1 := fun _ => rfl) (hA26 _ (Kd.reads_of_C HR0_1.out))); have HC35005 := Aside0.mk hC26; clear hA26 hC26 hi026 hsz26; have p35006 : 0 ≤ (x3_2 : Int) := of_decide_eq_true (by first | (with_reducible assumption) | assumption); have q35006 : x3_2 < (l0_1.length : Int) := of_decide_eq_true (by first | (with_reducible assumption) | assumption); obtain ⟨ad35006, e35006, hx35006_0⟩ := Kd.at_string HR0_1.out x3_2 p35006 q35006; obtain rfl : ad35003 = ad35006 := (by injection e35006); replace hx35006_0 := (HB.out.cell (World.block_lt_of_cell? w _ hx35006_0)).trans hx35006_0; replace p35006 := eq_true p35006; replace q35006 := eq_true q35006) | (go_at_call 57; refine calls_of_args (args' := #[.slice (some ad35003) (l0_1.take (x3_2 : Int).toNat).length c0_1, .string (rdOf ByteArray.empty l0_1 x3_2)]) (by first | rfl | (go_simp; done) | (simp [*]; done)) ?_; (with_reducible refine (dataflowref39_at.calls k2 _ _ (l0_1.take (x3_2 : Int).toNat) (rdOf ByteArray.empty l0_1 x3_2) t35007 _ ?side1 ?side2 A21.out).mono ?_); (case side1 => repeat (first | exact (Kd.C_below HR35005.out HB.out) | (with_reducible refine Kd.C_alloc ?_ _) | (with_reducible refine Kd.C_drewN ?_ _) | (with_reducible refine Kd.C_drew ?_))); (case side2 => exact HC35005.out); rintro e w' ⟨rfl, ⟨nd, rfl⟩⟩; (try first | exact ⟨rfl, _, World.drewN_drewN _ _ _⟩ | exact ⟨rfl, _, Eq.trans (World.drewN_drewN _ _ _) (congrArg (World.drewN _) (Nat.add_assoc _ _ _))⟩))))
                          go_ret
                          exact ⟨by first | rfl | (simp [errW_none, errW_some] <;> rfl) | (simp [*, errW_none, errW_some] <;> rfl), by repeat (first | (with_reducible first | exact HB.out | apply below_alloc | apply pw_below_drewN | apply below_drew1 | refine below_set ?_ GE35001.out) | exact HB.out)⟩
                        · rw [if_neg c22] at H
                          have c22b0 : decide (0 ≤ t35007) = false := decide_eq_false c22
                          clear c22
                          have H' := Aside0.mk H
                          clear H
                          have hcz27_0 : wr.cell? ⟨gb35001, 0, none⟩ = some (.string a0_0) := (blk_cell BK35001.out 0).trans rfl
                          have hcz27_1 : wr.cell? ⟨gb35001, 1, none⟩ = some (.slice A0_1 l0_1.length c0_1) := (blk_cell BK35001.out 1).trans rfl
                          have hcz27_2 : wr.cell? ⟨gb35001, 2, none⟩ = some (.int .i64 a0_2) := (blk_cell BK35001.out 2).trans rfl
                          have hcz27_3 : wr.cell? ⟨gb35001, 3, none⟩ = some (.int .i64 a0_3) := (blk_cell BK35001.out 3).trans rfl
                          have hcz27_4 : wr.cell? ⟨gb35001, 4, none⟩ = some (.slice A0_4 l0_4.length c0_4) := (blk_cell BK35001.out 4).trans rfl
                          have hfz27_0 := blk_frozen BK35001.out 0
                          have hfz27_1 := blk_frozen BK35001.out 1
                          have hfz27_2 := blk_frozen BK35001.out 2
                          have hfz27_3 := blk_frozen BK35001.out 3
                          have hfz27_4 := blk_frozen BK35001.out 4
                          have p35003 : 0 ≤ (x3_2 : Int) := of_decide_eq_true (by first | (with_reducible assumption) | assumption)
                          have q35003 : x3_2 < (l0_1.length : Int) := of_decide_eq_true (by first | (with_reducible assumption) | assumption)
                          obtain ⟨ad35003, e35003, hx35003_0⟩ := Kd.at_string HR0_1.out x3_2 p35003 q35003
                          cases e35003
                          replace hx35003_0 := (HB.out.cell (World.block_lt_of_cell? w _ hx35003_0)).trans hx35003_0
                          replace p35003 := eq_true p35003
                          replace q35003 := eq_true q35003
                          go_wp2_with (first | (go_at_call 18; (with_reducible refine (dataflowref07_Ident.calls k2 (rdOf ByteArray.empty l0_1 x3_2) true _ A17.out).mono ?_); rintro e w28 ⟨rfl, hb⟩; have n0_ := Aside0.mk (blk_below (g := gb35001) (o := .cells #[.string a0_0, .slice (some ad35003) l0_1.length c0_1, .int .i64 a0_2, .int .i64 a0_3, .slice A0_4 l0_4.length c0_4] 35 (0, 0)) (by (with_reducible repeat (first | refine blk_drewN ?_ _ | refine blk_drew ?_ | refine blk_alloc ?_ _)); exact BK35001.out) hb); have n1_ := Aside0.mk (below_step (by repeat (first | (with_reducible first | exact HB.out | apply below_alloc | apply pw_below_drewN | apply below_drew1 | refine below_set ?_ GE35001.out) | exact HB.out)) hb); clear BK35001; clear HB; have BK35001 := n0_; have HB := n1_; clear n0_ n1_; (try clear hb); (try clear hb2); (try clear hk); (try clear hi); have hcz29_0 : w28.cell? ⟨gb35001, 0, none⟩ = some (.string a0_0) := (blk_cell BK35001.out 0).trans rfl; have hcz29_1 : w28.cell? ⟨gb35001, 1, none⟩ = some (.slice (some ad35003) l0_1.length c0_1) := (blk_cell BK35001.out 1).trans rfl; have hcz29_2 : w28.cell? ⟨gb35001, 2, none⟩ = some (.int .i64 a0_2) := (blk_cell BK35001.out 2).trans rfl; have hcz29_3 : w28.cell? ⟨gb35001, 3, none⟩ = some (.int .i64 a0_3) := (blk_cell BK35001.out 3).trans rfl; have hcz29_4 : w28.cell? ⟨gb35001, 4, none⟩ = some (.slice A0_4 l0_4.length c0_4) := (blk_cell BK35001.out 4).trans rfl; have hfz29_0 := blk_frozen BK35001.out 0; have hfz29_1 := blk_frozen BK35001.out 1; have hfz29_2 := blk_frozen BK35001.out 2; have hfz29_3 := blk_frozen BK35001.out 3; have hfz29_4 := blk_frozen BK35001.out 4; obtain ⟨i030, hi030, _, hsz30, _⟩ := info_parts info9; obtain ⟨hcut30, hA30, hC30⟩ := print_take_of (P := Tryd.prog) Value.string (⟨#[]⟩ : ByteArray) 32 9 .i64 Tryd.underlying32 hi030 hsz30 (some ad35003) c0_1 l0_1 x3_2 (of_decide_eq_true (by first | (with_reducible assumption) | assumption)) (of_decide_eq_true (by first | (with_reducible assumption) | assumption)) HC0_1.out; have HR35005 := Aside0.mk (Kd.C_of_reads (h1 := fun _ => rfl) (hA30 _ (Kd.reads_of_C HR0_1.out))); have HC35005 := Aside0.mk hC30; clear hA30 hC30 hi030 hsz30; have p35006 : 0 ≤ (x3_2 : Int) := of_decide_eq_true (by first | (with_reducible assumption) | assumption); have q35006 : x3_2 < (l0_1.length : Int) := of_decide_eq_true (by first | (with_reducible assumption) | assumption); obtain ⟨ad35006, e35006, hx35006_0⟩ := Kd.at_string HR0_1.out x3_2 p35006 q35006; obtain rfl : ad35003 = ad35006 := (by injection e35006); replace hx35006_0 := (HB.out.cell (World.block_lt_of_cell? w _ hx35006_0)).trans hx35006_0; replace p35006 := eq_true p35006; replace q35006 := eq_true q35006) | (go_at_call 57; refine calls_of_args (args' := #[.slice (some ad35003) (l0_1.take (x3_2 : Int).toNat).length c0_1, .string (rdOf ByteArray.empty l0_1 x3_2)]) (by first | rfl | (go_simp; done) | (simp [*]; done)) ?_; (with_reducible refine (dataflowref39_at.calls k2 _ _ (l0_1.take (x3_2 : Int).toNat) (rdOf ByteArray.empty l0_1 x3_2) t35007 _ ?side1 ?side2 A21.out).mono ?_); (case side1 => repeat (first | exact (Kd.C_below HR35005.out HB.out) | (with_reducible refine Kd.C_alloc ?_ _) | (with_reducible refine Kd.C_drewN ?_ _) | (with_reducible refine Kd.C_drew ?_))); (case side2 => exact HC35005.out); rintro e w' ⟨rfl, ⟨nd, rfl⟩⟩; (try first | exact ⟨rfl, _, World.drewN_drewN _ _ _⟩ | exact ⟨rfl, _, Eq.trans (World.drewN_drewN _ _ _) (congrArg (World.drewN _) (Nat.add_assoc _ _ _))⟩)))
                          repeat (go_quiet (first | (go_at_call 18; (with_reducible refine (dataflowref07_Ident.calls k2 (rdOf ByteArray.empty l0_1 x3_2) true _ A17.out).mono ?_); rintro e w28 ⟨rfl, hb⟩; have n0_ := Aside0.mk (blk_below (g := gb35001) (o := .cells #[.string a0_0, .slice (some ad35003) l0_1.length c0_1, .int .i64 a0_2, .int .i64 a0_3, .slice A0_4 l0_4.length c0_4] 35 (0, 0)) (by (with_reducible repeat (first | refine blk_drewN ?_ _ | refine blk_drew ?_ | refine blk_alloc ?_ _)); exact BK35001.out) hb); have n1_ := Aside0.mk (below_step (by repeat (first | (with_reducible first | exact HB.out | apply below_alloc | apply pw_below_drewN | apply below_drew1 | refine below_set ?_ GE35001.out) | exact HB.out)) hb); clear BK35001; clear HB; have BK35001 := n0_; have HB := n1_; clear n0_ n1_; (try clear hb); (try clear hb2); (try clear hk); (try clear hi); have hcz29_0 : w28.cell? ⟨gb35001, 0, none⟩ = some (.string a0_0) := (blk_cell BK35001.out 0).trans rfl; have hcz29_1 : w28.cell? ⟨gb35001, 1, none⟩ = some (.slice (some ad35003) l0_1.length c0_1) := (blk_cell BK35001.out 1).trans rfl; have hcz29_2 : w28.cell? ⟨gb35001, 2, none⟩ = some (.int .i64 a0_2) := (blk_cell BK35001.out 2).trans rfl; have hcz29_3 : w28.cell? ⟨gb35001, 3, none⟩ = some (.int .i64 a0_3) := (blk_cell BK35001.out 3).trans rfl; have hcz29_4 : w28.cell? ⟨gb35001, 4, none⟩ = some (.slice A0_4 l0_4.length c0_4) := (blk_cell BK35001.out 4).trans rfl; have hfz29_0 := blk_frozen BK35001.out 0; have hfz29_1 := blk_frozen BK35001.out 1; have hfz29_2 := blk_frozen BK35001.out 2; have hfz29_3 := blk_frozen BK35001.out 3; have hfz29_4 := blk_frozen BK35001.out 4; obtain ⟨i030, hi030, _, hsz30, _⟩ := info_parts info9; obtain ⟨hcut30, hA30, hC30⟩ := print_take_of (P := Tryd.prog) Value.string (⟨#[]⟩ : ByteArray) 32 9 .i64 Tryd.underlying32 hi030 hsz30 (some ad35003) c0_1 l0_1 x3_2 (of_decide_eq_true (by first | (with_reducible assumption) | assumption)) (of_decide_eq_true (by first | (with_reducible assumption) | assumption)) HC0_1.out; have HR35005 := Aside0.mk (Kd.C_of_reads (h1 := fun _ => rfl) (hA30 _ (Kd.reads_of_C HR0_1.out))); have HC35005 := Aside0.mk hC30; clear hA30 hC30 hi030 hsz30; have p35006 : 0 ≤ (x3_2 : Int) := of_decide_eq_true (by first | (with_reducible assumption) | assumption); have q35006 : x3_2 < (l0_1.length : Int) := of_decide_eq_true (by first | (with_reducible assumption) | assumption); obtain ⟨ad35006, e35006, hx35006_0⟩ := Kd.at_string HR0_1.out x3_2 p35006 q35006; obtain rfl : ad35003 = ad35006 := (by injection e35006); replace hx35006_0 := (HB.out.cell (World.block_lt_of_cell? w _ hx35006_0)).trans hx35006_0; replace p35006 := eq_true p35006; replace q35006 := eq_true q35006) | (go_at_call 57; refine calls_of_args (args' := #[.slice (some ad35003) (l0_1.take (x3_2 : Int).toNat).length c0_1, .string (rdOf ByteArray.empty l0_1 x3_2)]) (by first | rfl | (go_simp; done) | (simp [*]; done)) ?_; (with_reducible refine (dataflowref39_at.calls k2 _ _ (l0_1.take (x3_2 : Int).toNat) (rdOf ByteArray.empty l0_1 x3_2) t35007 _ ?side1 ?side2 A21.out).mono ?_); (case side1 => repeat (first | exact (Kd.C_below HR35005.out HB.out) | (with_reducible refine Kd.C_alloc ?_ _) | (with_reducible refine Kd.C_drewN ?_ _) | (with_reducible refine Kd.C_drew ?_))); (case side2 => exact HC35005.out); rintro e w' ⟨rfl, ⟨nd, rfl⟩⟩; (try first | exact ⟨rfl, _, World.drewN_drewN _ _ _⟩ | exact ⟨rfl, _, Eq.trans (World.drewN_drewN _ _ _) (congrArg (World.drewN _) (Nat.add_assoc _ _ _))⟩))); try go_wp2_with (first | (go_at_call 18; (with_reducible refine (dataflowref07_Ident.calls k2 (rdOf ByteArray.empty l0_1 x3_2) true _ A17.out).mono ?_); rintro e w28 ⟨rfl, hb⟩; have n0_ := Aside0.mk (blk_below (g := gb35001) (o := .cells #[.string a0_0, .slice (some ad35003) l0_1.length c0_1, .int .i64 a0_2, .int .i64 a0_3, .slice A0_4 l0_4.length c0_4] 35 (0, 0)) (by (with_reducible repeat (first | refine blk_drewN ?_ _ | refine blk_drew ?_ | refine blk_alloc ?_ _)); exact BK35001.out) hb); have n1_ := Aside0.mk (below_step (by repeat (first | (with_reducible first | exact HB.out | apply below_alloc | apply pw_below_drewN | apply below_drew1 | refine below_set ?_ GE35001.out) | exact HB.out)) hb); clear BK35001; clear HB; have BK35001 := n0_; have HB := n1_; clear n0_ n1_; (try clear hb); (try clear hb2); (try clear hk); (try clear hi); have hcz29_0 : w28.cell? ⟨gb35001, 0, none⟩ = some (.string a0_0) := (blk_cell BK35001.out 0).trans rfl; have hcz29_1 : w28.cell? ⟨gb35001, 1, none⟩ = some (.slice (some ad35003) l0_1.length c0_1) := (blk_cell BK35001.out 1).trans rfl; have hcz29_2 : w28.cell? ⟨gb35001, 2, none⟩ = some (.int .i64 a0_2) := (blk_cell BK35001.out 2).trans rfl; have hcz29_3 : w28.cell? ⟨gb35001, 3, none⟩ = some (.int .i64 a0_3) := (blk_cell BK35001.out 3).trans rfl; have hcz29_4 : w28.cell? ⟨gb35001, 4, none⟩ = some (.slice A0_4 l0_4.length c0_4) := (blk_cell BK35001.out 4).trans rfl; have hfz29_0 := blk_frozen BK35001.out 0; have hfz29_1 := blk_frozen BK35001.out 1; have hfz29_2 := blk_frozen BK35001.out 2; have hfz29_3 := blk_frozen BK35001.out 3; have hfz29_4 := blk_frozen BK35001.out 4; obtain ⟨i030, hi030, _, hsz30, _⟩ := info_parts info9; obtain ⟨hcut30, hA30, hC30⟩ := print_take_of (P := Tryd.prog) Value.string (⟨#[]⟩ : ByteArray) 32 9 .i64 Tryd.underlying32 hi030 hsz30 (some ad35003) c0_1 l0_1 x3_2 (of_decide_eq_true (by first | (with_reducible assumption) | assumption)) (of_decide_eq_true (by first | (with_reducible assumption) | assumption)) HC0_1.out; have HR35005 := Aside0.mk (Kd.C_of_reads (h1 := fun _ => rfl) (hA30 _ (Kd.reads_of_C HR0_1.out))); have HC35005 := Aside0.mk hC30; clear hA30 hC30 hi030 hsz30; have p35006 : 0 ≤ (x3_2 : Int) := of_decide_eq_true (by first | (with_reducible assumption) | assumption); have q35006 : x3_2 < (l0_1.length : Int) := of_decide_eq_true (by first | (with_reducible assumption) | assumption); obtain ⟨ad35006, e35006, hx35006_0⟩ := Kd.at_string HR0_1.out x3_2 p35006 q35006; obtain rfl : ad35003 = ad35006 := (by injection e35006); replace hx35006_0 := (HB.out.cell (World.block_lt_of_cell? w _ hx35006_0)).trans hx35006_0; replace p35006 := eq_true p35006; replace q35006 := eq_true q35006) | (go_at_call 57; refine calls_of_args (args' := #[.slice (some ad35003) (l0_1.take (x3_2 : Int).toNat).length c0_1, .string (rdOf ByteArray.empty l0_1 x3_2)]) (by first | rfl | (go_simp; done) | (simp [*]; done)) ?_; (with_reducible refine (dataflowref39_at.calls k2 _ _ (l0_1.take (x3_2 : Int).toNat) (rdOf ByteArray.empty l0_1 x3_2) t35007 _ ?side1 ?side2 A21.out).mono ?_); (case side1 => repeat (first | exact (Kd.C_below HR35005.out HB.out) | (with_reducible refine Kd.C_alloc ?_ _) | (with_reducible refine Kd.C_drewN ?_ _) | (with_reducible refine Kd.C_drew ?_))); (case side2 => exact HC35005.out); rintro e w' ⟨rfl, ⟨nd, rfl⟩⟩; (try first | exact ⟨rfl, _, World.drewN_drewN _ _ _⟩ | exact ⟨rfl, _, Eq.trans (World.drewN_drewN _ _ _) (congrArg (World.drewN _) (Nat.add_assoc _ _ _))⟩))))
                          go_roundg k2
                          case measure => have := HJ3.out; have := HK2.out; omega
                          case rel => exact ⟨(wrap64 (x3_2 + 1)), (by first | rfl | (simp; done) | (simp [*]; done)), H', ⟨by have := HJ3.out; have := HK2.out; omega⟩, ⟨by (with_reducible repeat (first | refine blk_drewN ?_ _ | refine blk_drew ?_ | refine blk_alloc ?_ _)); exact BK35001.out⟩, ⟨by repeat (first | (with_reducible first | exact HB.out | apply below_alloc | apply pw_below_drewN | apply below_drew1 | refine below_set ?_ GE35001.out) | exact HB.out)⟩⟩
                      · rw [if_neg c20] at H
                        exact absurd H (by simp)
                    · replace c18 := Bool.eq_false_iff.mpr c18
                      subst c18
                      have H1 : (some 5) = some r := by rw [if_neg (show ¬ (false = true) by decide)] at H; exact H
                      clear H
                      have H := H1
                      clear H1
                      obtain rfl := Option.some.inj H
                      have hcz31_0 : wr.cell? ⟨gb35001, 0, none⟩ = some (.string a0_0) := (blk_cell BK35001.out 0).trans rfl
                      have hcz31_1 : wr.cell? ⟨gb35001, 1, none⟩ = some (.slice A0_1 l0_1.length c0_1) := (blk_cell BK35001.out 1).trans rfl
                      have hcz31_2 : wr.cell? ⟨gb35001, 2, none⟩ = some (.int .i64 a0_2) := (blk_cell BK35001.out 2).trans rfl
                      have hcz31_3 : wr.cell? ⟨gb35001, 3, none⟩ = some (.int .i64 a0_3) := (blk_cell BK35001.out 3).trans rfl
                      have hcz31_4 : wr.cell? ⟨gb35001, 4, none⟩ = some (.slice A0_4 l0_4.length c0_4) := (blk_cell BK35001.out 4).trans rfl
                      have hfz31_0 := blk_frozen BK35001.out 0
                      have hfz31_1 := blk_frozen BK35001.out 1
                      have hfz31_2 := blk_frozen BK35001.out 2
                      have hfz31_3 := blk_frozen BK35001.out 3
                      have hfz31_4 := blk_frozen BK35001.out 4
                      have p35003 : 0 ≤ (x3_2 : Int) := of_decide_eq_true (by first | (with_reducible assumption) | assumption)
                      have q35003 : x3_2 < (l0_1.length : Int) := of_decide_eq_true (by first | (with_reducible assumption) | assumption)
                      obtain ⟨ad35003, e35003, hx35003_0⟩ := Kd.at_string HR0_1.out x3_2 p35003 q35003
                      cases e35003
                      replace hx35003_0 := (HB.out.cell (World.block_lt_of_cell? w _ hx35003_0)).trans hx35003_0
                      replace p35003 := eq_true p35003
                      replace q35003 := eq_true q35003
                      go_wp2_with (first | (go_at_call 18; (with_reducible refine (dataflowref07_Ident.calls k2 (rdOf ByteArray.empty l0_1 x3_2) false _ A17.out).mono ?_); rintro e w32 ⟨rfl, hb⟩; have n0_ := Aside0.mk (blk_below (g := gb35001) (o := .cells #[.string a0_0, .slice (some ad35003) l0_1.length c0_1, .int .i64 a0_2, .int .i64 a0_3, .slice A0_4 l0_4.length c0_4] 35 (0, 0)) (by (with_reducible repeat (first | refine blk_drewN ?_ _ | refine blk_drew ?_ | refine blk_alloc ?_ _)); exact BK35001.out) hb); have n1_ := Aside0.mk (below_step (by repeat (first | (with_reducible first | exact HB.out | apply below_alloc | apply pw_below_drewN | apply below_drew1 | refine below_set ?_ GE35001.out) | exact HB.out)) hb); clear BK35001; clear HB; have BK35001 := n0_; have HB := n1_; clear n0_ n1_; (try clear hb); (try clear hb2); (try clear hk); (try clear hi)))
                      repeat (go_quiet (first | (go_at_call 18; (with_reducible refine (dataflowref07_Ident.calls k2 (rdOf ByteArray.empty l0_1 x3_2) false _ A17.out).mono ?_); rintro e w32 ⟨rfl, hb⟩; have n0_ := Aside0.mk (blk_below (g := gb35001) (o := .cells #[.string a0_0, .slice (some ad35003) l0_1.length c0_1, .int .i64 a0_2, .int .i64 a0_3, .slice A0_4 l0_4.length c0_4] 35 (0, 0)) (by (with_reducible repeat (first | refine blk_drewN ?_ _ | refine blk_drew ?_ | refine blk_alloc ?_ _)); exact BK35001.out) hb); have n1_ := Aside0.mk (below_step (by repeat (first | (with_reducible first | exact HB.out | apply below_alloc | apply pw_below_drewN | apply below_drew1 | refine below_set ?_ GE35001.out) | exact HB.out)) hb); clear BK35001; clear HB; have BK35001 := n0_; have HB := n1_; clear n0_ n1_; (try clear hb); (try clear hb2); (try clear hk); (try clear hi))); try go_wp2_with (first | (go_at_call 18; (with_reducible refine (dataflowref07_Ident.calls k2 (rdOf ByteArray.empty l0_1 x3_2) false _ A17.out).mono ?_); rintro e w32 ⟨rfl, hb⟩; have n0_ := Aside0.mk (blk_below (g := gb35001) (o := .cells #[.string a0_0, .slice (some ad35003) l0_1.length c0_1, .int .i64 a0_2, .int .i64 a0_3, .slice A0_4 l0_4.length c0_4] 35 (0, 0)) (by (with_reducible repeat (first | refine blk_drewN ?_ _ | refine blk_drew ?_ | refine blk_alloc ?_ _)); exact BK35001.out) hb); have n1_ := Aside0.mk (below_step (by repeat (first | (with_reducible first | exact HB.out | apply below_alloc | apply pw_below_drewN | apply below_drew1 | refine below_set ?_ GE35001.out) | exact HB.out)) hb); clear BK35001; clear HB; have BK35001 := n0_; have HB := n1_; clear n0_ n1_; (try clear hb); (try clear hb2); (try clear hk); (try clear hi))))
                      go_ret
                      exact ⟨by first | rfl | (simp [errW_none, errW_some] <;> rfl) | (simp [*, errW_none, errW_some] <;> rfl), by repeat (first | (with_reducible first | exact HB.out | apply below_alloc | apply pw_below_drewN | apply below_drew1 | refine below_set ?_ GE35001.out) | exact HB.out)⟩
                  · rw [if_neg c16] at H
                    exact absurd H (by simp)
                · rw [if_neg c15] at H
                  have c15b0 : decide (x3_2 < (l0_1.length : Int)) = false := decide_eq_false c15
                  clear c15
                  have HC33 := Aside0.mk H
                  clear H
                  have hcz34_0 : wr.cell? ⟨gb35001, 0, none⟩ = some (.string a0_0) := (blk_cell BK35001.out 0).trans rfl
                  have hcz34_1 : wr.cell? ⟨gb35001, 1, none⟩ = some (.slice A0_1 l0_1.length c0_1) := (blk_cell BK35001.out 1).trans rfl
                  have hcz34_2 : wr.cell? ⟨gb35001, 2, none⟩ = some (.int .i64 a0_2) := (blk_cell BK35001.out 2).trans rfl
                  have hcz34_3 : wr.cell? ⟨gb35001, 3, none⟩ = some (.int .i64 a0_3) := (blk_cell BK35001.out 3).trans rfl
                  have hcz34_4 : wr.cell? ⟨gb35001, 4, none⟩ = some (.slice A0_4 l0_4.length c0_4) := (blk_cell BK35001.out 4).trans rfl
                  have hfz34_0 := blk_frozen BK35001.out 0
                  have hfz34_1 := blk_frozen BK35001.out 1
                  have hfz34_2 := blk_frozen BK35001.out 2
                  have hfz34_3 := blk_frozen BK35001.out 3
                  have hfz34_4 := blk_frozen BK35001.out 4
                  go_upto_region 14 with (fail)
                  repeat (go_quiet (fail); go_upto_region 14 with (fail))
                  go_cut [70] (fun v70 wc => ∃ (kq : Nat) (x70_32 : Bool), v70 = .bool x70_32 ∧ Aside0 (dataflowref39_Check.j2 kq x70_32 a0_0 l0_1 a0_2 a0_3 l0_4 = some r) ∧ Aside0 (kq ≤ k2) ∧ Aside0 (wc.heap[gb35001]? = some (.cells #[.string a0_0, (.slice A0_1 l0_1.length c0_1), .int .i64 a0_2, .int .i64 a0_3, (.slice A0_4 l0_4.length c0_4)] 35 (0, 0))) ∧ Aside0 (Below w.heap.size w wc))
                  case first =>
                    have H := HC33.out
                    clear HC33
                    by_cases c35 : a0_2 < 0
                    · rw [if_pos c35] at H
                      have c35b0 : decide (a0_2 < 0) = true := decide_eq_true c35
                      clear c35
                      (first | rw [c35b0] | (simp only [i64_w, i32_w]; rw [c35b0]) | skip)
                      have H' := Aside0.mk H
                      clear H
                      have hcz36_0 : wr.cell? ⟨gb35001, 0, none⟩ = some (.string a0_0) := (blk_cell BK35001.out 0).trans rfl
                      have hcz36_1 : wr.cell? ⟨gb35001, 1, none⟩ = some (.slice A0_1 l0_1.length c0_1) := (blk_cell BK35001.out 1).trans rfl
                      have hcz36_2 : wr.cell? ⟨gb35001, 2, none⟩ = some (.int .i64 a0_2) := (blk_cell BK35001.out 2).trans rfl
                      have hcz36_3 : wr.cell? ⟨gb35001, 3, none⟩ = some (.int .i64 a0_3) := (blk_cell BK35001.out 3).trans rfl
                      have hcz36_4 : wr.cell? ⟨gb35001, 4, none⟩ = some (.slice A0_4 l0_4.length c0_4) := (blk_cell BK35001.out 4).trans rfl
                      have hfz36_0 := blk_frozen BK35001.out 0
                      have hfz36_1 := blk_frozen BK35001.out 1
                      have hfz36_2 := blk_frozen BK35001.out 2
                      have hfz36_3 := blk_frozen BK35001.out 3
                      have hfz36_4 := blk_frozen BK35001.out 4
                      go_wp2
                      repeat (go_quiet (fail); try go_wp2)
                      go_meet
                      case rel => exact ⟨_, (true), (by first | rfl | (simp; done) | (simp [*]; done)), H', ⟨by have := HJ3.out; have := HK2.out; first | omega | exact Nat.le_refl _⟩, ⟨by (with_reducible repeat (first | refine blk_drewN ?_ _ | refine blk_drew ?_ | refine blk_alloc ?_ _)); exact BK35001.out⟩, ⟨by repeat (first | (with_reducible first | exact HB.out | apply below_alloc | apply pw_below_drewN | apply below_drew1 | refine below_set ?_ GE35001.out) | exact HB.out)⟩⟩
                    · rw [if_neg c35] at H
                      have c35b0 : decide (a0_2 < 0) = false := decide_eq_false c35
                      clear c35
                      (first | rw [c35b0] | (simp only [i64_w, i32_w]; rw [c35b0]) | skip)
                      by_cases c37 : a0_2 ≥ (l0_1.length : Int)
                      · rw [if_pos c37] at H
                        have c37b0 : decide ((l0_1.length : Int) ≤ a0_2) = true := decide_eq_true c37
                        clear c37
                        have H' := Aside0.mk H
                        clear H
                        have hcz38_0 : wr.cell? ⟨gb35001, 0, none⟩ = some (.string a0_0) := (blk_cell BK35001.out 0).trans rfl
                        have hcz38_1 : wr.cell? ⟨gb35001, 1, none⟩ = some (.slice A0_1 l0_1.length c0_1) := (blk_cell BK35001.out 1).trans rfl
                        have hcz38_2 : wr.cell? ⟨gb35001, 2, none⟩ = some (.int .i64 a0_2) := (blk_cell BK35001.out 2).trans rfl
                        have hcz38_3 : wr.cell? ⟨gb35001, 3, none⟩ = some (.int .i64 a0_3) := (blk_cell BK35001.out 3).trans rfl
                        have hcz38_4 : wr.cell? ⟨gb35001, 4, none⟩ = some (.slice A0_4 l0_4.length c0_4) := (blk_cell BK35001.out 4).trans rfl
                        have hfz38_0 := blk_frozen BK35001.out 0
                        have hfz38_1 := blk_frozen BK35001.out 1
                        have hfz38_2 := blk_frozen BK35001.out 2
                        have hfz38_3 := blk_frozen BK35001.out 3
                        have hfz38_4 := blk_frozen BK35001.out 4
                        go_wp2
                        repeat (go_quiet (fail); try go_wp2)
                        go_meet
                        case rel => exact ⟨_, (true), (by first | rfl | (simp; done) | (simp [*]; done)), H', ⟨by have := HJ3.out; have := HK2.out; first | omega | exact Nat.le_refl _⟩, ⟨by (with_reducible repeat (first | refine blk_drewN ?_ _ | refine blk_drew ?_ | refine blk_alloc ?_ _)); exact BK35001.out⟩, ⟨by repeat (first | (with_reducible first | exact HB.out | apply below_alloc | apply pw_below_drewN | apply below_drew1 | refine below_set ?_ GE35001.out) | exact HB.out)⟩⟩
                      · rw [if_neg c37] at H
                        have c37b0 : decide ((l0_1.length : Int) ≤ a0_2) = false := decide_eq_false c37
                        clear c37
                        by_cases c39 : a0_3 < 0
                        · rw [if_pos c39] at H
                          have c39b0 : decide (a0_3 < 0) = true := decide_eq_true c39
                          clear c39
                          have H' := Aside0.mk H
                          clear H
                          have hcz40_0 : wr.cell? ⟨gb35001, 0, none⟩ = some (.string a0_0) := (blk_cell BK35001.out 0).trans rfl
                          have hcz40_1 : wr.cell? ⟨gb35001, 1, none⟩ = some (.slice A0_1 l0_1.length c0_1) := (blk_cell BK35001.out 1).trans rfl
                          have hcz40_2 : wr.cell? ⟨gb35001, 2, none⟩ = some (.int .i64 a0_2) := (blk_cell BK35001.out 2).trans rfl
                          have hcz40_3 : wr.cell? ⟨gb35001, 3, none⟩ = some (.int .i64 a0_3) := (blk_cell BK35001.out 3).trans rfl
                          have hcz40_4 : wr.cell? ⟨gb35001, 4, none⟩ = some (.slice A0_4 l0_4.length c0_4) := (blk_cell BK35001.out 4).trans rfl
                          have hfz40_0 := blk_frozen BK35001.out 0
                          have hfz40_1 := blk_frozen BK35001.out 1
                          have hfz40_2 := blk_frozen BK35001.out 2
                          have hfz40_3 := blk_frozen BK35001.out 3
                          have hfz40_4 := blk_frozen BK35001.out 4
                          go_wp2
                          repeat (go_quiet (fail); try go_wp2)
                          go_meet
                          case rel => exact ⟨_, (true), (by first | rfl | (simp; done) | (simp [*]; done)), H', ⟨by have := HJ3.out; have := HK2.out; first | omega | exact Nat.le_refl _⟩, ⟨by (with_reducible repeat (first | refine blk_drewN ?_ _ | refine blk_drew ?_ | refine blk_alloc ?_ _)); exact BK35001.out⟩, ⟨by repeat (first | (with_reducible first | exact HB.out | apply below_alloc | apply pw_below_drewN | apply below_drew1 | refine below_set ?_ GE35001.out) | exact HB.out)⟩⟩
                        · rw [if_neg c39] at H
                          have c39b0 : decide (a0_3 < 0) = false := decide_eq_false c39
                          clear c39
                          have H' := Aside0.mk H
                          clear H
                          have hcz41_0 : wr.cell? ⟨gb35001, 0, none⟩ = some (.string a0_0) := (blk_cell BK35001.out 0).trans rfl
                          have hcz41_1 : wr.cell? ⟨gb35001, 1, none⟩ = some (.slice A0_1 l0_1.length c0_1) := (blk_cell BK35001.out 1).trans rfl
                          have hcz41_2 : wr.cell? ⟨gb35001, 2, none⟩ = some (.int .i64 a0_2) := (blk_cell BK35001.out 2).trans rfl
                          have hcz41_3 : wr.cell? ⟨gb35001, 3, none⟩ = some (.int .i64 a0_3) := (blk_cell BK35001.out 3).trans rfl
                          have hcz41_4 : wr.cell? ⟨gb35001, 4, none⟩ = some (.slice A0_4 l0_4.length c0_4) := (blk_cell BK35001.out 4).trans rfl
                          have hfz41_0 := blk_frozen BK35001.out 0
                          have hfz41_1 := blk_frozen BK35001.out 1
                          have hfz41_2 := blk_frozen BK35001.out 2
                          have hfz41_3 := blk_frozen BK35001.out 3
                          have hfz41_4 := blk_frozen BK35001.out 4
                          go_wp2
                          repeat (go_quiet (fail); try go_wp2)
                          go_meet
                          case rel => exact ⟨_, (decide (a0_3 ≥ (l0_1.length : Int))), (by first | rfl | (simp; done) | (simp [*]; done)), H', ⟨by have := HJ3.out; have := HK2.out; first | omega | exact Nat.le_refl _⟩, ⟨by (with_reducible repeat (first | refine blk_drewN ?_ _ | refine blk_drew ?_ | refine blk_alloc ?_ _)); exact BK35001.out⟩, ⟨by repeat (first | (with_reducible first | exact HB.out | apply below_alloc | apply pw_below_drewN | apply below_drew1 | refine below_set ?_ GE35001.out) | exact HB.out)⟩⟩
                  case rest =>
                    clear HC33
                    try clear c1
                    try clear c2
                    try clear p2
                    try clear c3
                    try clear p3
                    try clear q3
                    try clear hx3
                    try clear p6
                    try clear c8
                    try clear c8b0
                    try clear c8b1
                    try clear c11
                    try clear c12
                    try clear c12b0
                    try clear c12b1
                    try clear c12b2
                    try clear c15
                    try clear c15b0
                    try clear c16
                    try clear c16b0
                    try clear c18
                    try clear c19
                    try clear c19b0
                    try clear c20
                    try clear c20b0
                    try clear c20b1
                    try clear c22
                    try clear c22b0
                    try clear c34
                    try clear c35
                    try clear c35b0
                    try clear p35
                    try clear q35
                    try clear hx35
                    try clear c37
                    try clear c37b0
                    try clear c39
                    try clear c39b0
                    try clear hcz10_0
                    try clear hcz10_1
                    try clear hcz10_2
                    try clear hcz10_3
                    try clear hcz10_4
                    try clear hcz13_0
                    try clear hcz13_1
                    try clear hcz13_2
                    try clear hcz13_3
                    try clear hcz13_4
                    try clear hcz14_0
                    try clear hcz14_1
                    try clear hcz14_2
                    try clear hcz14_3
                    try clear hcz14_4
                    try clear hcz23_0
                    try clear hcz23_1
                    try clear hcz23_2
                    try clear hcz23_3
                    try clear hcz23_4
                    try clear hcz25_0
                    try clear hcz25_1
                    try clear hcz25_2
                    try clear hcz25_3
                    try clear hcz25_4
                    try clear hcz27_0
                    try clear hcz27_1
                    try clear hcz27_2
                    try clear hcz27_3
                    try clear hcz27_4
                    try clear hcz29_0
                    try clear hcz29_1
                    try clear hcz29_2
                    try clear hcz29_3
                    try clear hcz29_4
                    try clear hcz31_0
                    try clear hcz31_1
                    try clear hcz31_2
                    try clear hcz31_3
                    try clear hcz31_4
                    try clear hcz34_0
                    try clear hcz34_1
                    try clear hcz34_2
                    try clear hcz34_3
                    try clear hcz34_4
                    try clear hcz36_0
                    try clear hcz36_1
                    try clear hcz36_2
                    try clear hcz36_3
                    try clear hcz36_4
                    try clear hcz38_0
                    try clear hcz38_1
                    try clear hcz38_2
                    try clear hcz38_3
                    try clear hcz38_4
                    try clear hcz40_0
                    try clear hcz40_1
                    try clear hcz40_2
                    try clear hcz40_3
                    try clear hcz40_4
                    try clear hcz41_0
                    try clear hcz41_1
                    try clear hcz41_2
                    try clear hcz41_3
                    try clear hcz41_4
                    try clear hcz6_0
                    try clear hcz6_1
                    try clear hcz6_2
                    try clear hcz6_3
                    try clear hcz6_4
                    try clear hcz9_0
                    try clear hcz9_1
                    try clear hcz9_2
                    try clear hcz9_3
                    try clear hcz9_4
                    try clear hfz10_0
                    try clear hfz10_1
                    try clear hfz10_2
                    try clear hfz10_3
                    try clear hfz10_4
                    try clear hfz13_0
                    try clear hfz13_1
                    try clear hfz13_2
                    try clear hfz13_3
                    try clear hfz13_4
                    try clear hfz14_0
                    try clear hfz14_1
                    try clear hfz14_2
                    try clear hfz14_3
                    try clear hfz14_4
                    try clear hfz23_0
                    try clear hfz23_1
                    try clear hfz23_2
                    try clear hfz23_3
                    try clear hfz23_4
                    try clear hfz25_0
                    try clear hfz25_1
                    try clear hfz25_2
                    try clear hfz25_3
                    try clear hfz25_4
                    try clear hfz27_0
                    try clear hfz27_1
                    try clear hfz27_2
                    try clear hfz27_3
                    try clear hfz27_4
                    try clear hfz29_0
                    try clear hfz29_1
                    try clear hfz29_2
                    try clear hfz29_3
                    try clear hfz29_4
                    try clear hfz31_0
                    try clear hfz31_1
                    try clear hfz31_2
                    try clear hfz31_3
                    try clear hfz31_4
                    try clear hfz34_0
                    try clear hfz34_1
                    try clear hfz34_2
                    try clear hfz34_3
                    try clear hfz34_4
                    try clear hfz36_0
                    try clear hfz36_1
                    try clear hfz36_2
                    try clear hfz36_3
                    try clear hfz36_4
                    try clear hfz38_0
                    try clear hfz38_1
                    try clear hfz38_2
                    try clear hfz38_3
                    try clear hfz38_4
                    try clear hfz40_0
                    try clear hfz40_1
                    try clear hfz40_2
                    try clear hfz40_3
                    try clear hfz40_4
                    try clear hfz41_0
                    try clear hfz41_1
                    try clear hfz41_2
                    try clear hfz41_3
                    try clear hfz41_4
                    try clear hfz6_0
                    try clear hfz6_1
                    try clear hfz6_2
                    try clear hfz6_3
                    try clear hfz6_4
                    try clear hfz9_0
                    try clear hfz9_1
                    try clear hfz9_2
                    try clear hfz9_3
                    try clear hfz9_4
                    try clear hx35003_0
                    try clear hx35006_0
                    try clear p2
                    try clear p35003
                    try clear p35006
                    try clear q35003
                    try clear q35006
                    obtain ⟨kq, x70_32, rfl, HA, HJ32, BK35001, HB⟩ := hcut
                    cases kq with
                    | zero => exact absurd HA.out (by simp [dataflowref39_Check.j2])
                    | succ kj32 =>
                      have H := HA.out
                      clear HA
                      simp only [dataflowref39_Check.j2] at H
                      by_cases c42 : x70_32 = true
                      · subst c42
                        have H1 : (some 4) = some r := by rw [if_pos rfl] at H; exact H
                        clear H
                        have H := H1
                        clear H1
                        obtain rfl := Option.some.inj H
                        go_wp2
                        repeat (go_quiet (fail); try go_wp2)
                        go_ret
                        exact ⟨by first | rfl | (simp [errW_none, errW_some] <;> rfl) | (simp [*, errW_none, errW_some] <;> rfl), by repeat (first | (with_reducible first | exact HB.out | apply below_alloc | apply pw_below_drewN | apply below_drew1 | refine below_set ?_ GE35001.out) | exact HB.out)⟩
                      · replace c42 := Bool.eq_false_iff.mpr c42
                        subst c42
                        have H1 : (if a0_2 = a0_3 then (some 1) else ((dataflowref39_moves.f kj32 a0_0 l0_1 a0_2 a0_3 l0_4).bind fun t35008 => (some t35008))) = some r := by rw [if_neg (show ¬ (false = true) by decide)] at H; exact H
                        clear H
                        have H := H1
                        clear H1
                        by_cases c43 : a0_2 = a0_3
                        · rw [if_pos c43] at H
                          have c43b0 : (a0_2 == a0_3) = true := beq_iff_eq.mpr c43
                          have c43b1 : (a0_2 != a0_3) = false := bne_eq_false_iff_eq.mpr c43
                          clear c43
                          obtain rfl := Option.some.inj H
                          have hcz44_0 : wc.cell? ⟨gb35001, 0, none⟩ = some (.string a0_0) := (blk_cell BK35001.out 0).trans rfl
                          have hcz44_1 : wc.cell? ⟨gb35001, 1, none⟩ = some (.slice A0_1 l0_1.length c0_1) := (blk_cell BK35001.out 1).trans rfl
                          have hcz44_2 : wc.cell? ⟨gb35001, 2, none⟩ = some (.int .i64 a0_2) := (blk_cell BK35001.out 2).trans rfl
                          have hcz44_3 : wc.cell? ⟨gb35001, 3, none⟩ = some (.int .i64 a0_3) := (blk_cell BK35001.out 3).trans rfl
                          have hcz44_4 : wc.cell? ⟨gb35001, 4, none⟩ = some (.slice A0_4 l0_4.length c0_4) := (blk_cell BK35001.out 4).trans rfl
                          have hfz44_0 := blk_frozen BK35001.out 0
                          have hfz44_1 := blk_frozen BK35001.out 1
                          have hfz44_2 := blk_frozen BK35001.out 2
                          have hfz44_3 := blk_frozen BK35001.out 3
                          have hfz44_4 := blk_frozen BK35001.out 4
                          go_wp2
                          repeat (go_quiet (fail); try go_wp2)
                          go_ret
                          exact ⟨by first | rfl | (simp [errW_none, errW_some] <;> rfl) | (simp [*, errW_none, errW_some] <;> rfl), by repeat (first | (with_reducible first | exact HB.out | apply below_alloc | apply pw_below_drewN | apply below_drew1 | refine below_set ?_ GE35001.out) | exact HB.out)⟩
                        · rw [if_neg c43] at H
                          have c43b0 : (a0_2 == a0_3) = false := beq_eq_false_iff_ne.mpr c43
                          have c43b1 : (a0_2 != a0_3) = true := bne_iff_ne.mpr c43
                          replace H := Option.bind_eq_some_iff.mp H
                          obtain ⟨t35008, A450, H⟩ := H
                          replace H : (some t35008) = some r := H
                          have A45 := Aside0.mk A450
                          clear A450
                          obtain rfl := Option.some.inj H
                          have hcz46_0 : wc.cell? ⟨gb35001, 0, none⟩ = some (.string a0_0) := (blk_cell BK35001.out 0).trans rfl
                          have hcz46_1 : wc.cell? ⟨gb35001, 1, none⟩ = some (.slice A0_1 l0_1.length c0_1) := (blk_cell BK35001.out 1).trans rfl
                          have hcz46_2 : wc.cell? ⟨gb35001, 2, none⟩ = some (.int .i64 a0_2) := (blk_cell BK35001.out 2).trans rfl
                          have hcz46_3 : wc.cell? ⟨gb35001, 3, none⟩ = some (.int .i64 a0_3) := (blk_cell BK35001.out 3).trans rfl
                          have hcz46_4 : wc.cell? ⟨gb35001, 4, none⟩ = some (.slice A0_4 l0_4.length c0_4) := (blk_cell BK35001.out 4).trans rfl
                          have hfz46_0 := blk_frozen BK35001.out 0
                          have hfz46_1 := blk_frozen BK35001.out 1
                          have hfz46_2 := blk_frozen BK35001.out 2
                          have hfz46_3 := blk_frozen BK35001.out 3
                          have hfz46_4 := blk_frozen BK35001.out 4
                          go_wp2_with (first | (go_at_call 58; (with_reducible refine (dataflowref39_moves.calls kj32 a0_0 _ _ l0_1 a0_2 a0_3 _ _ l0_4 t35008 _ ?side1 ?side2 ?side3 ?side4 A45.out).mono ?_); (case side1 => repeat (first | exact (Kd.C_below HR0_1.out HB.out) | (with_reducible refine Kd.C_alloc ?_ _) | (with_reducible refine Kd.C_drewN ?_ _) | (with_reducible refine Kd.C_drew ?_))); (case side2 => exact HC0_1.out); (case side3 => repeat (first | exact (Kd.C_below HR0_4.out HB.out) | (with_reducible refine Kd.C_alloc ?_ _) | (with_reducible refine Kd.C_drewN ?_ _) | (with_reducible refine Kd.C_drew ?_))); (case side4 => exact HC0_4.out); rintro e w47 ⟨rfl, hb⟩; have n0_ := Aside0.mk (blk_below (g := gb35001) (o := .cells #[.string a0_0, .slice A0_1 l0_1.length c0_1, .int .i64 a0_2, .int .i64 a0_3, .slice A0_4 l0_4.length c0_4] 35 (0, 0)) (by (with_reducible repeat (first | refine blk_drewN ?_ _ | refine blk_drew ?_ | refine blk_alloc ?_ _)); exact BK35001.out) hb); have n1_ := Aside0.mk (below_step (by repeat (first | (with_reducible first | exact HB.out | apply below_alloc | apply pw_below_drewN | apply below_drew1 | refine below_set ?_ GE35001.out) | exact HB.out)) hb); clear BK35001; clear HB; have BK35001 := n0_; have HB := n1_; clear n0_ n1_; (try clear hb); (try clear hb2); (try clear hk); (try clear hi)))
                          repeat (go_quiet (first | (go_at_call 58; (with_reducible refine (dataflowref39_moves.calls kj32 a0_0 _ _ l0_1 a0_2 a0_3 _ _ l0_4 t35008 _ ?side1 ?side2 ?side3 ?side4 A45.out).mono ?_); (case side1 => repeat (first | exact (Kd.C_below HR0_1.out HB.out) | (with_reducible refine Kd.C_alloc ?_ _) | (with_reducible refine Kd.C_drewN ?_ _) | (with_reducible refine Kd.C_drew ?_))); (case side2 => exact HC0_1.out); (case side3 => repeat (first | exact (Kd.C_below HR0_4.out HB.out) | (with_reducible refine Kd.C_alloc ?_ _) | (with_reducible refine Kd.C_drewN ?_ _) | (with_reducible refine Kd.C_drew ?_))); (case side4 => exact HC0_4.out); rintro e w47 ⟨rfl, hb⟩; have n0_ := Aside0.mk (blk_below (g := gb35001) (o := .cells #[.string a0_0, .slice A0_1 l0_1.length c0_1, .int .i64 a0_2, .int .i64 a0_3, .slice A0_4 l0_4.length c0_4] 35 (0, 0)) (by (with_reducible repeat (first | refine blk_drewN ?_ _ | refine blk_drew ?_ | refine blk_alloc ?_ _)); exact BK35001.out) hb); have n1_ := Aside0.mk (below_step (by repeat (first | (with_reducible first | exact HB.out | apply below_alloc | apply pw_below_drewN | apply below_drew1 | refine below_set ?_ GE35001.out) | exact HB.out)) hb); clear BK35001; clear HB; have BK35001 := n0_; have HB := n1_; clear n0_ n1_; (try clear hb); (try clear hb2); (try clear hk); (try clear hi))); try go_wp2_with (first | (go_at_call 58; (with_reducible refine (dataflowref39_moves.calls kj32 a0_0 _ _ l0_1 a0_2 a0_3 _ _ l0_4 t35008 _ ?side1 ?side2 ?side3 ?side4 A45.out).mono ?_); (case side1 => repeat (first | exact (Kd.C_below HR0_1.out HB.out) | (with_reducible refine Kd.C_alloc ?_ _) | (with_reducible refine Kd.C_drewN ?_ _) | (with_reducible refine Kd.C_drew ?_))); (case side2 => exact HC0_1.out); (case side3 => repeat (first | exact (Kd.C_below HR0_4.out HB.out) | (with_reducible refine Kd.C_alloc ?_ _) | (with_reducible refine Kd.C_drewN ?_ _) | (with_reducible refine Kd.C_drew ?_))); (case side4 => exact HC0_4.out); rintro e w47 ⟨rfl, hb⟩; have n0_ := Aside0.mk (blk_below (g := gb35001) (o := .cells #[.string a0_0, .slice A0_1 l0_1.length c0_1, .int .i64 a0_2, .int .i64 a0_3, .slice A0_4 l0_4.length c0_4] 35 (0, 0)) (by (with_reducible repeat (first | refine blk_drewN ?_ _ | refine blk_drew ?_ | refine blk_alloc ?_ _)); exact BK35001.out) hb); have n1_ := Aside0.mk (below_step (by repeat (first | (with_reducible first | exact HB.out | apply below_alloc | apply pw_below_drewN | apply below_drew1 | refine below_set ?_ GE35001.out) | exact HB.out)) hb); clear BK35001; clear HB; have BK35001 := n0_; have HB := n1_; clear n0_ n1_; (try clear hb); (try clear hb2); (try clear hk); (try clear hi))))
                          go_ret
                          exact ⟨by first | rfl | (simp [errW_none, errW_some] <;> rfl) | (simp [*, errW_none, errW_some] <;> rfl), by repeat (first | (with_reducible first | exact HB.out | apply below_alloc | apply pw_below_drewN | apply below_drew1 | refine below_set ?_ GE35001.out) | exact HB.out)⟩
  · replace c3 := Bool.eq_false_iff.mpr c3
    subst c3
    have H1 : (some 5) = some r := by rw [if_neg (show ¬ (false = true) by decide)] at H; exact H
    clear H
    have H := H1
    clear H1
    obtain rfl := Option.some.inj H
    go_enter Tryd.func34, Tryd.ntmps34
    go_wp2_with (first | ((with_reducible refine gate_dst (N := 1) rfl ?_); (try (refine gate_guard (by rfl) ?_; dsimp only)); refine box_event ?hg (N := 1) ?hd (cs := #[.string a0_0, .slice A0_1 l0_1.length c0_1, .int .i64 a0_2, .int .i64 a0_3, .slice A0_4 l0_4.length c0_4]) (t := 35) ?hr ?_; (case hd => rfl); (case hg => rfl); (case hr => first | (go_simp; done) | (go_simp; rfl)); intro gb35001 hg w48 hbox hb; have n0_ := Aside0.mk (below_step (by repeat (first | (with_reducible first | exact HB.out | apply below_alloc | apply pw_below_drewN | apply below_drew1) | exact HB.out)) hb); have n1_ := Aside0.mk (hbox); have n2_ := Aside0.mk ((by rw [hg]; exact (below_size (by repeat (first | (with_reducible first | exact HB.out | apply below_alloc | apply pw_below_drewN | apply below_drew1) | exact HB.out))) : w.heap.size ≤ gb35001)); have n3_ := Aside0.mk ((by rw [hg]; exact (below_size (by repeat (first | (with_reducible first | exact HB.out | apply below_alloc | apply pw_below_drewN | apply below_drew1) | exact HB.out))) : w.heap.size ≤ gb35001)); clear HB; have HB := n0_; have BK35001 := n1_; have GW35001 := n2_; have GE35001 := n3_; clear n0_ n1_ n2_ n3_; clear hb hbox hg; have hcz49_0 : w48.cell? ⟨gb35001, 0, none⟩ = some (.string a0_0) := (blk_cell BK35001.out 0).trans rfl; have hcz49_1 : w48.cell? ⟨gb35001, 1, none⟩ = some (.slice A0_1 l0_1.length c0_1) := (blk_cell BK35001.out 1).trans rfl; have hcz49_2 : w48.cell? ⟨gb35001, 2, none⟩ = some (.int .i64 a0_2) := (blk_cell BK35001.out 2).trans rfl; have hcz49_3 : w48.cell? ⟨gb35001, 3, none⟩ = some (.int .i64 a0_3) := (blk_cell BK35001.out 3).trans rfl; have hcz49_4 : w48.cell? ⟨gb35001, 4, none⟩ = some (.slice A0_4 l0_4.length c0_4) := (blk_cell BK35001.out 4).trans rfl; have hfz49_0 := blk_frozen BK35001.out 0; have hfz49_1 := blk_frozen BK35001.out 1; have hfz49_2 := blk_frozen BK35001.out 2; have hfz49_3 := blk_frozen BK35001.out 3; have hfz49_4 := blk_frozen BK35001.out 4) | (go_at_call 18; (with_reducible refine (dataflowref07_Ident.calls k a0_0 false _ A2.out).mono ?_); rintro e w50 ⟨rfl, hb⟩; have n0_ := Aside0.mk (blk_below (g := gb35001) (o := .cells #[.string a0_0, .slice A0_1 l0_1.length c0_1, .int .i64 a0_2, .int .i64 a0_3, .slice A0_4 l0_4.length c0_4] 35 (0, 0)) (by (with_reducible repeat (first | refine blk_drewN ?_ _ | refine blk_drew ?_ | refine blk_alloc ?_ _)); exact BK35001.out) hb); have n1_ := Aside0.mk (below_step (by repeat (first | (with_reducible first | exact HB.out | apply below_alloc | apply pw_below_drewN | apply below_drew1 | refine below_set ?_ GE35001.out) | exact HB.out)) hb); clear BK35001; clear HB; have BK35001 := n0_; have HB := n1_; clear n0_ n1_; (try clear hb); (try clear hb2); (try clear hk); (try clear hi)))
    repeat (go_quiet (first | ((with_reducible refine gate_dst (N := 1) rfl ?_); (try (refine gate_guard (by rfl) ?_; dsimp only)); refine box_event ?hg (N := 1) ?hd (cs := #[.string a0_0, .slice A0_1 l0_1.length c0_1, .int .i64 a0_2, .int .i64 a0_3, .slice A0_4 l0_4.length c0_4]) (t := 35) ?hr ?_; (case hd => rfl); (case hg => rfl); (case hr => first | (go_simp; done) | (go_simp; rfl)); intro gb35001 hg w48 hbox hb; have n0_ := Aside0.mk (below_step (by repeat (first | (with_reducible first | exact HB.out | apply below_alloc | apply pw_below_drewN | apply below_drew1) | exact HB.out)) hb); have n1_ := Aside0.mk (hbox); have n2_ := Aside0.mk ((by rw [hg]; exact (below_size (by repeat (first | (with_reducible first | exact HB.out | apply below_alloc | apply pw_below_drewN | apply below_drew1) | exact HB.out))) : w.heap.size ≤ gb35001)); have n3_ := Aside0.mk ((by rw [hg]; exact (below_size (by repeat (first | (with_reducible first | exact HB.out | apply below_alloc | apply pw_below_drewN | apply below_drew1) | exact HB.out))) : w.heap.size ≤ gb35001)); clear HB; have HB := n0_; have BK35001 := n1_; have GW35001 := n2_; have GE35001 := n3_; clear n0_ n1_ n2_ n3_; clear hb hbox hg; have hcz49_0 : w48.cell? ⟨gb35001, 0, none⟩ = some (.string a0_0) := (blk_cell BK35001.out 0).trans rfl; have hcz49_1 : w48.cell? ⟨gb35001, 1, none⟩ = some (.slice A0_1 l0_1.length c0_1) := (blk_cell BK35001.out 1).trans rfl; have hcz49_2 : w48.cell? ⟨gb35001, 2, none⟩ = some (.int .i64 a0_2) := (blk_cell BK35001.out 2).trans rfl; have hcz49_3 : w48.cell? ⟨gb35001, 3, none⟩ = some (.int .i64 a0_3) := (blk_cell BK35001.out 3).trans rfl; have hcz49_4 : w48.cell? ⟨gb35001, 4, none⟩ = some (.slice A0_4 l0_4.length c0_4) := (blk_cell BK35001.out 4).trans rfl; have hfz49_0 := blk_frozen BK35001.out 0; have hfz49_1 := blk_frozen BK35001.out 1; have hfz49_2 := blk_frozen BK35001.out 2; have hfz49_3 := blk_frozen BK35001.out 3; have hfz49_4 := blk_frozen BK35001.out 4) | (go_at_call 18; (with_reducible refine (dataflowref07_Ident.calls k a0_0 false _ A2.out).mono ?_); rintro e w50 ⟨rfl, hb⟩; have n0_ := Aside0.mk (blk_below (g := gb35001) (o := .cells #[.string a0_0, .slice A0_1 l0_1.length c0_1, .int .i64 a0_2, .int .i64 a0_3, .slice A0_4 l0_4.length c0_4] 35 (0, 0)) (by (with_reducible repeat (first | refine blk_drewN ?_ _ | refine blk_drew ?_ | refine blk_alloc ?_ _)); exact BK35001.out) hb); have n1_ := Aside0.mk (below_step (by repeat (first | (with_reducible first | exact HB.out | apply below_alloc | apply pw_below_drewN | apply below_drew1 | refine below_set ?_ GE35001.out) | exact HB.out)) hb); clear BK35001; clear HB; have BK35001 := n0_; have HB := n1_; clear n0_ n1_; (try clear hb); (try clear hb2); (try clear hk); (try clear hi))); try go_wp2_with (first | ((with_reducible refine gate_dst (N := 1) rfl ?_); (try (refine gate_guard (by rfl) ?_; dsimp only)); refine box_event ?hg (N := 1) ?hd (cs := #[.string a0_0, .slice A0_1 l0_1.length c0_1, .int .i64 a0_2, .int .i64 a0_3, .slice A0_4 l0_4.length c0_4]) (t := 35) ?hr ?_; (case hd => rfl); (case hg => rfl); (case hr => first | (go_simp; done) | (go_simp; rfl)); intro gb35001 hg w48 hbox hb; have n0_ := Aside0.mk (below_step (by repeat (first | (with_reducible first | exact HB.out | apply below_alloc | apply pw_below_drewN | apply below_drew1) | exact HB.out)) hb); have n1_ := Aside0.mk (hbox); have n2_ := Aside0.mk ((by rw [hg]; exact (below_size (by repeat (first | (with_reducible first | exact HB.out | apply below_alloc | apply pw_below_drewN | apply below_drew1) | exact HB.out))) : w.heap.size ≤ gb35001)); have n3_ := Aside0.mk ((by rw [hg]; exact (below_size (by repeat (first | (with_reducible first | exact HB.out | apply below_alloc | apply pw_below_drewN | apply below_drew1) | exact HB.out))) : w.heap.size ≤ gb35001)); clear HB; have HB := n0_; have BK35001 := n1_; have GW35001 := n2_; have GE35001 := n3_; clear n0_ n1_ n2_ n3_; clear hb hbox hg; have hcz49_0 : w48.cell? ⟨gb35001, 0, none⟩ = some (.string a0_0) := (blk_cell BK35001.out 0).trans rfl; have hcz49_1 : w48.cell? ⟨gb35001, 1, none⟩ = some (.slice A0_1 l0_1.length c0_1) := (blk_cell BK35001.out 1).trans rfl; have hcz49_2 : w48.cell? ⟨gb35001, 2, none⟩ = some (.int .i64 a0_2) := (blk_cell BK35001.out 2).trans rfl; have hcz49_3 : w48.cell? ⟨gb35001, 3, none⟩ = some (.int .i64 a0_3) := (blk_cell BK35001.out 3).trans rfl; have hcz49_4 : w48.cell? ⟨gb35001, 4, none⟩ = some (.slice A0_4 l0_4.length c0_4) := (blk_cell BK35001.out 4).trans rfl; have hfz49_0 := blk_frozen BK35001.out 0; have hfz49_1 := blk_frozen BK35001.out 1; have hfz49_2 := blk_frozen BK35001.out 2; have hfz49_3 := blk_frozen BK35001.out 3; have hfz49_4 := blk_frozen BK35001.out 4) | (go_at_call 18; (with_reducible refine (dataflowref07_Ident.calls k a0_0 false _ A2.out).mono ?_); rintro e w50 ⟨rfl, hb⟩; have n0_ := Aside0.mk (blk_below (g := gb35001) (o := .cells #[.string a0_0, .slice A0_1 l0_1.length c0_1, .int .i64 a0_2, .int .i64 a0_3, .slice A0_4 l0_4.length c0_4] 35 (0, 0)) (by (with_reducible repeat (first | refine blk_drewN ?_ _ | refine blk_drew ?_ | refine blk_alloc ?_ _)); exact BK35001.out) hb); have n1_ := Aside0.mk (below_step (by repeat (first | (with_reducible first | exact HB.out | apply below_alloc | apply pw_below_drewN | apply below_drew1 | refine below_set ?_ GE35001.out) | exact HB.out)) hb); clear BK35001; clear HB; have BK35001 := n0_; have HB := n1_; clear n0_ n1_; (try clear hb); (try clear hb2); (try clear hk); (try clear hi))))
    go_ret
    exact ⟨by first | rfl | (simp [errW_none, errW_some] <;> rfl) | (simp [*, errW_none, errW_some] <;> rfl), by repeat (first | (with_reducible first | exact HB.out | apply below_alloc | apply pw_below_drewN | apply below_drew1 | refine below_set ?_ GE35001.out) | exact HB.out)⟩

/-! ### dataflowref39_Step: function 26 -/
mutual
def dataflowref39_Step.j0 : Nat → Int → ByteArray → Bool → ByteArray → List ByteArray → Int → Int → List (S64) → Option (Int)
  | 0, _, _, _, _, _, _, _, _ => none
  | k + 1, x1, x2, x21, x27002000, x27002001, x27002002, x27002003, x27002004 => if x21 = true then (some (-1)) else (dataflowref39_Step.l0 k x1 x2 0 x27002000 x27002001 x27002002 x27002003 x27002004)
def dataflowref39_Step.l0 : Nat → Int → ByteArray → Int → ByteArray → List ByteArray → Int → Int → List (S64) → Option (Int)
  | 0, _, _, _, _, _, _, _, _ => none
  | k + 1, x1, x2, x7, x27002000, x27002001, x27002002, x27002003, x27002004 => if x7 < (x27002004.length : Int) then (if 0 ≤ x7 then (if ((rd_T64 x27002004 x7).f0) = x1 then (if ((rd_T64 x27002004 x7).f1).toList = x2.toList then (some ((rd_T64 x27002004 x7).f2)) else (dataflowref39_Step.l0 k x1 x2 (wrap64 (x7 + 1)) x27002000 x27002001 x27002002 x27002003 x27002004)) else (dataflowref39_Step.l0 k x1 x2 (wrap64 (x7 + 1)) x27002000 x27002001 x27002002 x27002003 x27002004)) else (none)) else (some x1)
end
def dataflowref39_Step.f (k : Nat) (a0_0 : ByteArray) (l0_1 : List ByteArray) (a0_2 : Int) (a0_3 : Int) (l0_4 : List (S64)) (a1 : Int) (a2 : ByteArray) : Option (Int) := (dataflowref39_Check.f k a0_0 l0_1 a0_2 a0_3 l0_4).bind fun t27002 => (if t27002 = 0 then (if a1 < 0 then (dataflowref39_Step.j0 k a1 a2 true a0_0 l0_1 a0_2 a0_3 l0_4) else (dataflowref39_Step.j0 k a1 a2 (decide (a1 ≥ (l0_1.length : Int))) a0_0 l0_1 a0_2 a0_3 l0_4)) else (dataflowref39_Step.j0 k a1 a2 true a0_0 l0_1 a0_2 a0_3 l0_4))
theorem dataflowref39_Step.mono_l : ∀ k, (∀ y0 y1 y2 y3 y4 y5 y6 y7, LeO (dataflowref39_Step.j0 k y0 y1 y2 y3 y4 y5 y6 y7) (dataflowref39_Step.j0 (k + 1) y0 y1 y2 y3 y4 y5 y6 y7)) ∧ (∀ y0 y1 y2 y3 y4 y5 y6 y7, LeO (dataflowref39_Step.l0 k y0 y1 y2 y3 y4 y5 y6 y7) (dataflowref39_Step.l0 (k + 1) y0 y1 y2 y3 y4 y5 y6 y7))
  | 0 => ⟨fun _ _ _ _ _ _ _ _ r h => by simp [dataflowref39_Step.j0] at h, fun _ _ _ _ _ _ _ _ r h => by simp [dataflowref39_Step.l0] at h⟩
  | k + 1 => by
    obtain ⟨ih0, ih1⟩ := dataflowref39_Step.mono_l k
    refine ⟨?_, ?_⟩
    · intro y0 y1 y2 y3 y4 y5 y6 y7
      unfold dataflowref39_Step.j0
      repeat' first
      | (with_reducible exact ih0 _ _ _ _ _ _ _ _)
      | (with_reducible exact ih1 _ _ _ _ _ _ _ _)
      | (with_reducible exact dataflowref39_Check.mono _ _ _ _ _ _)
      | (with_reducible exact LeO.refl _)
      | (with_reducible exact LeO.none _)
      | (with_reducible refine LeO.ite ?_ ?_)
      | (with_reducible refine LeO.bind ?_ (fun _ => ?_))
      | exact ih0 _ _ _ _ _ _ _ _
      | exact ih1 _ _ _ _ _ _ _ _
      | exact dataflowref39_Check.mono _ _ _ _ _ _
      | exact LeO.none _
      | refine LeO.ite ?_ ?_
      | refine LeO.bind ?_ (fun _ => ?_)
    · intro y0 y1 y2 y3 y4 y5 y6 y7
      unfold dataflowref39_Step.l0
      repeat' first
      | (with_reducible exact ih0 _ _ _ _ _ _ _ _)
      | (with_reducible exact ih1 _ _ _ _ _ _ _ _)
      | (with_reducible exact dataflowref39_Check.mono _ _ _ _ _ _)
      | (with_reducible exact LeO.refl _)
      | (with_reducible exact LeO.none _)
      | (with_reducible refine LeO.ite ?_ ?_)
      | (with_reducible refine LeO.bind ?_ (fun _ => ?_))
      | exact ih0 _ _ _ _ _ _ _ _
      | exact ih1 _ _ _ _ _ _ _ _
      | exact dataflowref39_Check.mono _ _ _ _ _ _
      | exact LeO.none _
      | refine LeO.ite ?_ ?_
      | refine LeO.bind ?_ (fun _ => ?_)
theorem dataflowref39_Step.mono : ∀ a0 a1 a2 a3 a4 a5 a6 k, LeO (dataflowref39_Step.f k a0 a1 a2 a3 a4 a5 a6) (dataflowref39_Step.f (k + 1) a0 a1 a2 a3 a4 a5 a6) := by
  intro a0 a1 a2 a3 a4 a5 a6 k
  obtain ⟨ih0, ih1⟩ := dataflowref39_Step.mono_l k
  unfold dataflowref39_Step.f
  repeat' first
      | (with_reducible exact ih0 _ _ _ _ _ _ _ _)
      | (with_reducible exact ih1 _ _ _ _ _ _ _ _)
      | (with_reducible exact dataflowref39_Check.mono _ _ _ _ _ _)
      | (with_reducible exact LeO.refl _)
      | (with_reducible exact LeO.none _)
      | (with_reducible refine LeO.ite ?_ ?_)
      | (with_reducible refine LeO.bind ?_ (fun _ => ?_))
      | exact ih0 _ _ _ _ _ _ _ _
      | exact ih1 _ _ _ _ _ _ _ _
      | exact dataflowref39_Check.mono _ _ _ _ _ _
      | exact LeO.none _
      | refine LeO.ite ?_ ?_
      | refine LeO.bind ?_ (fun _ => ?_)
set_option maxHeartbeats 8000000 in
set_option maxRecDepth 100000 in
theorem dataflowref39_Step.calls (k : Nat) (a0_0 : ByteArray) (A0_1 : Option Addr) (c0_1 : Nat) (l0_1 : List ByteArray) (a0_2 : Int) (a0_3 : Int) (A0_4 : Option Addr) (c0_4 : Nat) (l0_4 : List (S64)) (a1 : Int) (a2 : ByteArray) (r : Int) (w : World) (hr0_1 : Kd.C Kd.string w A0_1 l0_1.length l0_1) (hc0_1 : l0_1.length ≤ c0_1) (hr0_4 : Kd.C k64 w A0_4 l0_4.length l0_4) (hc0_4 : l0_4.length ≤ c0_4) (h : dataflowref39_Step.f k a0_0 l0_1 a0_2 a0_3 l0_4 a1 a2 = some r) :
    Calls Tryd.prog 26 #[.agg #[.string a0_0, .slice A0_1 l0_1.length c0_1, .int .i64 a0_2, .int .i64 a0_3, .slice A0_4 l0_4.length c0_4], .int .i64 a1, .string a2] w fun e w' => e = .returned (.int .i64 r) ∧ Below w.heap.size w w' := by
  have hu35 := Tryd.underlying35
  have HR0_1 := Aside0.mk hr0_1
  have HC0_1 := Aside0.mk hc0_1
  clear hr0_1 hc0_1
  have HR0_4 := Aside0.mk hr0_4
  have HC0_4 := Aside0.mk hc0_4
  clear hr0_4 hc0_4
  have HB := Aside0.mk (Below.refl w.heap.size w)
  have H : ((dataflowref39_Check.f k a0_0 l0_1 a0_2 a0_3 l0_4).bind fun t27002 => (if t27002 = 0 then (if a1 < 0 then (dataflowref39_Step.j0 k a1 a2 true a0_0 l0_1 a0_2 a0_3 l0_4) else (dataflowref39_Step.j0 k a1 a2 (decide (a1 ≥ (l0_1.length : Int))) a0_0 l0_1 a0_2 a0_3 l0_4)) else (dataflowref39_Step.j0 k a1 a2 true a0_0 l0_1 a0_2 a0_3 l0_4))) = some r := h
  clear h
  have HC4 := Aside0.mk H
  clear H
  go_enter Tryd.func26, Tryd.ntmps26
  go_upto_region 1 with (first | ((with_reducible refine gate_dst (N := 3) rfl ?_); (try (refine gate_guard (by rfl) ?_; dsimp only)); refine box_event ?hg (N := 3) ?hd (cs := #[.string a0_0, .slice A0_1 l0_1.length c0_1, .int .i64 a0_2, .int .i64 a0_3, .slice A0_4 l0_4.length c0_4]) (t := 35) ?hr ?_; (case hd => rfl); (case hg => rfl); (case hr => first | (go_simp; done) | (go_simp; rfl)); intro gb27001 hg w5 hbox hb; have n0_ := Aside0.mk (below_step (by repeat (first | (with_reducible first | exact HB.out | apply below_alloc | apply pw_below_drewN | apply below_drew1) | exact HB.out)) hb); have n1_ := Aside0.mk (hbox); have n2_ := Aside0.mk ((by rw [hg]; exact (below_size (by repeat (first | (with_reducible first | exact HB.out | apply below_alloc | apply pw_below_drewN | apply below_drew1) | exact HB.out))) : w.heap.size ≤ gb27001)); have n3_ := Aside0.mk ((by rw [hg]; exact (below_size (by repeat (first | (with_reducible first | exact HB.out | apply below_alloc | apply pw_below_drewN | apply below_drew1) | exact HB.out))) : w.heap.size ≤ gb27001)); clear HB; have HB := n0_; have BK27001 := n1_; have GW27001 := n2_; have GE27001 := n3_; clear n0_ n1_ n2_ n3_; clear hb hbox hg))
  (try simp only [Act.put, List.setIfInBounds_toArray, List.set_cons_zero, List.set_cons_succ])
  go_cut [21] (fun v21 wc => ∃ (kq : Nat) (x21_3 : Bool), v21 = .bool x21_3 ∧ Aside0 (dataflowref39_Step.j0 kq a1 a2 x21_3 a0_0 l0_1 a0_2 a0_3 l0_4 = some r) ∧ Aside0 (kq ≤ k) ∧ Aside0 (wc.heap[gb27001]? = some (.cells #[.string a0_0, (.slice A0_1 l0_1.length c0_1), .int .i64 a0_2, .int .i64 a0_3, (.slice A0_4 l0_4.length c0_4)] 35 (0, 0))) ∧ Aside0 (Below w.heap.size w wc))
  case first =>
    have H := HC4.out
    clear HC4
    replace H := Option.bind_eq_some_iff.mp H
    obtain ⟨t27002, A60, H⟩ := H
    replace H : (if t27002 = 0 then (if a1 < 0 then (dataflowref39_Step.j0 k a1 a2 true a0_0 l0_1 a0_2 a0_3 l0_4) else (dataflowref39_Step.j0 k a1 a2 (decide (a1 ≥ (l0_1.length : Int))) a0_0 l0_1 a0_2 a0_3 l0_4)) else (dataflowref39_Step.j0 k a1 a2 true a0_0 l0_1 a0_2 a0_3 l0_4)) = some r := H
    have A6 := Aside0.mk A60
    clear A60
    by_cases c7 : t27002 = 0
    · rw [if_pos c7] at H
      have c7b0 : (t27002 == 0) = true := beq_iff_eq.mpr c7
      have c7b1 : (t27002 != 0) = false := bne_eq_false_iff_eq.mpr c7
      clear c7
      (first | rw [c7b0] | (simp only [i64_w, i32_w]; rw [c7b0]) | skip)
      by_cases c8 : a1 < 0
      · rw [if_pos c8] at H
        have c8b0 : decide (a1 < 0) = true := decide_eq_true c8
        clear c8
        have H' := Aside0.mk H
        clear H
        have hcz9_0 : w5.cell? ⟨gb27001, 0, none⟩ = some (.string a0_0) := (blk_cell BK27001.out 0).trans rfl
        have hcz9_1 : w5.cell? ⟨gb27001, 1, none⟩ = some (.slice A0_1 l0_1.length c0_1) := (blk_cell BK27001.out 1).trans rfl
        have hcz9_2 : w5.cell? ⟨gb27001, 2, none⟩ = some (.int .i64 a0_2) := (blk_cell BK27001.out 2).trans rfl
        have hcz9_3 : w5.cell? ⟨gb27001, 3, none⟩ = some (.int .i64 a0_3) := (blk_cell BK27001.out 3).trans rfl
        have hcz9_4 : w5.cell? ⟨gb27001, 4, none⟩ = some (.slice A0_4 l0_4.length c0_4) := (blk_cell BK27001.out 4).trans rfl
        have hfz9_0 := blk_frozen BK27001.out 0
        have hfz9_1 := blk_frozen BK27001.out 1
        have hfz9_2 := blk_frozen BK27001.out 2
        have hfz9_3 := blk_frozen BK27001.out 3
        have hfz9_4 := blk_frozen BK27001.out 4
        go_wp2_with (first | ((with_reducible refine gate_callee (f := 34) rfl ?_); refine goesL_ (some 9) rfl rfl Tryd.func34 (by kernel_rfl) rfl #[.agg #[.string a0_0, .slice A0_1 l0_1.length c0_1, .int .i64 a0_2, .int .i64 a0_3, .slice A0_4 l0_4.length c0_4]] rfl (by (try simp only [List.map_toArray, List.map_cons, List.map_nil]); first | done | rfl | (simp only [List.length_drop, List.length_take]; rfl)) ?_; (with_reducible refine (dataflowref39_Check.calls k a0_0 _ _ l0_1 a0_2 a0_3 _ _ l0_4 t27002 _ ?side1 ?side2 ?side3 ?side4 A6.out).mono ?_); (case side1 => repeat (first | exact (Kd.C_below HR0_1.out HB.out) | (with_reducible refine Kd.C_alloc ?_ _) | (with_reducible refine Kd.C_drewN ?_ _) | (with_reducible refine Kd.C_drew ?_))); (case side2 => exact HC0_1.out); (case side3 => repeat (first | exact (Kd.C_below HR0_4.out HB.out) | (with_reducible refine Kd.C_alloc ?_ _) | (with_reducible refine Kd.C_drewN ?_ _) | (with_reducible refine Kd.C_drew ?_))); (case side4 => exact HC0_4.out); rintro e w10 ⟨rfl, hb⟩; refine ⟨_, rfl, ?_⟩; have n0_ := Aside0.mk (blk_below (g := gb27001) (o := .cells #[.string a0_0, .slice A0_1 l0_1.length c0_1, .int .i64 a0_2, .int .i64 a0_3, .slice A0_4 l0_4.length c0_4] 35 (0, 0)) (by (with_reducible repeat (first | refine blk_drewN ?_ _ | refine blk_drew ?_ | refine blk_alloc ?_ _)); exact BK27001.out) hb); have n1_ := Aside0.mk (below_step (by repeat (first | (with_reducible first | exact HB.out | apply below_alloc | apply pw_below_drewN | apply below_drew1 | refine below_set ?_ GE27001.out) | exact HB.out)) hb); clear BK27001; clear HB; have BK27001 := n0_; have HB := n1_; clear n0_ n1_; (try clear hb); (try clear hb2); (try clear hk); (try clear hi)))
        go_meet
        case rel => exact ⟨_, (true), (by first | rfl | (simp; done) | (simp [*]; done)), H', ⟨by first | omega | exact Nat.le_refl _⟩, ⟨by (with_reducible repeat (first | refine blk_drewN ?_ _ | refine blk_drew ?_ | refine blk_alloc ?_ _)); exact BK27001.out⟩, ⟨by repeat (first | (with_reducible first | exact HB.out | apply below_alloc | apply pw_below_drewN | apply below_drew1 | refine below_set ?_ GE27001.out) | exact HB.out)⟩⟩
      · rw [if_neg c8] at H
        have c8b0 : decide (a1 < 0) = false := decide_eq_false c8
        clear c8
        have H' := Aside0.mk H
        clear H
        have hcz11_0 : w5.cell? ⟨gb27001, 0, none⟩ = some (.string a0_0) := (blk_cell BK27001.out 0).trans rfl
        have hcz11_1 : w5.cell? ⟨gb27001, 1, none⟩ = some (.slice A0_1 l0_1.length c0_1) := (blk_cell BK27001.out 1).trans rfl
        have hcz11_2 : w5.cell? ⟨gb27001, 2, none⟩ = some (.int .i64 a0_2) := (blk_cell BK27001.out 2).trans rfl
        have hcz11_3 : w5.cell? ⟨gb27001, 3, none⟩ = some (.int .i64 a0_3) := (blk_cell BK27001.out 3).trans rfl
        have hcz11_4 : w5.cell? ⟨gb27001, 4, none⟩ = some (.slice A0_4 l0_4.length c0_4) := (blk_cell BK27001.out 4).trans rfl
        have hfz11_0 := blk_frozen BK27001.out 0
        have hfz11_1 := blk_frozen BK27001.out 1
        have hfz11_2 := blk_frozen BK27001.out 2
        have hfz11_3 := blk_frozen BK27001.out 3
        have hfz11_4 := blk_frozen BK27001.out 4
        go_wp2_with (first | ((with_reducible refine gate_callee (f := 34) rfl ?_); refine goesL_ (some 9) rfl rfl Tryd.func34 (by kernel_rfl) rfl #[.agg #[.string a0_0, .slice A0_1 l0_1.length c0_1, .int .i64 a0_2, .int .i64 a0_3, .slice A0_4 l0_4.length c0_4]] rfl (by (try simp only [List.map_toArray, List.map_cons, List.map_nil]); first | done | rfl | (simp only [List.length_drop, List.length_take]; rfl)) ?_; (with_reducible refine (dataflowref39_Check.calls k a0_0 _ _ l0_1 a0_2 a0_3 _ _ l0_4 t27002 _ ?side1 ?side2 ?side3 ?side4 A6.out).mono ?_); (case side1 => repeat (first | exact (Kd.C_below HR0_1.out HB.out) | (with_reducible refine Kd.C_alloc ?_ _) | (with_reducible refine Kd.C_drewN ?_ _) | (with_reducible refine Kd.C_drew ?_))); (case side2 => exact HC0_1.out); (case side3 => repeat (first | exact (Kd.C_below HR0_4.out HB.out) | (with_reducible refine Kd.C_alloc ?_ _) | (with_reducible refine Kd.C_drewN ?_ _) | (with_reducible refine Kd.C_drew ?_))); (case side4 => exact HC0_4.out); rintro e w12 ⟨rfl, hb⟩; refine ⟨_, rfl, ?_⟩; have n0_ := Aside0.mk (blk_below (g := gb27001) (o := .cells #[.string a0_0, .slice A0_1 l0_1.length c0_1, .int .i64 a0_2, .int .i64 a0_3, .slice A0_4 l0_4.length c0_4] 35 (0, 0)) (by (with_reducible repeat (first | refine blk_drewN ?_ _ | refine blk_drew ?_ | refine blk_alloc ?_ _)); exact BK27001.out) hb); have n1_ := Aside0.mk (below_step (by repeat (first | (with_reducible first | exact HB.out | apply below_alloc | apply pw_below_drewN | apply below_drew1 | refine below_set ?_ GE27001.out) | exact HB.out)) hb); clear BK27001; clear HB; have BK27001 := n0_; have HB := n1_; clear n0_ n1_; (try clear hb); (try clear hb2); (try clear hk); (try clear hi); have hcz13_0 : w12.cell? ⟨gb27001, 0, none⟩ = some (.string a0_0) := (blk_cell BK27001.out 0).trans rfl; have hcz13_1 : w12.cell? ⟨gb27001, 1, none⟩ = some (.slice A0_1 l0_1.length c0_1) := (blk_cell BK27001.out 1).trans rfl; have hcz13_2 : w12.cell? ⟨gb27001, 2, none⟩ = some (.int .i64 a0_2) := (blk_cell BK27001.out 2).trans rfl; have hcz13_3 : w12.cell? ⟨gb27001, 3, none⟩ = some (.int .i64 a0_3) := (blk_cell BK27001.out 3).trans rfl; have hcz13_4 : w12.cell? ⟨gb27001, 4, none⟩ = some (.slice A0_4 l0_4.length c0_4) := (blk_cell BK27001.out 4).trans rfl; have hfz13_0 := blk_frozen BK27001.out 0; have hfz13_1 := blk_frozen BK27001.out 1; have hfz13_2 := blk_frozen BK27001.out 2; have hfz13_3 := blk_frozen BK27001.out 3; have hfz13_4 := blk_frozen BK27001.out 4))
        go_meet
        case rel => exact ⟨_, (decide (a1 ≥ (l0_1.length : Int))), (by first | rfl | (simp; done) | (simp [*]; done)), H', ⟨by first | omega | exact Nat.le_refl _⟩, ⟨by (with_reducible repeat (first | refine blk_drewN ?_ _ | refine blk_drew ?_ | refine blk_alloc ?_ _)); exact BK27001.out⟩, ⟨by repeat (first | (with_reducible first | exact HB.out | apply below_alloc | apply pw_below_drewN | apply below_drew1 | refine below_set ?_ GE27001.out) | exact HB.out)⟩⟩
    · rw [if_neg c7] at H
      have c7b0 : (t27002 == 0) = false := beq_eq_false_iff_ne.mpr c7
      have c7b1 : (t27002 != 0) = true := bne_iff_ne.mpr c7
      (first | rw [c7b0] | (simp only [i64_w, i32_w]; rw [c7b0]) | skip)
      have H' := Aside0.mk H
      clear H
      have hcz14_0 : w5.cell? ⟨gb27001, 0, none⟩ = some (.string a0_0) := (blk_cell BK27001.out 0).trans rfl
      have hcz14_1 : w5.cell? ⟨gb27001, 1, none⟩ = some (.slice A0_1 l0_1.length c0_1) := (blk_cell BK27001.out 1).trans rfl
      have hcz14_2 : w5.cell? ⟨gb27001, 2, none⟩ = some (.int .i64 a0_2) := (blk_cell BK27001.out 2).trans rfl
      have hcz14_3 : w5.cell? ⟨gb27001, 3, none⟩ = some (.int .i64 a0_3) := (blk_cell BK27001.out 3).trans rfl
      have hcz14_4 : w5.cell? ⟨gb27001, 4, none⟩ = some (.slice A0_4 l0_4.length c0_4) := (blk_cell BK27001.out 4).trans rfl
      have hfz14_0 := blk_frozen BK27001.out 0
      have hfz14_1 := blk_frozen BK27001.out 1
      have hfz14_2 := blk_frozen BK27001.out 2
      have hfz14_3 := blk_frozen BK27001.out 3
      have hfz14_4 := blk_frozen BK27001.out 4
      go_wp2_with (first | ((with_reducible refine gate_callee (f := 34) rfl ?_); refine goesL_ (some 9) rfl rfl Tryd.func34 (by kernel_rfl) rfl #[.agg #[.string a0_0, .slice A0_1 l0_1.length c0_1, .int .i64 a0_2, .int .i64 a0_3, .slice A0_4 l0_4.length c0_4]] rfl (by (try simp only [List.map_toArray, List.map_cons, List.map_nil]); first | done | rfl | (simp only [List.length_drop, List.length_take]; rfl)) ?_; (with_reducible refine (dataflowref39_Check.calls k a0_0 _ _ l0_1 a0_2 a0_3 _ _ l0_4 t27002 _ ?side1 ?side2 ?side3 ?side4 A6.out).mono ?_); (case side1 => repeat (first | exact (Kd.C_below HR0_1.out HB.out) | (with_reducible refine Kd.C_alloc ?_ _) | (with_reducible refine Kd.C_drewN ?_ _) | (with_reducible refine Kd.C_drew ?_))); (case side2 => exact HC0_1.out); (case side3 => repeat (first | exact (Kd.C_below HR0_4.out HB.out) | (with_reducible refine Kd.C_alloc ?_ _) | (with_reducible refine Kd.C_drewN ?_ _) | (with_reducible refine Kd.C_drew ?_))); (case side4 => exact HC0_4.out); rintro e w15 ⟨rfl, hb⟩; refine ⟨_, rfl, ?_⟩; have n0_ := Aside0.mk (blk_below (g := gb27001) (o := .cells #[.string a0_0, .slice A0_1 l0_1.length c0_1, .int .i64 a0_2, .int .i64 a0_3, .slice A0_4 l0_4.length c0_4] 35 (0, 0)) (by (with_reducible repeat (first | refine blk_drewN ?_ _ | refine blk_drew ?_ | refine blk_alloc ?_ _)); exact BK27001.out) hb); have n1_ := Aside0.mk (below_step (by repeat (first | (with_reducible first | exact HB.out | apply below_alloc | apply pw_below_drewN | apply below_drew1 | refine below_set ?_ GE27001.out) | exact HB.out)) hb); clear BK27001; clear HB; have BK27001 := n0_; have HB := n1_; clear n0_ n1_; (try clear hb); (try clear hb2); (try clear hk); (try clear hi)))
      go_meet
      case rel => exact ⟨_, (true), (by first | rfl | (simp; done) | (simp [*]; done)), H', ⟨by first | omega | exact Nat.le_refl _⟩, ⟨by (with_reducible repeat (first | refine blk_drewN ?_ _ | refine blk_drew ?_ | refine blk_alloc ?_ _)); exact BK27001.out⟩, ⟨by repeat (first | (with_reducible first | exact HB.out | apply below_alloc | apply pw_below_drewN | apply below_drew1 | refine below_set ?_ GE27001.out) | exact HB.out)⟩⟩
  case rest =>
    clear HC4
    try clear c2
    try clear p2
    try clear c3
    try clear c7
    try clear c7b0
    try clear c7b1
    try clear c8
    try clear c8b0
    try clear hcz11_0
    try clear hcz11_1
    try clear hcz11_2
    try clear hcz11_3
    try clear hcz11_4
    try clear hcz13_0
    try clear hcz13_1
    try clear hcz13_2
    try clear hcz13_3
    try clear hcz13_4
    try clear hcz14_0
    try clear hcz14_1
    try clear hcz14_2
    try clear hcz14_3
    try clear hcz14_4
    try clear hcz9_0
    try clear hcz9_1
    try clear hcz9_2
    try clear hcz9_3
    try clear hcz9_4
    try clear hfz11_0
    try clear hfz11_1
    try clear hfz11_2
    try clear hfz11_3
    try clear hfz11_4
    try clear hfz13_0
    try clear hfz13_1
    try clear hfz13_2
    try clear hfz13_3
    try clear hfz13_4
    try clear hfz14_0
    try clear hfz14_1
    try clear hfz14_2
    try clear hfz14_3
    try clear hfz14_4
    try clear hfz9_0
    try clear hfz9_1
    try clear hfz9_2
    try clear hfz9_3
    try clear hfz9_4
    obtain ⟨kq, x21_3, rfl, HA, HJ3, BK27001, HB⟩ := hcut
    cases kq with
    | zero => exact absurd HA.out (by simp [dataflowref39_Step.j0])
    | succ kj3 =>
      have H := HA.out
      clear HA
      simp only [dataflowref39_Step.j0] at H
      by_cases c16 : x21_3 = true
      · subst c16
        have H1 : (some (-1)) = some r := by rw [if_pos rfl] at H; exact H
        clear H
        have H := H1
        clear H1
        obtain rfl := Option.some.inj H
        go_wp2
        go_ret
        exact ⟨by first | rfl | (simp [errW_none, errW_some] <;> rfl) | (simp [*, errW_none, errW_some] <;> rfl), by repeat (first | (with_reducible first | exact HB.out | apply below_alloc | apply pw_below_drewN | apply below_drew1 | refine below_set ?_ GE27001.out) | exact HB.out)⟩
      · replace c16 := Bool.eq_false_iff.mpr c16
        subst c16
        have H1 : (dataflowref39_Step.l0 kj3 a1 a2 0 a0_0 l0_1 a0_2 a0_3 l0_4) = some r := by rw [if_neg (show ¬ (false = true) by decide)] at H; exact H
        clear H
        have H := H1
        clear H1
        have H' := Aside0.mk H
        clear H
        go_wp2
        go_loopg [7] kj3 (fun kq v7 w' => ∃ (x7_2 : Int), v7 = .int .i64 x7_2 ∧ Aside0 (dataflowref39_Step.l0 kq a1 a2 x7_2 a0_0 l0_1 a0_2 a0_3 l0_4 = some r) ∧ Aside0 (kq ≤ kj3) ∧ Aside0 (w'.heap[gb27001]? = some (.cells #[.string a0_0, (.slice A0_1 l0_1.length c0_1), .int .i64 a0_2, .int .i64 a0_3, (.slice A0_4 l0_4.length c0_4)] 35 (0, 0))) ∧ Aside0 (Below w.heap.size w w'))
        case atStart => exact ⟨(0), (by first | rfl | (simp; done) | (simp [*]; done)), H', ⟨Nat.le_refl _⟩, ⟨by (with_reducible repeat (first | refine blk_drewN ?_ _ | refine blk_drew ?_ | refine blk_alloc ?_ _)); exact BK27001.out⟩, ⟨by repeat (first | (with_reducible first | exact HB.out | apply below_alloc | apply pw_below_drewN | apply below_drew1 | refine below_set ?_ GE27001.out) | exact HB.out)⟩⟩
        case round =>
          clear H'
          try clear c1
          try clear c2
          try clear p2
          try clear c3
          try clear c7
          try clear c7b0
          try clear c7b1
          try clear c8
          try clear c8b0
          try clear c16
          try clear hcz11_0
          try clear hcz11_1
          try clear hcz11_2
          try clear hcz11_3
          try clear hcz11_4
          try clear hcz13_0
          try clear hcz13_1
          try clear hcz13_2
          try clear hcz13_3
          try clear hcz13_4
          try clear hcz14_0
          try clear hcz14_1
          try clear hcz14_2
          try clear hcz14_3
          try clear hcz14_4
          try clear hcz9_0
          try clear hcz9_1
          try clear hcz9_2
          try clear hcz9_3
          try clear hcz9_4
          try clear hfz11_0
          try clear hfz11_1
          try clear hfz11_2
          try clear hfz11_3
          try clear hfz11_4
          try clear hfz13_0
          try clear hfz13_1
          try clear hfz13_2
          try clear hfz13_3
          try clear hfz13_4
          try clear hfz14_0
          try clear hfz14_1
          try clear hfz14_2
          try clear hfz14_3
          try clear hfz14_4
          try clear hfz9_0
          try clear hfz9_1
          try clear hfz9_2
          try clear hfz9_3
          try clear hfz9_4
          try clear p2
          obtain ⟨x7_2, rfl, HA, HK2, BK27001, HB⟩ := hrel
          cases gk with
          | zero => exact absurd HA.out (by simp [dataflowref39_Step.l0])
          | succ k2 =>
            have H := HA.out
            clear HA
            simp only [dataflowref39_Step.l0] at H
            by_cases c17 : x7_2 < (l0_4.length : Int)
            · rw [if_pos c17] at H
              have c17b0 : decide (x7_2 < (l0_4.length : Int)) = true := decide_eq_true c17
              clear c17
              by_cases c18 : 0 ≤ x7_2
              · rw [if_pos c18] at H
                have c18b0 : decide (0 ≤ x7_2) = true := decide_eq_true c18
                clear c18
                by_cases c19 : ((rd_T64 l0_4 x7_2).f0) = a1
                · rw [if_pos c19] at H
                  have c19b0 : (((rd_T64 l0_4 x7_2).f0) == a1) = true := beq_iff_eq.mpr c19
                  have c19b1 : (((rd_T64 l0_4 x7_2).f0) != a1) = false := bne_eq_false_iff_eq.mpr c19
                  clear c19
                  by_cases c20 : ((rd_T64 l0_4 x7_2).f1).toList = a2.toList
                  · rw [if_pos c20] at H
                    have c20b0 : (((rd_T64 l0_4 x7_2).f1).toList == a2.toList) = true := beq_iff_eq.mpr c20
                    have c20b1 : (((rd_T64 l0_4 x7_2).f1).toList != a2.toList) = false := bne_eq_false_iff_eq.mpr c20
                    clear c20
                    obtain rfl := Option.some.inj H
                    have hcz21_0 : wr.cell? ⟨gb27001, 0, none⟩ = some (.string a0_0) := (blk_cell BK27001.out 0).trans rfl
                    have hcz21_1 : wr.cell? ⟨gb27001, 1, none⟩ = some (.slice A0_1 l0_1.length c0_1) := (blk_cell BK27001.out 1).trans rfl
                    have hcz21_2 : wr.cell? ⟨gb27001, 2, none⟩ = some (.int .i64 a0_2) := (blk_cell BK27001.out 2).trans rfl
                    have hcz21_3 : wr.cell? ⟨gb27001, 3, none⟩ = some (.int .i64 a0_3) := (blk_cell BK27001.out 3).trans rfl
                    have hcz21_4 : wr.cell? ⟨gb27001, 4, none⟩ = some (.slice A0_4 l0_4.length c0_4) := (blk_cell BK27001.out 4).trans rfl
                    have hfz21_0 := blk_frozen BK27001.out 0
                    have hfz21_1 := blk_frozen BK27001.out 1
                    have hfz21_2 := blk_frozen BK27001.out 2
                    have hfz21_3 := blk_frozen BK27001.out 3
                    have hfz21_4 := blk_frozen BK27001.out 4
                    have p27003 : 0 ≤ (x7_2 : Int) := of_decide_eq_true (by first | (with_reducible assumption) | assumption)
                    have q27003 : x7_2 < (l0_4.length : Int) := of_decide_eq_true (by first | (with_reducible assumption) | assumption)
                    obtain ⟨ad27003, e27003, hx27003_0, hx27003_1, hx27003_2⟩ := at_T64 HR0_4.out x7_2 p27003 q27003
                    cases e27003
                    replace hx27003_0 := (HB.out.cell (World.block_lt_of_cell? w _ hx27003_0)).trans hx27003_0
                    replace hx27003_1 := (HB.out.cell (World.block_lt_of_cell? w _ hx27003_1)).trans hx27003_1
                    replace hx27003_2 := (HB.out.cell (World.block_lt_of_cell? w _ hx27003_2)).trans hx27003_2
                    replace p27003 := eq_true p27003
                    replace q27003 := eq_true q27003
                    have p27004 : 0 ≤ (x7_2 : Int) := of_decide_eq_true (by first | (with_reducible assumption) | assumption)
                    have q27004 : x7_2 < (l0_4.length : Int) := of_decide_eq_true (by first | (with_reducible assumption) | assumption)
                    obtain ⟨ad27004, e27004, hx27004_0, hx27004_1, hx27004_2⟩ := at_T64 HR0_4.out x7_2 p27004 q27004
                    obtain rfl : ad27003 = ad27004 := (by injection e27004)
                    replace hx27004_0 := (HB.out.cell (World.block_lt_of_cell? w _ hx27004_0)).trans hx27004_0
                    replace hx27004_1 := (HB.out.cell (World.block_lt_of_cell? w _ hx27004_1)).trans hx27004_1
                    replace hx27004_2 := (HB.out.cell (World.block_lt_of_cell? w _ hx27004_2)).trans hx27004_2
                    replace p27004 := eq_true p27004
                    replace q27004 := eq_true q27004
                    have p27005 : 0 ≤ (x7_2 : Int) := of_decide_eq_true (by first | (with_reducible assumption) | assumption)
                    have q27005 : x7_2 < (l0_4.length : Int) := of_decide_eq_true (by first | (with_reducible assumption) | assumption)
                    obtain ⟨ad27005, e27005, hx27005_0, hx27005_1, hx27005_2⟩ := at_T64 HR0_4.out x7_2 p27005 q27005
                    obtain rfl : ad27003 = ad27005 := (by injection e27005)
                    replace hx27005_0 := (HB.out.cell (World.block_lt_of_cell? w _ hx27005_0)).trans hx27005_0
                    replace hx27005_1 := (HB.out.cell (World.block_lt_of_cell? w _ hx27005_1)).trans hx27005_1
                    replace hx27005_2 := (HB.out.cell (World.block_lt_of_cell? w _ hx27005_2)).trans hx27005_2
                    replace p27005 := eq_true p27005
                    replace q27005 := eq_true q27005
                    go_wp2
                    go_ret
                    exact ⟨by first | rfl | (simp [errW_none, errW_some] <;> rfl) | (simp [*, errW_none, errW_some] <;> rfl), by repeat (first | (with_reducible first | exact HB.out | apply below_alloc | apply pw_below_drewN | apply below_drew1 | refine below_set ?_ GE27001.out) | exact HB.out)⟩
                  · rw [if_neg c20] at H
                    have c20b0 : (((rd_T64 l0_4 x7_2).f1).toList == a2.toList) = false := beq_eq_false_iff_ne.mpr c20
                    have c20b1 : (((rd_T64 l0_4 x7_2).f1).toList != a2.toList) = true := bne_iff_ne.mpr c20
                    have H' := Aside0.mk H
                    clear H
                    have hcz22_0 : wr.cell? ⟨gb27001, 0, none⟩ = some (.string a0_0) := (blk_cell BK27001.out 0).trans rfl
                    have hcz22_1 : wr.cell? ⟨gb27001, 1, none⟩ = some (.slice A0_1 l0_1.length c0_1) := (blk_cell BK27001.out 1).trans rfl
                    have hcz22_2 : wr.cell? ⟨gb27001, 2, none⟩ = some (.int .i64 a0_2) := (blk_cell BK27001.out 2).trans rfl
                    have hcz22_3 : wr.cell? ⟨gb27001, 3, none⟩ = some (.int .i64 a0_3) := (blk_cell BK27001.out 3).trans rfl
                    have hcz22_4 : wr.cell? ⟨gb27001, 4, none⟩ = some (.slice A0_4 l0_4.length c0_4) := (blk_cell BK27001.out 4).trans rfl
                    have hfz22_0 := blk_frozen BK27001.out 0
                    have hfz22_1 := blk_frozen BK27001.out 1
                    have hfz22_2 := blk_frozen BK27001.out 2
                    have hfz22_3 := blk_frozen BK27001.out 3
                    have hfz22_4 := blk_frozen BK27001.out 4
                    have p27003 : 0 ≤ (x7_2 : Int) := of_decide_eq_true (by first | (with_reducible assumption) | assumption)
                    have q27003 : x7_2 < (l0_4.length : Int) := of_decide_eq_true (by first | (with_reducible assumption) | assumption)
                    obtain ⟨ad27003, e27003, hx27003_0, hx27003_1, hx27003_2⟩ := at_T64 HR0_4.out x7_2 p27003 q27003
                    cases e27003
                    replace hx27003_0 := (HB.out.cell (World.block_lt_of_cell? w _ hx27003_0)).trans hx27003_0
                    replace hx27003_1 := (HB.out.cell (World.block_lt_of_cell? w _ hx27003_1)).trans hx27003_1
                    replace hx27003_2 := (HB.out.cell (World.block_lt_of_cell? w _ hx27003_2)).trans hx27003_2
                    replace p27003 := eq_true p27003
                    replace q27003 := eq_true q27003
                    have p27004 : 0 ≤ (x7_2 : Int) := of_decide_eq_true (by first | (with_reducible assumption) | assumption)
                    have q27004 : x7_2 < (l0_4.length : Int) := of_decide_eq_true (by first | (with_reducible assumption) | assumption)
                    obtain ⟨ad27004, e27004, hx27004_0, hx27004_1, hx27004_2⟩ := at_T64 HR0_4.out x7_2 p27004 q27004
                    obtain rfl : ad27003 = ad27004 := (by injection e27004)
                    replace hx27004_0 := (HB.out.cell (World.block_lt_of_cell? w _ hx27004_0)).trans hx27004_0
                    replace hx27004_1 := (HB.out.cell (World.block_lt_of_cell? w _ hx27004_1)).trans hx27004_1
                    replace hx27004_2 := (HB.out.cell (World.block_lt_of_cell? w _ hx27004_2)).trans hx27004_2
                    replace p27004 := eq_true p27004
                    replace q27004 := eq_true q27004
                    go_wp2
                    go_roundg k2
                    case measure => have := HJ3.out; have := HK2.out; omega
                    case rel => exact ⟨(wrap64 (x7_2 + 1)), (by first | rfl | (simp; done) | (simp [*]; done)), H', ⟨by have := HJ3.out; have := HK2.out; omega⟩, ⟨by (with_reducible repeat (first | refine blk_drewN ?_ _ | refine blk_drew ?_ | refine blk_alloc ?_ _)); exact BK27001.out⟩, ⟨by repeat (first | (with_reducible first | exact HB.out | apply below_alloc | apply pw_below_drewN | apply below_drew1 | refine below_set ?_ GE27001.out) | exact HB.out)⟩⟩
                · rw [if_neg c19] at H
                  have c19b0 : (((rd_T64 l0_4 x7_2).f0) == a1) = false := beq_eq_false_iff_ne.mpr c19
                  have c19b1 : (((rd_T64 l0_4 x7_2).f0) != a1) = true := bne_iff_ne.mpr c19
                  have H' := Aside0.mk H
                  clear H
                  have hcz23_0 : wr.cell? ⟨gb27001, 0, none⟩ = some (.string a0_0) := (blk_cell BK27001.out 0).trans rfl
                  have hcz23_1 : wr.cell? ⟨gb27001, 1, none⟩ = some (.slice A0_1 l0_1.length c0_1) := (blk_cell BK27001.out 1).trans rfl
                  have hcz23_2 : wr.cell? ⟨gb27001, 2, none⟩ = some (.int .i64 a0_2) := (blk_cell BK27001.out 2).trans rfl
                  have hcz23_3 : wr.cell? ⟨gb27001, 3, none⟩ = some (.int .i64 a0_3) := (blk_cell BK27001.out 3).trans rfl
                  have hcz23_4 : wr.cell? ⟨gb27001, 4, none⟩ = some (.slice A0_4 l0_4.length c0_4) := (blk_cell BK27001.out 4).trans rfl
                  have hfz23_0 := blk_frozen BK27001.out 0
                  have hfz23_1 := blk_frozen BK27001.out 1
                  have hfz23_2 := blk_frozen BK27001.out 2
                  have hfz23_3 := blk_frozen BK27001.out 3
                  have hfz23_4 := blk_frozen BK27001.out 4
                  have p27003 : 0 ≤ (x7_2 : Int) := of_decide_eq_true (by first | (with_reducible assumption) | assumption)
                  have q27003 : x7_2 < (l0_4.length : Int) := of_decide_eq_true (by first | (with_reducible assumption) | assumption)
                  obtain ⟨ad27003, e27003, hx27003_0, hx27003_1, hx27003_2⟩ := at_T64 HR0_4.out x7_2 p27003 q27003
                  cases e27003
                  replace hx27003_0 := (HB.out.cell (World.block_lt_of_cell? w _ hx27003_0)).trans hx27003_0
                  replace hx27003_1 := (HB.out.cell (World.block_lt_of_cell? w _ hx27003_1)).trans hx27003_1
                  replace hx27003_2 := (HB.out.cell (World.block_lt_of_cell? w _ hx27003_2)).trans hx27003_2
                  replace p27003 := eq_true p27003
                  replace q27003 := eq_true q27003
                  go_wp2
                  go_roundg k2
                  case measure => have := HJ3.out; have := HK2.out; omega
                  case rel => exact ⟨(wrap64 (x7_2 + 1)), (by first | rfl | (simp; done) | (simp [*]; done)), H', ⟨by have := HJ3.out; have := HK2.out; omega⟩, ⟨by (with_reducible repeat (first | refine blk_drewN ?_ _ | refine blk_drew ?_ | refine blk_alloc ?_ _)); exact BK27001.out⟩, ⟨by repeat (first | (with_reducible first | exact HB.out | apply below_alloc | apply pw_below_drewN | apply below_drew1 | refine below_set ?_ GE27001.out) | exact HB.out)⟩⟩
              · rw [if_neg c18] at H
                exact absurd H (by simp)
            · rw [if_neg c17] at H
              have c17b0 : decide (x7_2 < (l0_4.length : Int)) = false := decide_eq_false c17
              clear c17
              obtain rfl := Option.some.inj H
              have hcz24_0 : wr.cell? ⟨gb27001, 0, none⟩ = some (.string a0_0) := (blk_cell BK27001.out 0).trans rfl
              have hcz24_1 : wr.cell? ⟨gb27001, 1, none⟩ = some (.slice A0_1 l0_1.length c0_1) := (blk_cell BK27001.out 1).trans rfl
              have hcz24_2 : wr.cell? ⟨gb27001, 2, none⟩ = some (.int .i64 a0_2) := (blk_cell BK27001.out 2).trans rfl
              have hcz24_3 : wr.cell? ⟨gb27001, 3, none⟩ = some (.int .i64 a0_3) := (blk_cell BK27001.out 3).trans rfl
              have hcz24_4 : wr.cell? ⟨gb27001, 4, none⟩ = some (.slice A0_4 l0_4.length c0_4) := (blk_cell BK27001.out 4).trans rfl
              have hfz24_0 := blk_frozen BK27001.out 0
              have hfz24_1 := blk_frozen BK27001.out 1
              have hfz24_2 := blk_frozen BK27001.out 2
              have hfz24_3 := blk_frozen BK27001.out 3
              have hfz24_4 := blk_frozen BK27001.out 4
              go_wp2
              go_ret
              exact ⟨by first | rfl | (simp [errW_none, errW_some] <;> rfl) | (simp [*, errW_none, errW_some] <;> rfl), by repeat (first | (with_reducible first | exact HB.out | apply below_alloc | apply pw_below_drewN | apply below_drew1 | refine below_set ?_ GE27001.out) | exact HB.out)⟩

end Go.Proofs.YthfhbdncphkdaaaDoor.H

/- Printed by a program of this session (xprint.py, over the kit's printer): Go functions as Lean functions, each with the proof that the call does what the Lean function says. -/
import Derived.Test.YthfhbdncphkdaaaDoorH0
import Derived.Test.YthfhbdncphkdaaaDoorHe
namespace Go.Proofs.YthfhbdncphkdaaaDoor.H
open Go.RowKit Go.Proofs.YthfhbdncphkdaaaDoorW.PrintWords Go.Proofs.YthfhbdncphkdaaaDoorW.PrintLast Go.Proofs.YthfhbdncphkdaaaDoorW.PrintMore
attribute [local go_sem] max2_int min2_int max_two min_two max_three min_three max_four min_four   -- for this text's walks alone
attribute [local go_sem] xs_gtr xs_leq xs_geq
set_option linter.unusedVariables false
set_option linter.unusedSimpArgs false

/-! ### dataflowref39_Run: function 28 -/
def dataflowref39_Run.l0 : Nat → List ByteArray → Int → Int → ByteArray → List ByteArray → Int → Int → List (S64) → Option (Int)
  | 0, _, _, _, _, _, _, _, _ => none
  | k + 1, x1, x5, x6, x29002000, x29002001, x29002002, x29002003, x29002004 => if x6 < (x1.length : Int) then (if 0 ≤ x6 then ((dataflowref39_Step.f k x29002000 x29002001 x29002002 x29002003 x29002004 x5 (rdOf ByteArray.empty x1 x6)).bind fun t29004 => (dataflowref39_Run.l0 k x1 t29004 (wrap64 (x6 + 1)) x29002000 x29002001 x29002002 x29002003 x29002004)) else (none)) else (some x5)
def dataflowref39_Run.f (k : Nat) (a0_0 : ByteArray) (l0_1 : List ByteArray) (a0_2 : Int) (a0_3 : Int) (l0_4 : List (S64)) (l1 : List ByteArray) : Option (Int) := (dataflowref39_Check.f k a0_0 l0_1 a0_2 a0_3 l0_4).bind fun t29002 => (if t29002 = 0 then (dataflowref39_Run.l0 k l1 a0_2 0 a0_0 l0_1 a0_2 a0_3 l0_4) else (some (-1)))
theorem dataflowref39_Run.mono_l : ∀ k, (∀ y0 y1 y2 y3 y4 y5 y6 y7, LeO (dataflowref39_Run.l0 k y0 y1 y2 y3 y4 y5 y6 y7) (dataflowref39_Run.l0 (k + 1) y0 y1 y2 y3 y4 y5 y6 y7))
  | 0 => fun _ _ _ _ _ _ _ _ r h => by simp [dataflowref39_Run.l0] at h
  | k + 1 => by
    have ih0 := dataflowref39_Run.mono_l k
    · intro y0 y1 y2 y3 y4 y5 y6 y7
      unfold dataflowref39_Run.l0
      repeat' first
      | (with_reducible exact ih0 _ _ _ _ _ _ _ _)
      | (with_reducible exact dataflowref39_Check.mono _ _ _ _ _ _)
      | (with_reducible exact dataflowref39_Step.mono _ _ _ _ _ _ _ _)
      | (with_reducible exact LeO.refl _)
      | (with_reducible exact LeO.none _)
      | (with_reducible refine LeO.ite ?_ ?_)
      | (with_reducible refine LeO.bind ?_ (fun _ => ?_))
      | exact ih0 _ _ _ _ _ _ _ _
      | exact dataflowref39_Check.mono _ _ _ _ _ _
      | exact dataflowref39_Step.mono _ _ _ _ _ _ _ _
      | exact LeO.none _
      | refine LeO.ite ?_ ?_
      | refine LeO.bind ?_ (fun _ => ?_)
theorem dataflowref39_Run.mono : ∀ a0 a1 a2 a3 a4 a5 k, LeO (dataflowref39_Run.f k a0 a1 a2 a3 a4 a5) (dataflowref39_Run.f (k + 1) a0 a1 a2 a3 a4 a5) := by
  intro a0 a1 a2 a3 a4 a5 k
  have ih0 := dataflowref39_Run.mono_l k
  unfold dataflowref39_Run.f
  repeat' first
      | (with_reducible exact ih0 _ _ _ _ _ _ _ _)
      | (with_reducible exact dataflowref39_Check.mono _ _ _ _ _ _)
      | (with_reducible exact dataflowref39_Step.mono _ _ _ _ _ _ _ _)
      | (with_reducible exact LeO.refl _)
      | (with_reducible exact LeO.none _)
      | (with_reducible refine LeO.ite ?_ ?_)
      | (with_reducible refine LeO.bind ?_ (fun _ => ?_))
      | exact ih0 _ _ _ _ _ _ _ _
      | exact dataflowref39_Check.mono _ _ _ _ _ _
      | exact dataflowref39_Step.mono _ _ _ _ _ _ _ _
      | exact LeO.none _
      | refine LeO.ite ?_ ?_
      | refine LeO.bind ?_ (fun _ => ?_)
def dataflowref39_Run.T7 : Bool × List (List Nat × List Nat) := (true, [([], []), ([], []), ([], []), ([], []), ([2, 3], [2, 3]), ([4], [4]), ([0, 1, 5], [0, 1, 5]), ([6, 6, 0, 1, 2, 3, 4, 5, 6], [1, 6])])
def dataflowref39_Run.B7 : List Nat := [0, 0, 0, 0, 12, 28, 63, 127]
theorem dataflowref39_Run.tab7 : rtab .any (opsOf Tryd.f28 7) = dataflowref39_Run.T7 := by kernel_rfl
theorem dataflowref39_Run.bits7 : waitsOk dataflowref39_Run.T7.2 dataflowref39_Run.B7 = true := by kernel_rfl
set_option maxHeartbeats 8000000 in
set_option maxRecDepth 100000 in
theorem dataflowref39_Run.calls (k : Nat) (a0_0 : ByteArray) (A0_1 : Option Addr) (c0_1 : Nat) (l0_1 : List ByteArray) (a0_2 : Int) (a0_3 : Int) (A0_4 : Option Addr) (c0_4 : Nat) (l0_4 : List (S64)) (A1 : Option Addr) (c1 : Nat) (l1 : List ByteArray) (r : Int) (w : World) (hr0_1 : Kd.C Kd.string w A0_1 l0_1.length l0_1) (hc0_1 : l0_1.length ≤ c0_1) (hr0_4 : Kd.C k64 w A0_4 l0_4.length l0_4) (hc0_4 : l0_4.length ≤ c0_4) (hr1 : Kd.C Kd.string w A1 l1.length l1) (hc1 : l1.length ≤ c1) (h : dataflowref39_Run.f k a0_0 l0_1 a0_2 a0_3 l0_4 l1 = some r) :
    Calls Tryd.prog 28 #[.agg #[.string a0_0, .slice A0_1 l0_1.length c0_1, .int .i64 a0_2, .int .i64 a0_3, .slice A0_4 l0_4.length c0_4], .slice A1 l1.length c1] w fun e w' => e = .returned (.int .i64 r) ∧ Below w.heap.size w w' := by
  have hu35 := Tryd.underlying35
  have HR0_1 := Aside0.mk hr0_1
  have HC0_1 := Aside0.mk hc0_1
  clear hr0_1 hc0_1
  have HR0_4 := Aside0.mk hr0_4
  have HC0_4 := Aside0.mk hc0_4
  clear hr0_4 hc0_4
  have HR1 := Aside0.mk hr1
  have HC1 := Aside0.mk hc1
  clear hr1 hc1
  have HB := Aside0.mk (Below.refl w.heap.size w)
  have H : ((dataflowref39_Check.f k a0_0 l0_1 a0_2 a0_3 l0_4).bind fun t29002 => (if t29002 = 0 then (dataflowref39_Run.l0 k l1 a0_2 0 a0_0 l0_1 a0_2 a0_3 l0_4) else (some (-1)))) = some r := h
  clear h
  replace H := Option.bind_eq_some_iff.mp H
  obtain ⟨t29002, A30, H⟩ := H
  replace H : (if t29002 = 0 then (dataflowref39_Run.l0 k l1 a0_2 0 a0_0 l0_1 a0_2 a0_3 l0_4) else (some (-1))) = some r := H
  have A3 := Aside0.mk A30
  clear A30
  by_cases c4 : t29002 = 0
  · rw [if_pos c4] at H
    have c4b0 : (t29002 == 0) = true := beq_iff_eq.mpr c4
    have c4b1 : (t29002 != 0) = false := bne_eq_false_iff_eq.mpr c4
    clear c4
    have H' := Aside0.mk H
    clear H
    go_enter Tryd.func28, Tryd.ntmps28
    go_wp2_with (first | ((with_reducible refine gate_dst (N := 2) rfl ?_); refine box_event ?hg (N := 2) ?hd (cs := #[.string a0_0, .slice A0_1 l0_1.length c0_1, .int .i64 a0_2, .int .i64 a0_3, .slice A0_4 l0_4.length c0_4]) (t := 35) ?hr ?_; (case hd => rfl); (case hg => rfl); (case hr => first | (go_simp; done) | (go_simp; rfl)); intro gb29001 hg w5 hbox hb; have n0_ := Aside0.mk (below_step (by repeat (first | (with_reducible first | exact HB.out | apply below_alloc | apply pw_below_drewN | apply below_drew1) | exact HB.out)) hb); have n1_ := Aside0.mk (hbox); have n2_ := Aside0.mk ((by rw [hg]; exact (below_size (by repeat (first | (with_reducible first | exact HB.out | apply below_alloc | apply pw_below_drewN | apply below_drew1) | exact HB.out))) : w.heap.size ≤ gb29001)); have n3_ := Aside0.mk ((by rw [hg]; exact (below_size (by repeat (first | (with_reducible first | exact HB.out | apply below_alloc | apply pw_below_drewN | apply below_drew1) | exact HB.out))) : w.heap.size ≤ gb29001)); clear HB; have HB := n0_; have BK29001 := n1_; have GW29001 := n2_; have GE29001 := n3_; clear n0_ n1_ n2_ n3_; clear hb hbox hg; have hcz6_0 : w5.cell? ⟨gb29001, 0, none⟩ = some (.string a0_0) := (blk_cell BK29001.out 0).trans rfl; have hcz6_1 : w5.cell? ⟨gb29001, 1, none⟩ = some (.slice A0_1 l0_1.length c0_1) := (blk_cell BK29001.out 1).trans rfl; have hcz6_2 : w5.cell? ⟨gb29001, 2, none⟩ = some (.int .i64 a0_2) := (blk_cell BK29001.out 2).trans rfl; have hcz6_3 : w5.cell? ⟨gb29001, 3, none⟩ = some (.int .i64 a0_3) := (blk_cell BK29001.out 3).trans rfl; have hcz6_4 : w5.cell? ⟨gb29001, 4, none⟩ = some (.slice A0_4 l0_4.length c0_4) := (blk_cell BK29001.out 4).trans rfl; have hfz6_0 := blk_frozen BK29001.out 0; have hfz6_1 := blk_frozen BK29001.out 1; have hfz6_2 := blk_frozen BK29001.out 2; have hfz6_3 := blk_frozen BK29001.out 3; have hfz6_4 := blk_frozen BK29001.out 4) | ((with_reducible refine gate_callee (f := 34) rfl ?_); refine goesL_ (some 8) rfl rfl Tryd.func34 (by kernel_rfl) rfl #[.agg #[.string a0_0, .slice A0_1 l0_1.length c0_1, .int .i64 a0_2, .int .i64 a0_3, .slice A0_4 l0_4.length c0_4]] rfl (by (try simp only [List.map_toArray, List.map_cons, List.map_nil]); first | done | rfl | (simp only [List.length_drop, List.length_take]; rfl)) ?_; (with_reducible refine (dataflowref39_Check.calls k a0_0 _ _ l0_1 a0_2 a0_3 _ _ l0_4 t29002 _ ?side1 ?side2 ?side3 ?side4 A3.out).mono ?_); (case side1 => repeat (first | exact (Kd.C_below HR0_1.out HB.out) | (with_reducible refine Kd.C_alloc ?_ _) | (with_reducible refine Kd.C_drewN ?_ _) | (with_reducible refine Kd.C_drew ?_))); (case side2 => exact HC0_1.out); (case side3 => repeat (first | exact (Kd.C_below HR0_4.out HB.out) | (with_reducible refine Kd.C_alloc ?_ _) | (with_reducible refine Kd.C_drewN ?_ _) | (with_reducible refine Kd.C_drew ?_))); (case side4 => exact HC0_4.out); rintro e w7 ⟨rfl, hb⟩; refine ⟨_, rfl, ?_⟩; have n0_ := Aside0.mk (blk_below (g := gb29001) (o := .cells #[.string a0_0, .slice A0_1 l0_1.length c0_1, .int .i64 a0_2, .int .i64 a0_3, .slice A0_4 l0_4.length c0_4] 35 (0, 0)) (by (with_reducible repeat (first | refine blk_drewN ?_ _ | refine blk_drew ?_ | refine blk_alloc ?_ _)); exact BK29001.out) hb); have n1_ := Aside0.mk (below_step (by repeat (first | (with_reducible first | exact HB.out | apply below_alloc | apply pw_below_drewN | apply below_drew1 | refine below_set ?_ GE29001.out) | exact HB.out)) hb); clear BK29001; clear HB; have BK29001 := n0_; have HB := n1_; clear n0_ n1_; (try clear hb); (try clear hb2); (try clear hk); (try clear hi); have hcz8_0 : w7.cell? ⟨gb29001, 0, none⟩ = some (.string a0_0) := (blk_cell BK29001.out 0).trans rfl; have hcz8_1 : w7.cell? ⟨gb29001, 1, none⟩ = some (.slice A0_1 l0_1.length c0_1) := (blk_cell BK29001.out 1).trans rfl; have hcz8_2 : w7.cell? ⟨gb29001, 2, none⟩ = some (.int .i64 a0_2) := (blk_cell BK29001.out 2).trans rfl; have hcz8_3 : w7.cell? ⟨gb29001, 3, none⟩ = some (.int .i64 a0_3) := (blk_cell BK29001.out 3).trans rfl; have hcz8_4 : w7.cell? ⟨gb29001, 4, none⟩ = some (.slice A0_4 l0_4.length c0_4) := (blk_cell BK29001.out 4).trans rfl; have hfz8_0 := blk_frozen BK29001.out 0; have hfz8_1 := blk_frozen BK29001.out 1; have hfz8_2 := blk_frozen BK29001.out 2; have hfz8_3 := blk_frozen BK29001.out 3; have hfz8_4 := blk_frozen BK29001.out 4))
    go_loopg [5, 6] k (fun kq v5 v6 w' => ∃ (x5_1 : Int) (x6_1 : Int), v5 = .int .i64 x5_1 ∧ v6 = .int .i64 x6_1 ∧ Aside0 (dataflowref39_Run.l0 kq l1 x5_1 x6_1 a0_0 l0_1 a0_2 a0_3 l0_4 = some r) ∧ Aside0 (kq ≤ k) ∧ Aside0 (w'.heap[gb29001]? = some (.cells #[.string a0_0, (.slice A0_1 l0_1.length c0_1), .int .i64 a0_2, .int .i64 a0_3, (.slice A0_4 l0_4.length c0_4)] 35 (0, 0))) ∧ Aside0 (Below w.heap.size w w'))
    case atStart => exact ⟨(a0_2), (0), (by first | rfl | (simp; done) | (simp [*]; done)), (by first | rfl | (simp; done) | (simp [*]; done)), H', ⟨Nat.le_refl _⟩, ⟨by (with_reducible repeat (first | refine blk_drewN ?_ _ | refine blk_drew ?_ | refine blk_alloc ?_ _)); exact BK29001.out⟩, ⟨by repeat (first | (with_reducible first | exact HB.out | apply below_alloc | apply pw_below_drewN | apply below_drew1 | refine below_set ?_ GE29001.out) | exact HB.out)⟩⟩
    case round =>
      clear H'
      try clear c1
      try clear c2
      try clear p2
      try clear c3
      try clear c4
      try clear c4b0
      try clear c4b1
      try clear hcz6_0
      try clear hcz6_1
      try clear hcz6_2
      try clear hcz6_3
      try clear hcz6_4
      try clear hcz8_0
      try clear hcz8_1
      try clear hcz8_2
      try clear hcz8_3
      try clear hcz8_4
      try clear hfz6_0
      try clear hfz6_1
      try clear hfz6_2
      try clear hfz6_3
      try clear hfz6_4
      try clear hfz8_0
      try clear hfz8_1
      try clear hfz8_2
      try clear hfz8_3
      try clear hfz8_4
      obtain ⟨x5_1, x6_1, rfl, rfl, HA, HK1, BK29001, HB⟩ := hrel
      cases gk with
      | zero => exact absurd HA.out (by simp [dataflowref39_Run.l0])
      | succ k1 =>
        have H := HA.out
        clear HA
        simp only [dataflowref39_Run.l0] at H
        by_cases c9 : x6_1 < (l1.length : Int)
        · rw [if_pos c9] at H
          have c9b0 : decide (x6_1 < (l1.length : Int)) = true := decide_eq_true c9
          clear c9
          by_cases c10 : 0 ≤ x6_1
          · rw [if_pos c10] at H
            have c10b0 : decide (0 ≤ x6_1) = true := decide_eq_true c10
            clear c10
            replace H := Option.bind_eq_some_iff.mp H
            obtain ⟨t29004, A110, H⟩ := H
            replace H : (dataflowref39_Run.l0 k1 l1 t29004 (wrap64 (x6_1 + 1)) a0_0 l0_1 a0_2 a0_3 l0_4) = some r := H
            have A11 := Aside0.mk A110
            clear A110
            have H' := Aside0.mk H
            clear H
            try go_wp2
            have n0_ := Aside0.mk (blk_drew BK29001.out)
            have n1_ := Aside0.mk (below_drew1 HB.out)
            clear BK29001
            clear HB
            have BK29001 := n0_
            have HB := n1_
            clear n0_ n1_
            have p29003 : 0 ≤ (x6_1 : Int) := of_decide_eq_true (by first | (with_reducible assumption) | assumption)
            have q29003 : x6_1 < (l1.length : Int) := of_decide_eq_true (by first | (with_reducible assumption) | assumption)
            obtain ⟨ad29003, e29003, hx29003_0⟩ := Kd.at_string HR1.out x6_1 p29003 q29003
            have hw29003_0 := hx29003_0
            cases e29003
            replace hx29003_0 := (HB.out.cell (World.block_lt_of_cell? w _ hx29003_0)).trans hx29003_0
            replace p29003 := eq_true p29003
            replace q29003 := eq_true q29003
            refine start_ (n := 8) (S := fun w' => w'.cell? ⟨gb29001, 0, none⟩ = some (.string a0_0) ∧ w'.cell? ⟨gb29001, 1, none⟩ = some (.slice A0_1 l0_1.length c0_1) ∧ w'.cell? ⟨gb29001, 2, none⟩ = some (.int .i64 a0_2) ∧ w'.cell? ⟨gb29001, 3, none⟩ = some (.int .i64 a0_3) ∧ w'.cell? ⟨gb29001, 4, none⟩ = some (.slice A0_4 l0_4.length c0_4) ∧ w'.cell? (ad29003.add (x6_1).toNat) = some (.string (rdOf ByteArray.empty l1 x6_1))) (ds := []) #[false, false, false, false, false, false, false, false] (by kernel_rfl) rfl rfl ⟨(blk_cell BK29001.out 0).trans rfl, (blk_cell BK29001.out 1).trans rfl, (blk_cell BK29001.out 2).trans rfl, (blk_cell BK29001.out 3).trans rfl, (blk_cell BK29001.out 4).trans rfl, ((HB.out.cell (World.block_lt_of_cell? w _ hw29003_0)).trans hw29003_0)⟩ (fun hHeld => ?_); refine with_tabW dataflowref39_Run.tab7 dataflowref39_Run.bits7 (fun HT_ HW_ => ?_)
            generalize wr.drew = w12 at BK29001 HB hx29003_0 hHeld ⊢
            refine pure_ (i := 1) (N := some 19) (v := ?_) (a' := ?_) #[false, true, false, false, false, false, false, false] rfl rfl (any_of HT_.out (by kernel_rfl)) (fun _ _ _ h => h) (Or.inl ⟨by rfl, ?_⟩) ?_ ?_
            rotate_left
            · intro w'
              go_simp
              with_reducible rfl
            rotate_left
            · simp only [Act.put, List.setIfInBounds_toArray, List.set_cons_zero, List.set_cons_succ, i64_w, i32_w]
              rfl
            refine pure_ (i := 2) (N := some 20) (v := ?_) (a' := ?_) #[false, true, true, false, false, false, false, false] rfl rfl (any_of HT_.out (by kernel_rfl)) (fun _ _ _ h => h) (Or.inl ⟨by rfl, ?_⟩) ?_ ?_
            rotate_left
            · intro w'
              go_simp
              with_reducible rfl
            rotate_left
            · simp only [Act.put, List.setIfInBounds_toArray, List.set_cons_zero, List.set_cons_succ, i64_w, i32_w]
              rfl
            refine pure_ (i := 3) (N := some 21) (v := ?_) (a' := ?_) #[false, true, true, true, false, false, false, false] rfl rfl (any_of HT_.out (by kernel_rfl)) (fun _ _ _ h => h) (Or.inl ⟨by rfl, ?_⟩) ?_ ?_
            rotate_left
            · intro w'
              go_simp
              with_reducible rfl
            rotate_left
            · simp only [Act.put, List.setIfInBounds_toArray, List.set_cons_zero, List.set_cons_succ, i64_w, i32_w]
              rfl
            refine pure_ (i := 4) (N := some 22) (v := ?_) (a' := ?_) #[false, true, true, true, true, false, false, false] rfl rfl (any_of HT_.out (by kernel_rfl)) (fun _ _ _ h => h) (Or.inl ⟨by rfl, ?_⟩) ?_ ?_
            rotate_left
            · intro w'
              go_simp
              with_reducible rfl
            rotate_left
            · simp only [Act.put, List.setIfInBounds_toArray, List.set_cons_zero, List.set_cons_succ, i64_w, i32_w]
              rfl
            refine take_ (i := 0) (N := some 18) (v := ?_) (a' := ?_) #[true, true, true, true, true, false, false, false] rfl rfl (take_ofW HT_.out HW_.out (by kernel_rfl)) (fun _ _ _ h => h) (Or.inl ⟨by rfl, ?_⟩) hHeld ?_ ?_
            rotate_left
            · rintro w' ⟨s0, s1, s2, s3, s4, s5⟩
              go_simp
              with_reducible rfl
            rotate_left
            · simp only [Act.put, List.setIfInBounds_toArray, List.set_cons_zero, List.set_cons_succ, i64_w, i32_w]
              rfl
            refine take_ (i := 5) (N := some 23) (v := ?_) (a' := ?_) #[true, true, true, true, true, true, false, false] rfl rfl (take_ofW HT_.out HW_.out (by kernel_rfl)) (fun _ _ _ h => h) (Or.inl ⟨by rfl, ?_⟩) hHeld ?_ ?_
            rotate_left
            · rintro w' ⟨s0, s1, s2, s3, s4, s5⟩
              go_simp
              with_reducible rfl
            rotate_left
            · simp only [Act.put, List.setIfInBounds_toArray, List.set_cons_zero, List.set_cons_succ, i64_w, i32_w]
              rfl
            refine one_ (i := 6) (N := some 24) #[true, true, true, true, true, true, true, false] rfl rfl (one_of HT_.out (by kernel_rfl)) (by decide) (fun K hK => ?_)
            refine goes_ Tryd.func26 (by kernel_rfl) rfl #[.agg #[.string a0_0, .slice A0_1 l0_1.length c0_1, .int .i64 a0_2, .int .i64 a0_3, .slice A0_4 l0_4.length c0_4], .int .i64 x5_1, .string (rdOf ByteArray.empty l1 x6_1)] (by rfl) rfl rfl (by (try simp only [List.map_toArray, List.map_cons, List.map_nil]); first | done | rfl | (simp only [List.length_drop, List.length_take]; rfl)) ?_
            with_reducible refine (dataflowref39_Step.calls k1 a0_0 _ _ l0_1 a0_2 a0_3 _ _ l0_4 x5_1 (rdOf ByteArray.empty l1 x6_1) t29004 _ ?side1 ?side2 ?side3 ?side4 A11.out).mono ?_
            (case side1 => repeat (first | exact (Kd.C_below HR0_1.out HB.out) | (with_reducible refine Kd.C_alloc ?_ _) | (with_reducible refine Kd.C_drewN ?_ _) | (with_reducible refine Kd.C_drew ?_)))
            (case side2 => exact HC0_1.out)
            (case side3 => repeat (first | exact (Kd.C_below HR0_4.out HB.out) | (with_reducible refine Kd.C_alloc ?_ _) | (with_reducible refine Kd.C_drewN ?_ _) | (with_reducible refine Kd.C_drew ?_)))
            (case side4 => exact HC0_4.out)
            rintro e w13 ⟨rfl, hb⟩
            refine ⟨_, rfl, ?_⟩
            have n0_ := Aside0.mk (blk_below (g := gb29001) (o := .cells #[.string a0_0, .slice A0_1 l0_1.length c0_1, .int .i64 a0_2, .int .i64 a0_3, .slice A0_4 l0_4.length c0_4] 35 (0, 0)) (by (with_reducible repeat (first | refine blk_drewN ?_ _ | refine blk_drew ?_ | refine blk_alloc ?_ _)); exact BK29001.out) hb)
            have n1_ := Aside0.mk (below_step (by repeat (first | (with_reducible first | exact HB.out | apply below_alloc | apply pw_below_drewN | apply below_drew1 | refine below_set ?_ GE29001.out) | exact HB.out)) hb)
            clear BK29001
            clear HB
            have BK29001 := n0_
            have HB := n1_
            clear n0_ n1_
            (try clear hb)
            (try clear hb2)
            (try clear hk)
            (try clear hi)
            refine hK.out _ _ ⟨(blk_cell BK29001.out 0).trans rfl, (blk_cell BK29001.out 1).trans rfl, (blk_cell BK29001.out 2).trans rfl, (blk_cell BK29001.out 3).trans rfl, (blk_cell BK29001.out 4).trans rfl, ((HB.out.cell (World.block_lt_of_cell? w _ hw29003_0)).trans hw29003_0)⟩ (fun hHeld => ?_)
            clear hK K
            refine norm_ (a' := ?_) ?_ ?_
            rotate_left
            · show Act.put _ (some 24) _ = _
              simp only [Act.put, List.setIfInBounds_toArray, List.set_cons_zero, List.set_cons_succ, i64_w, i32_w]
              rfl
            refine pure_ (i := 7) (N := some 5) (v := ?_) (a' := ?_) #[true, true, true, true, true, true, true, true] rfl rfl (any_of HT_.out (by kernel_rfl)) (fun _ _ _ h => h) (Or.inl ⟨by rfl, ?_⟩) ?_ ?_
            rotate_left
            · intro w'
              go_simp
              with_reducible rfl
            rotate_left
            · simp only [Act.put, List.setIfInBounds_toArray, List.set_cons_zero, List.set_cons_succ, i64_w, i32_w]
              rfl
            refine done_ (done_of HT_.out (by kernel_rfl)) ?_
            try go_wp2
            go_roundg k1
            case measure => have := HK1.out; omega
            case rel => exact ⟨(t29004), (wrap64 (x6_1 + 1)), (by first | rfl | (simp; done) | (simp [*]; done)), (by first | rfl | (simp; done) | (simp [*]; done)), H', ⟨by have := HK1.out; omega⟩, ⟨by (with_reducible repeat (first | refine blk_drewN ?_ _ | refine blk_drew ?_ | refine blk_alloc ?_ _)); exact BK29001.out⟩, ⟨by repeat (first | (with_reducible first | exact HB.out | apply below_alloc | apply pw_below_drewN | apply below_drew1 | refine below_set ?_ GE29001.out) | exact HB.out)⟩⟩
          · rw [if_neg c10] at H
            exact absurd H (by simp)
        · rw [if_neg c9] at H
          have c9b0 : decide (x6_1 < (l1.length : Int)) = false := decide_eq_false c9
          clear c9
          obtain rfl := Option.some.inj H
          go_wp2
          go_ret
          exact ⟨by first | rfl | (simp [errW_none, errW_some] <;> rfl) | (simp [*, errW_none, errW_some] <;> rfl), by repeat (first | (with_reducible first | exact HB.out | apply below_alloc | apply pw_below_drewN | apply below_drew1 | refine below_set ?_ GE29001.out) | exact HB.out)⟩
  · rw [if_neg c4] at H
    have c4b0 : (t29002 == 0) = false := beq_eq_false_iff_ne.mpr c4
    have c4b1 : (t29002 != 0) = true := bne_iff_ne.mpr c4
    obtain rfl := Option.some.inj H
    go_enter Tryd.func28, Tryd.ntmps28
    go_wp2_with (first | ((with_reducible refine gate_dst (N := 2) rfl ?_); refine box_event ?hg (N := 2) ?hd (cs := #[.string a0_0, .slice A0_1 l0_1.length c0_1, .int .i64 a0_2, .int .i64 a0_3, .slice A0_4 l0_4.length c0_4]) (t := 35) ?hr ?_; (case hd => rfl); (case hg => rfl); (case hr => first | (go_simp; done) | (go_simp; rfl)); intro gb29001 hg w14 hbox hb; have n0_ := Aside0.mk (below_step (by repeat (first | (with_reducible first | exact HB.out | apply below_alloc | apply pw_below_drewN | apply below_drew1) | exact HB.out)) hb); have n1_ := Aside0.mk (hbox); have n2_ := Aside0.mk ((by rw [hg]; exact (below_size (by repeat (first | (with_reducible first | exact HB.out | apply below_alloc | apply pw_below_drewN | apply below_drew1) | exact HB.out))) : w.heap.size ≤ gb29001)); have n3_ := Aside0.mk ((by rw [hg]; exact (below_size (by repeat (first | (with_reducible first | exact HB.out | apply below_alloc | apply pw_below_drewN | apply below_drew1) | exact HB.out))) : w.heap.size ≤ gb29001)); clear HB; have HB := n0_; have BK29001 := n1_; have GW29001 := n2_; have GE29001 := n3_; clear n0_ n1_ n2_ n3_; clear hb hbox hg; have hcz15_0 : w14.cell? ⟨gb29001, 0, none⟩ = some (.string a0_0) := (blk_cell BK29001.out 0).trans rfl; have hcz15_1 : w14.cell? ⟨gb29001, 1, none⟩ = some (.slice A0_1 l0_1.length c0_1) := (blk_cell BK29001.out 1).trans rfl; have hcz15_2 : w14.cell? ⟨gb29001, 2, none⟩ = some (.int .i64 a0_2) := (blk_cell BK29001.out 2).trans rfl; have hcz15_3 : w14.cell? ⟨gb29001, 3, none⟩ = some (.int .i64 a0_3) := (blk_cell BK29001.out 3).trans rfl; have hcz15_4 : w14.cell? ⟨gb29001, 4, none⟩ = some (.slice A0_4 l0_4.length c0_4) := (blk_cell BK29001.out 4).trans rfl; have hfz15_0 := blk_frozen BK29001.out 0; have hfz15_1 := blk_frozen BK29001.out 1; have hfz15_2 := blk_frozen BK29001.out 2; have hfz15_3 := blk_frozen BK29001.out 3; have hfz15_4 := blk_frozen BK29001.out 4) | ((with_reducible refine gate_callee (f := 34) rfl ?_); refine goesL_ (some 8) rfl rfl Tryd.func34 (by kernel_rfl) rfl #[.agg #[.string a0_0, .slice A0_1 l0_1.length c0_1, .int .i64 a0_2, .int .i64 a0_3, .slice A0_4 l0_4.length c0_4]] rfl (by (try simp only [List.map_toArray, List.map_cons, List.map_nil]); first | done | rfl | (simp only [List.length_drop, List.length_take]; rfl)) ?_; (with_reducible refine (dataflowref39_Check.calls k a0_0 _ _ l0_1 a0_2 a0_3 _ _ l0_4 t29002 _ ?side1 ?side2 ?side3 ?side4 A3.out).mono ?_); (case side1 => repeat (first | exact (Kd.C_below HR0_1.out HB.out) | (with_reducible refine Kd.C_alloc ?_ _) | (with_reducible refine Kd.C_drewN ?_ _) | (with_reducible refine Kd.C_drew ?_))); (case side2 => exact HC0_1.out); (case side3 => repeat (first | exact (Kd.C_below HR0_4.out HB.out) | (with_reducible refine Kd.C_alloc ?_ _) | (with_reducible refine Kd.C_drewN ?_ _) | (with_reducible refine Kd.C_drew ?_))); (case side4 => exact HC0_4.out); rintro e w16 ⟨rfl, hb⟩; refine ⟨_, rfl, ?_⟩; have n0_ := Aside0.mk (blk_below (g := gb29001) (o := .cells #[.string a0_0, .slice A0_1 l0_1.length c0_1, .int .i64 a0_2, .int .i64 a0_3, .slice A0_4 l0_4.length c0_4] 35 (0, 0)) (by (with_reducible repeat (first | refine blk_drewN ?_ _ | refine blk_drew ?_ | refine blk_alloc ?_ _)); exact BK29001.out) hb); have n1_ := Aside0.mk (below_step (by repeat (first | (with_reducible first | exact HB.out | apply below_alloc | apply pw_below_drewN | apply below_drew1 | refine below_set ?_ GE29001.out) | exact HB.out)) hb); clear BK29001; clear HB; have BK29001 := n0_; have HB := n1_; clear n0_ n1_; (try clear hb); (try clear hb2); (try clear hk); (try clear hi)))
    go_ret
    exact ⟨by first | rfl | (simp [errW_none, errW_some] <;> rfl) | (simp [*, errW_none, errW_some] <;> rfl), by repeat (first | (with_reducible first | exact HB.out | apply below_alloc | apply pw_below_drewN | apply below_drew1 | refine below_set ?_ GE29001.out) | exact HB.out)⟩

end Go.Proofs.YthfhbdncphkdaaaDoor.H

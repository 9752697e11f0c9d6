/- Printed by a program of this session (xprint.py, over the kit's printer): Go functions as Lean functions, each with the proof that the call does what the Lean function says. -/
import Derived.Test.YthfhbdncphkdaaaDoorH0
import Derived.Test.YthfhbdncphkdaaaDoorHe
namespace Go.Proofs.YthfhbdncphkdaaaDoor.H
open Go.RowKit Go.Proofs.YthfhbdncphkdaaaDoorW.PrintWords Go.Proofs.YthfhbdncphkdaaaDoorW.PrintLast Go.Proofs.YthfhbdncphkdaaaDoorW.PrintMore
attribute [local go_sem] max2_int min2_int max_two min_two max_three min_three max_four min_four   -- for this text's walks alone
attribute [local go_sem] xs_gtr xs_leq xs_geq
set_option linter.unusedVariables false
set_option linter.unusedSimpArgs false

/-! ### dataflowref39_Doomed: function 32 -/
mutual
def dataflowref39_Doomed.l0 : Nat → List Bool → Int → ByteArray → List ByteArray → Int → Int → List (S64) → Option (List Int)
  | 0, _, _, _, _, _, _, _ => none
  | k + 1, x4, x5, x33002000, x33002001, x33002002, x33002003, x33002004 => if x5 < (x33002001.length : Int) then (dataflowref39_Doomed.l1 k x4 x5 0 x33002000 x33002001 x33002002 x33002003 x33002004) else (dataflowref39_Doomed.l2 k ([] : List Int) x4 0)
def dataflowref39_Doomed.l1 : Nat → List Bool → Int → Int → ByteArray → List ByteArray → Int → Int → List (S64) → Option (List Int)
  | 0, _, _, _, _, _, _, _, _ => none
  | k + 1, x4, x5, x6, x33002000, x33002001, x33002002, x33002003, x33002004 => if x6 < (x33002004.length : Int) then (if 0 ≤ x6 then (if 0 ≤ ((rd_T64 x33002004 x6).f2) then (if ((rd_T64 x33002004 x6).f2) < (x4.length : Int) then (if rdOf false x4 ((rd_T64 x33002004 x6).f2) = true then (if 0 ≤ ((rd_T64 x33002004 x6).f0) then (if ((rd_T64 x33002004 x6).f0) < (x4.length : Int) then (dataflowref39_Doomed.l1 k (x4.set (((rd_T64 x33002004 x6).f0) : Int).toNat true) x5 (wrap64 (x6 + 1)) x33002000 x33002001 x33002002 x33002003 x33002004) else (none)) else (none)) else (dataflowref39_Doomed.l1 k x4 x5 (wrap64 (x6 + 1)) x33002000 x33002001 x33002002 x33002003 x33002004)) else (none)) else (none)) else (none)) else (dataflowref39_Doomed.l0 k x4 (wrap64 (x5 + 1)) x33002000 x33002001 x33002002 x33002003 x33002004)
def dataflowref39_Doomed.l2 : Nat → List Int → List Bool → Int → Option (List Int)
  | 0, _, _, _ => none
  | k + 1, x3, x4, x7 => if x7 < (x4.length : Int) then (if 0 ≤ x7 then (if rdOf false x4 x7 = true then (if x3.length < 17592186044416 then (dataflowref39_Doomed.l2 k (x3 ++ [x7]) x4 (wrap64 (x7 + 1))) else (none)) else (dataflowref39_Doomed.l2 k x3 x4 (wrap64 (x7 + 1)))) else (none)) else (some x3)
end
def dataflowref39_Doomed.f (k : Nat) (a0_0 : ByteArray) (l0_1 : List ByteArray) (a0_2 : Int) (a0_3 : Int) (l0_4 : List (S64)) : Option (List Int) := (dataflowref39_Check.f k a0_0 l0_1 a0_2 a0_3 l0_4).bind fun t33002 => (if t33002 = 0 then (if 0 ≤ (l0_1.length : Int) then (if ((l0_1.length : Int) : Int).toNat ≤ 281474976710656 then ((some (List.replicate ((l0_1.length : Int) : Int).toNat false : List Bool)).bind fun y33003 => (if 0 ≤ a0_3 then (if a0_3 < (y33003.length : Int) then (dataflowref39_Doomed.l0 k (y33003.set (a0_3 : Int).toNat true) 0 a0_0 l0_1 a0_2 a0_3 l0_4) else (none)) else (none))) else (none)) else (none)) else (some ([] : List Int)))
theorem dataflowref39_Doomed.mono_l : ∀ k, (∀ y0 y1 y2 y3 y4 y5 y6, LeO (dataflowref39_Doomed.l0 k y0 y1 y2 y3 y4 y5 y6) (dataflowref39_Doomed.l0 (k + 1) y0 y1 y2 y3 y4 y5 y6)) ∧ (∀ y0 y1 y2 y3 y4 y5 y6 y7, LeO (dataflowref39_Doomed.l1 k y0 y1 y2 y3 y4 y5 y6 y7) (dataflowref39_Doomed.l1 (k + 1) y0 y1 y2 y3 y4 y5 y6 y7)) ∧ (∀ y0 y1 y2, LeO (dataflowref39_Doomed.l2 k y0 y1 y2) (dataflowref39_Doomed.l2 (k + 1) y0 y1 y2))
  | 0 => ⟨fun _ _ _ _ _ _ _ r h => by simp [dataflowref39_Doomed.l0] at h, fun _ _ _ _ _ _ _ _ r h => by simp [dataflowref39_Doomed.l1] at h, fun _ _ _ r h => by simp [dataflowref39_Doomed.l2] at h⟩
  | k + 1 => by
    obtain ⟨ih0, ih1, ih2⟩ := dataflowref39_Doomed.mono_l k
    refine ⟨?_, ?_, ?_⟩
    · intro y0 y1 y2 y3 y4 y5 y6
      unfold dataflowref39_Doomed.l0
      repeat' first
      | (with_reducible exact ih0 _ _ _ _ _ _ _)
      | (with_reducible exact ih1 _ _ _ _ _ _ _ _)
      | (with_reducible exact ih2 _ _ _)
      | (with_reducible exact dataflowref39_Check.mono _ _ _ _ _ _)
      | (with_reducible exact LeO.refl _)
      | (with_reducible exact LeO.none _)
      | (with_reducible refine LeO.ite ?_ ?_)
      | (with_reducible refine LeO.bind ?_ (fun _ => ?_))
      | exact ih0 _ _ _ _ _ _ _
      | exact ih1 _ _ _ _ _ _ _ _
      | exact ih2 _ _ _
      | exact dataflowref39_Check.mono _ _ _ _ _ _
      | exact LeO.none _
      | refine LeO.ite ?_ ?_
      | refine LeO.bind ?_ (fun _ => ?_)
    · intro y0 y1 y2 y3 y4 y5 y6 y7
      unfold dataflowref39_Doomed.l1
      repeat' first
      | (with_reducible exact ih0 _ _ _ _ _ _ _)
      | (with_reducible exact ih1 _ _ _ _ _ _ _ _)
      | (with_reducible exact ih2 _ _ _)
      | (with_reducible exact dataflowref39_Check.mono _ _ _ _ _ _)
      | (with_reducible exact LeO.refl _)
      | (with_reducible exact LeO.none _)
      | (with_reducible refine LeO.ite ?_ ?_)
      | (with_reducible refine LeO.bind ?_ (fun _ => ?_))
      | exact ih0 _ _ _ _ _ _ _
      | exact ih1 _ _ _ _ _ _ _ _
      | exact ih2 _ _ _
      | exact dataflowref39_Check.mono _ _ _ _ _ _
      | exact LeO.none _
      | refine LeO.ite ?_ ?_
      | refine LeO.bind ?_ (fun _ => ?_)
    · intro y0 y1 y2
      unfold dataflowref39_Doomed.l2
      repeat' first
      | (with_reducible exact ih0 _ _ _ _ _ _ _)
      | (with_reducible exact ih1 _ _ _ _ _ _ _ _)
      | (with_reducible exact ih2 _ _ _)
      | (with_reducible exact dataflowref39_Check.mono _ _ _ _ _ _)
      | (with_reducible exact LeO.refl _)
      | (with_reducible exact LeO.none _)
      | (with_reducible refine LeO.ite ?_ ?_)
      | (with_reducible refine LeO.bind ?_ (fun _ => ?_))
      | exact ih0 _ _ _ _ _ _ _
      | exact ih1 _ _ _ _ _ _ _ _
      | exact ih2 _ _ _
      | exact dataflowref39_Check.mono _ _ _ _ _ _
      | exact LeO.none _
      | refine LeO.ite ?_ ?_
      | refine LeO.bind ?_ (fun _ => ?_)
theorem dataflowref39_Doomed.mono : ∀ a0 a1 a2 a3 a4 k, LeO (dataflowref39_Doomed.f k a0 a1 a2 a3 a4) (dataflowref39_Doomed.f (k + 1) a0 a1 a2 a3 a4) := by
  intro a0 a1 a2 a3 a4 k
  obtain ⟨ih0, ih1, ih2⟩ := dataflowref39_Doomed.mono_l k
  unfold dataflowref39_Doomed.f
  repeat' first
      | (with_reducible exact ih0 _ _ _ _ _ _ _)
      | (with_reducible exact ih1 _ _ _ _ _ _ _ _)
      | (with_reducible exact ih2 _ _ _)
      | (with_reducible exact dataflowref39_Check.mono _ _ _ _ _ _)
      | (with_reducible exact LeO.refl _)
      | (with_reducible exact LeO.none _)
      | (with_reducible refine LeO.ite ?_ ?_)
      | (with_reducible refine LeO.bind ?_ (fun _ => ?_))
      | exact ih0 _ _ _ _ _ _ _
      | exact ih1 _ _ _ _ _ _ _ _
      | exact ih2 _ _ _
      | exact dataflowref39_Check.mono _ _ _ _ _ _
      | exact LeO.none _
      | refine LeO.ite ?_ ?_
      | refine LeO.bind ?_ (fun _ => ?_)
set_option maxHeartbeats 8000000 in
set_option maxRecDepth 100000 in
theorem dataflowref39_Doomed.calls (k : Nat) (a0_0 : ByteArray) (A0_1 : Option Addr) (c0_1 : Nat) (l0_1 : List ByteArray) (a0_2 : Int) (a0_3 : Int) (A0_4 : Option Addr) (c0_4 : Nat) (l0_4 : List (S64)) (r : List Int) (w : World) (hr0_1 : Kd.C Kd.string w A0_1 l0_1.length l0_1) (hc0_1 : l0_1.length ≤ c0_1) (hr0_4 : Kd.C k64 w A0_4 l0_4.length l0_4) (hc0_4 : l0_4.length ≤ c0_4) (h : dataflowref39_Doomed.f k a0_0 l0_1 a0_2 a0_3 l0_4 = some r) :
    Calls Tryd.prog 32 #[.agg #[.string a0_0, .slice A0_1 l0_1.length c0_1, .int .i64 a0_2, .int .i64 a0_3, .slice A0_4 l0_4.length c0_4]] w fun e w' => ∃ v0_ : Value, e = .returned (v0_) ∧ Kd.R (Kd.int .i64) 3 w' w.heap.size (fun _ => True) v0_ r ∧ Below w.heap.size w w' := by
  have hu35 := Tryd.underlying35
  have HR0_1 := Aside0.mk hr0_1
  have HC0_1 := Aside0.mk hc0_1
  clear hr0_1 hc0_1
  have HR0_4 := Aside0.mk hr0_4
  have HC0_4 := Aside0.mk hc0_4
  clear hr0_4 hc0_4
  have HB := Aside0.mk (Below.refl w.heap.size w)
  have H : ((dataflowref39_Check.f k a0_0 l0_1 a0_2 a0_3 l0_4).bind fun t33002 => (if t33002 = 0 then (if 0 ≤ (l0_1.length : Int) then (if ((l0_1.length : Int) : Int).toNat ≤ 281474976710656 then ((some (List.replicate ((l0_1.length : Int) : Int).toNat false : List Bool)).bind fun y33003 => (if 0 ≤ a0_3 then (if a0_3 < (y33003.length : Int) then (dataflowref39_Doomed.l0 k (y33003.set (a0_3 : Int).toNat true) 0 a0_0 l0_1 a0_2 a0_3 l0_4) else (none)) else (none))) else (none)) else (none)) else (some ([] : List Int)))) = some r := h
  clear h
  replace H := Option.bind_eq_some_iff.mp H
  obtain ⟨t33002, A20, H⟩ := H
  replace H : (if t33002 = 0 then (if 0 ≤ (l0_1.length : Int) then (if ((l0_1.length : Int) : Int).toNat ≤ 281474976710656 then ((some (List.replicate ((l0_1.length : Int) : Int).toNat false : List Bool)).bind fun y33003 => (if 0 ≤ a0_3 then (if a0_3 < (y33003.length : Int) then (dataflowref39_Doomed.l0 k (y33003.set (a0_3 : Int).toNat true) 0 a0_0 l0_1 a0_2 a0_3 l0_4) else (none)) else (none))) else (none)) else (none)) else (some ([] : List Int))) = some r := H
  have A2 := Aside0.mk A20
  clear A20
  by_cases c3 : t33002 = 0
  · rw [if_pos c3] at H
    have c3b0 : (t33002 == 0) = true := beq_iff_eq.mpr c3
    have c3b1 : (t33002 != 0) = false := bne_eq_false_iff_eq.mpr c3
    clear c3
    by_cases c4 : 0 ≤ (l0_1.length : Int)
    · rw [if_pos c4] at H
      have c4b0 := eq_true c4
      have c4b1 : decide (0 ≤ (l0_1.length : Int)) = true := decide_eq_true c4
      clear c4
      by_cases c5 : ((l0_1.length : Int) : Int).toNat ≤ 281474976710656
      · rw [if_pos c5] at H
        have c5b0 := eq_true c5
        have c5b1 : decide (((l0_1.length : Int) : Int).toNat ≤ 281474976710656) = true := decide_eq_true c5
        clear c5
        obtain ⟨y33003, hy33003⟩ : ∃ y_ : List Bool, y_ = (List.replicate ((l0_1.length : Int) : Int).toNat false) := ⟨_, rfl⟩
        replace H : (if 0 ≤ a0_3 then (if a0_3 < (y33003.length : Int) then (dataflowref39_Doomed.l0 k (y33003.set (a0_3 : Int).toNat true) 0 a0_0 l0_1 a0_2 a0_3 l0_4) else (none)) else (none)) = some r := by first | (rw [hy33003]; with_reducible exact H) | (have H2_ := (Option.bind_some _ _).symm.trans H; rw [hy33003]; with_reducible exact H2_) | (have H2_ := (Option.bind_some _ _).symm.trans H; with_reducible exact H2_) | with_reducible exact H | (rw [hy33003]; exact H) | exact H
        have Ny33003 := Aside0.mk hy33003
        clear hy33003
        by_cases c6 : 0 ≤ a0_3
        · rw [if_pos c6] at H
          have c6b0 : decide (0 ≤ a0_3) = true := decide_eq_true c6
          clear c6
          by_cases c7 : a0_3 < (y33003.length : Int)
          · rw [if_pos c7] at H
            have c7b0 : decide (a0_3 < (y33003.length : Int)) = true := decide_eq_true c7
            clear c7
            obtain ⟨y33006, hy33006⟩ : ∃ y_ : List Bool, y_ = (y33003.set (a0_3 : Int).toNat true) := ⟨_, rfl⟩
            replace H : (dataflowref39_Doomed.l0 k y33006 0 a0_0 l0_1 a0_2 a0_3 l0_4) = some r := by first | (rw [hy33006]; with_reducible exact H) | (have H2_ := (Option.bind_some _ _).symm.trans H; rw [hy33006]; with_reducible exact H2_) | (have H2_ := (Option.bind_some _ _).symm.trans H; with_reducible exact H2_) | with_reducible exact H | (rw [hy33006]; exact H) | exact H
            have Ny33006 := Aside0.mk hy33006
            clear hy33006
            have H' := Aside0.mk H
            clear H
            go_enter Tryd.func32, Tryd.ntmps32
            go_wp2_with (first | ((with_reducible refine gate_dst (N := 1) rfl ?_); refine box_event ?hg (N := 1) ?hd (cs := #[.string a0_0, .slice A0_1 l0_1.length c0_1, .int .i64 a0_2, .int .i64 a0_3, .slice A0_4 l0_4.length c0_4]) (t := 35) ?hr ?_; (case hd => rfl); (case hg => rfl); (case hr => first | (go_simp; done) | (go_simp; rfl)); intro gb33001 hg w9 hbox hb; have n0_ := Aside0.mk (below_step (by repeat (first | (with_reducible first | exact HB.out | apply below_alloc | apply pw_below_drewN | apply below_drew1) | exact HB.out)) hb); have n1_ := Aside0.mk (hbox); have n2_ := Aside0.mk ((by rw [hg]; exact (below_size (by repeat (first | (with_reducible first | exact HB.out | apply below_alloc | apply pw_below_drewN | apply below_drew1) | exact HB.out))) : w.heap.size ≤ gb33001)); have n3_ := Aside0.mk ((by rw [hg]; exact (below_size (by repeat (first | (with_reducible first | exact HB.out | apply below_alloc | apply pw_below_drewN | apply below_drew1) | exact HB.out))) : w.heap.size ≤ gb33001)); clear HB; have HB := n0_; have BK33001 := n1_; have GW33001 := n2_; have GE33001 := n3_; clear n0_ n1_ n2_ n3_; clear hb hbox hg; have hcz10_0 : w9.cell? ⟨gb33001, 0, none⟩ = some (.string a0_0) := (blk_cell BK33001.out 0).trans rfl; have hcz10_1 : w9.cell? ⟨gb33001, 1, none⟩ = some (.slice A0_1 l0_1.length c0_1) := (blk_cell BK33001.out 1).trans rfl; have hcz10_2 : w9.cell? ⟨gb33001, 2, none⟩ = some (.int .i64 a0_2) := (blk_cell BK33001.out 2).trans rfl; have hcz10_3 : w9.cell? ⟨gb33001, 3, none⟩ = some (.int .i64 a0_3) := (blk_cell BK33001.out 3).trans rfl; have hcz10_4 : w9.cell? ⟨gb33001, 4, none⟩ = some (.slice A0_4 l0_4.length c0_4) := (blk_cell BK33001.out 4).trans rfl; have hfz10_0 := blk_frozen BK33001.out 0; have hfz10_1 := blk_frozen BK33001.out 1; have hfz10_2 := blk_frozen BK33001.out 2; have hfz10_3 := blk_frozen BK33001.out 3; have hfz10_4 := blk_frozen BK33001.out 4) | ((with_reducible refine gate_callee (f := 34) rfl ?_); refine goesL_ (some 9) rfl rfl Tryd.func34 (by kernel_rfl) rfl #[.agg #[.string a0_0, .slice A0_1 l0_1.length c0_1, .int .i64 a0_2, .int .i64 a0_3, .slice A0_4 l0_4.length c0_4]] rfl (by (try simp only [List.map_toArray, List.map_cons, List.map_nil]); first | done | rfl | (simp only [List.length_drop, List.length_take]; rfl)) ?_; (with_reducible refine (dataflowref39_Check.calls k a0_0 _ _ l0_1 a0_2 a0_3 _ _ l0_4 t33002 _ ?side1 ?side2 ?side3 ?side4 A2.out).mono ?_); (case side1 => repeat (first | exact (Kd.C_below HR0_1.out HB.out) | (with_reducible refine Kd.C_alloc ?_ _) | (with_reducible refine Kd.C_drewN ?_ _) | (with_reducible refine Kd.C_drew ?_))); (case side2 => exact HC0_1.out); (case side3 => repeat (first | exact (Kd.C_below HR0_4.out HB.out) | (with_reducible refine Kd.C_alloc ?_ _) | (with_reducible refine Kd.C_drewN ?_ _) | (with_reducible refine Kd.C_drew ?_))); (case side4 => exact HC0_4.out); rintro e w11 ⟨rfl, hb⟩; refine ⟨_, rfl, ?_⟩; have n0_ := Aside0.mk (blk_below (g := gb33001) (o := .cells #[.string a0_0, .slice A0_1 l0_1.length c0_1, .int .i64 a0_2, .int .i64 a0_3, .slice A0_4 l0_4.length c0_4] 35 (0, 0)) (by (with_reducible repeat (first | refine blk_drewN ?_ _ | refine blk_drew ?_ | refine blk_alloc ?_ _)); exact BK33001.out) hb); have n1_ := Aside0.mk (below_step (by repeat (first | (with_reducible first | exact HB.out | apply below_alloc | apply pw_below_drewN | apply below_drew1 | refine below_set ?_ GE33001.out) | exact HB.out)) hb); clear BK33001; clear HB; have BK33001 := n0_; have HB := n1_; clear n0_ n1_; (try clear hb); (try clear hb2); (try clear hk); (try clear hi); have hcz12_0 : w11.cell? ⟨gb33001, 0, none⟩ = some (.string a0_0) := (blk_cell BK33001.out 0).trans rfl; have hcz12_1 : w11.cell? ⟨gb33001, 1, none⟩ = some (.slice A0_1 l0_1.length c0_1) := (blk_cell BK33001.out 1).trans rfl; have hcz12_2 : w11.cell? ⟨gb33001, 2, none⟩ = some (.int .i64 a0_2) := (blk_cell BK33001.out 2).trans rfl; have hcz12_3 : w11.cell? ⟨gb33001, 3, none⟩ = some (.int .i64 a0_3) := (blk_cell BK33001.out 3).trans rfl; have hcz12_4 : w11.cell? ⟨gb33001, 4, none⟩ = some (.slice A0_4 l0_4.length c0_4) := (blk_cell BK33001.out 4).trans rfl; have hfz12_0 := blk_frozen BK33001.out 0; have hfz12_1 := blk_frozen BK33001.out 1; have hfz12_2 := blk_frozen BK33001.out 2; have hfz12_3 := blk_frozen BK33001.out 3; have hfz12_4 := blk_frozen BK33001.out 4) | ((with_reducible refine gate_dst (N := 15) rfl ?_); refine Kd.R_make Kd.bool _ 4 rfl (N := 15) rfl 66 _ _ rfl (l0_1.length : Int) rfl rfl Tryd.underlying66 (.bool false) 1 info4 rfl (by decide) (by omega) false (ok := fun _ => True) (okp := fun _ => True) rfl (fun _ hk => hk) trivial (of_decide_eq_true (by first | (with_reducible assumption) | assumption)) (Nat.le_trans (Nat.mul_le_mul_right _ (of_decide_eq_true (by first | (with_reducible assumption) | assumption) : (l0_1.length : Int).toNat ≤ 281474976710656)) (by omega)) (Below.refl _ _) (Nat.le_refl _) ?_; intro v33004 w13 ho14 hb hg_ hnew_; clear hg_ hnew_; (first | rw [← Ny33003.out] at ho14 | (simp only [Int.reduceToNat] at ho14; rw [← Ny33003.out] at ho14)); have n0_ := Aside0.mk (Kd.R_lower ho14 (below_size (by repeat (first | (with_reducible first | exact HB.out | apply below_alloc | apply pw_below_drewN | apply below_drew1 | refine below_set ?_ GE33001.out) | exact HB.out)))); have n1_ := Aside0.mk (blk_below (g := gb33001) (o := .cells #[.string a0_0, .slice A0_1 l0_1.length c0_1, .int .i64 a0_2, .int .i64 a0_3, .slice A0_4 l0_4.length c0_4] 35 (0, 0)) (by (with_reducible repeat (first | refine blk_drewN ?_ _ | refine blk_drew ?_ | refine blk_alloc ?_ _)); exact BK33001.out) hb); have n2_ := Aside0.mk (below_step (by repeat (first | (with_reducible first | exact HB.out | apply below_alloc | apply pw_below_drewN | apply below_drew1 | refine below_set ?_ GE33001.out) | exact HB.out)) hb); clear BK33001; clear HB; have HO33005 := n0_; have BK33001 := n1_; have HB := n2_; clear n0_ n1_ n2_; clear hb ho14; have hcz15_0 : w13.cell? ⟨gb33001, 0, none⟩ = some (.string a0_0) := (blk_cell BK33001.out 0).trans rfl; have hcz15_1 : w13.cell? ⟨gb33001, 1, none⟩ = some (.slice A0_1 l0_1.length c0_1) := (blk_cell BK33001.out 1).trans rfl; have hcz15_2 : w13.cell? ⟨gb33001, 2, none⟩ = some (.int .i64 a0_2) := (blk_cell BK33001.out 2).trans rfl; have hcz15_3 : w13.cell? ⟨gb33001, 3, none⟩ = some (.int .i64 a0_3) := (blk_cell BK33001.out 3).trans rfl; have hcz15_4 : w13.cell? ⟨gb33001, 4, none⟩ = some (.slice A0_4 l0_4.length c0_4) := (blk_cell BK33001.out 4).trans rfl; have hfz15_0 := blk_frozen BK33001.out 0; have hfz15_1 := blk_frozen BK33001.out 1; have hfz15_2 := blk_frozen BK33001.out 2; have hfz15_3 := blk_frozen BK33001.out 3; have hfz15_4 := blk_frozen BK33001.out 4; have p8 : 0 ≤ (a0_3 : Int) := of_decide_eq_true (by first | (with_reducible assumption) | assumption); have q8 : (a0_3 : Int) < ((y33003.length : Int) : Int) := of_decide_eq_true (by first | (with_reducible assumption) | assumption); obtain ⟨go8, co8, eo8, gb8, gl8, cl8, HG8⟩ := Kd.R_form HO33005.out (by omega); (first | cases eo8 | (injection eo8 with ea_ en_ ec_; (first | subst ea_ | (injection ea_ with ea_; subst ea_)); subst ec_; clear en_)); have GB8 := Aside0.mk gb8; have GG8 := Aside0.mk HG8; clear gb8 gl8 HG8; obtain ⟨hx8_0, hf8_0⟩ := Kd.R_celln false HO33005.out (a0_3 : Int) p8 q8; replace p8 := eq_true p8; replace q8 := eq_true q8; obtain ⟨hy16_, hz16_⟩ := Kd.R_celln false HO33005.out (a0_3 : Int) (of_decide_eq_true (by first | (with_reducible assumption) | assumption)) (of_decide_eq_true (by first | (with_reducible assumption) | assumption)); have HP16 := Kd.R_putg HO33005.out (a0_3 : Int) true) | ((with_reducible refine gate_store (t := 4) (p := 19) rfl ?_); refine store_event (t := 4) (p := 19) (v := ?vo_w17) (w1 := (w13.setCell ⟨go8, (a0_3 : Int).toNat, none⟩ (.bool true))) ?hg ?ho ?hn ?hr ?_; (case ho => rfl); (case hg => rfl); (case hn => rfl); (case hr => first | (go_simp; done) | (go_simp; rfl)); intro w17 hw; have hg : w13.grownBy w17 (some go8) := (by rw [hw]; exact HP16.2); have hp_ : Kd.R Kd.bool 4 w17 w.heap.size (fun _ => True) (.slice (some ⟨go8, 0, none⟩) y33003.length co8) y33006 := (by rw [hw, Ny33006.out]; exact HP16.1); clear HP16; have n0_ := Aside0.mk (blk_grown (g := gb33001) (o := .cells #[.string a0_0, .slice A0_1 l0_1.length c0_1, .int .i64 a0_2, .int .i64 a0_3, .slice A0_4 l0_4.length c0_4] 35 (0, 0)) (by (with_reducible repeat (first | refine blk_drewN ?_ _ | refine blk_drew ?_ | refine blk_alloc ?_ _)); exact BK33001.out) hg (Kd.R_ne HO33005.out BK33001.out (by decide))); have n1_ := Aside0.mk (hp_); have n2_ := Aside0.mk ((by rw [hw]; exact below_set (HB.out) GB8.out : Below w.heap.size w w17)); clear BK33001; clear HO33005; clear HB; have BK33001 := n0_; have HO33005 := n1_; have HB := n2_; clear n0_ n1_ n2_; clear hg hw hp_))
            go_loopg [5] k (fun kq v5 w' => ∃ (x4_1 : List Bool) (x5_1 : Int), v5 = .int .i64 x5_1 ∧ Aside0 (dataflowref39_Doomed.l0 kq x4_1 x5_1 a0_0 l0_1 a0_2 a0_3 l0_4 = some r) ∧ Aside0 (kq ≤ k) ∧ Aside0 (Kd.R Kd.bool 4 w' w.heap.size (fun _ => True) (.slice (some ⟨go8, 0, none⟩) y33003.length co8) x4_1) ∧ Aside0 (w'.heap[gb33001]? = some (.cells #[.string a0_0, (.slice A0_1 l0_1.length c0_1), .int .i64 a0_2, .int .i64 a0_3, (.slice A0_4 l0_4.length c0_4)] 35 (0, 0))) ∧ Aside0 (Below w.heap.size w w'))
            case atStart => exact ⟨(y33006), (0), (by first | rfl | (simp; done) | (simp [*]; done)), H', ⟨Nat.le_refl _⟩, ⟨by (with_reducible repeat (first | apply Kd.R_alloc | apply Kd.R_drewN | apply Kd.R_drew)); exact HO33005.out⟩, ⟨by (with_reducible repeat (first | refine blk_drewN ?_ _ | refine blk_drew ?_ | refine blk_alloc ?_ _)); exact BK33001.out⟩, ⟨by repeat (first | (with_reducible first | exact HB.out | apply below_alloc | apply pw_below_drewN | apply below_drew1 | refine below_set ?_ GE33001.out) | exact HB.out)⟩⟩
            case round =>
              clear H'
              try clear p2
              try clear c3
              try clear c3b0
              try clear c3b1
              try clear c4
              try clear c4b0
              try clear c4b1
              try clear c5
              try clear c5b0
              try clear c5b1
              try clear c6
              try clear c6b0
              try clear c7
              try clear c7b0
              try clear p8
              try clear q8
              try clear hx8
              try clear hf8
              try clear hcz10_0
              try clear hcz10_1
              try clear hcz10_2
              try clear hcz10_3
              try clear hcz10_4
              try clear hcz12_0
              try clear hcz12_1
              try clear hcz12_2
              try clear hcz12_3
              try clear hcz12_4
              try clear hcz15_0
              try clear hcz15_1
              try clear hcz15_2
              try clear hcz15_3
              try clear hcz15_4
              try clear hfz10_0
              try clear hfz10_1
              try clear hfz10_2
              try clear hfz10_3
              try clear hfz10_4
              try clear hfz12_0
              try clear hfz12_1
              try clear hfz12_2
              try clear hfz12_3
              try clear hfz12_4
              try clear hfz15_0
              try clear hfz15_1
              try clear hfz15_2
              try clear hfz15_3
              try clear hfz15_4
              try clear hx8_0
              try clear p8
              try clear q8
              obtain ⟨x4_1, x5_1, rfl, HA, HK1, HO_4, BK33001, HB⟩ := hrel
              have hl4_1 := (Kd.R_reads' HO_4.out).1
              rw [hl4_1] at HO_4
              (try simp only [hl4_1])
              (try simp only [hl4_1] at BK33001)
              cases gk with
              | zero => exact absurd HA.out (by simp [dataflowref39_Doomed.l0])
              | succ k1 =>
                have H := HA.out
                clear HA
                simp only [dataflowref39_Doomed.l0] at H
                by_cases c18 : x5_1 < (l0_1.length : Int)
                · rw [if_pos c18] at H
                  have c18b0 : decide (x5_1 < (l0_1.length : Int)) = true := decide_eq_true c18
                  clear c18
                  have H' := Aside0.mk H
                  clear H
                  have hcz19_0 : wr.cell? ⟨gb33001, 0, none⟩ = some (.string a0_0) := (blk_cell BK33001.out 0).trans rfl
                  have hcz19_1 : wr.cell? ⟨gb33001, 1, none⟩ = some (.slice A0_1 l0_1.length c0_1) := (blk_cell BK33001.out 1).trans rfl
                  have hcz19_2 : wr.cell? ⟨gb33001, 2, none⟩ = some (.int .i64 a0_2) := (blk_cell BK33001.out 2).trans rfl
                  have hcz19_3 : wr.cell? ⟨gb33001, 3, none⟩ = some (.int .i64 a0_3) := (blk_cell BK33001.out 3).trans rfl
                  have hcz19_4 : wr.cell? ⟨gb33001, 4, none⟩ = some (.slice A0_4 l0_4.length c0_4) := (blk_cell BK33001.out 4).trans rfl
                  have hfz19_0 := blk_frozen BK33001.out 0
                  have hfz19_1 := blk_frozen BK33001.out 1
                  have hfz19_2 := blk_frozen BK33001.out 2
                  have hfz19_3 := blk_frozen BK33001.out 3
                  have hfz19_4 := blk_frozen BK33001.out 4
                  go_wp2
                  go_loopg [6] k1 (fun kq v6 w' => ∃ (x4_2 : List Bool) (x6_2 : Int), v6 = .int .i64 x6_2 ∧ Aside0 (dataflowref39_Doomed.l1 kq x4_2 x5_1 x6_2 a0_0 l0_1 a0_2 a0_3 l0_4 = some r) ∧ Aside0 (kq ≤ k1) ∧ Aside0 (Kd.R Kd.bool 4 w' w.heap.size (fun _ => True) (.slice (some ⟨go8, 0, none⟩) x4_1.length co8) x4_2) ∧ Aside0 (w'.heap[gb33001]? = some (.cells #[.string a0_0, (.slice A0_1 l0_1.length c0_1), .int .i64 a0_2, .int .i64 a0_3, (.slice A0_4 l0_4.length c0_4)] 35 (0, 0))) ∧ Aside0 (Below w.heap.size w w'))
                  case atStart => exact ⟨(x4_1), (0), (by first | rfl | (simp; done) | (simp [*]; done)), H', ⟨Nat.le_refl _⟩, ⟨by (try simp only [hl4_1]); (with_reducible repeat (first | apply Kd.R_alloc | apply Kd.R_drewN | apply Kd.R_drew)); exact HO_4.out⟩, ⟨by (try simp only [hl4_1]); (with_reducible repeat (first | refine blk_drewN ?_ _ | refine blk_drew ?_ | refine blk_alloc ?_ _)); exact BK33001.out⟩, ⟨by repeat (first | (with_reducible first | exact HB.out | apply below_alloc | apply pw_below_drewN | apply below_drew1 | refine below_set ?_ GE33001.out) | exact HB.out)⟩⟩
                  case round =>
                    clear H'
                    try clear c1
                    try clear p2
                    try clear c3
                    try clear c3b0
                    try clear c3b1
                    try clear c4
                    try clear c4b0
                    try clear c4b1
                    try clear c5
                    try clear c5b0
                    try clear c5b1
                    try clear c6
                    try clear c6b0
                    try clear c7
                    try clear c7b0
                    try clear p8
                    try clear q8
                    try clear hx8
                    try clear hf8
                    try clear c18
                    try clear c18b0
                    try clear hcz10_0
                    try clear hcz10_1
                    try clear hcz10_2
                    try clear hcz10_3
                    try clear hcz10_4
                    try clear hcz12_0
                    try clear hcz12_1
                    try clear hcz12_2
                    try clear hcz12_3
                    try clear hcz12_4
                    try clear hcz15_0
                    try clear hcz15_1
                    try clear hcz15_2
                    try clear hcz15_3
                    try clear hcz15_4
                    try clear hcz19_0
                    try clear hcz19_1
                    try clear hcz19_2
                    try clear hcz19_3
                    try clear hcz19_4
                    try clear hfz10_0
                    try clear hfz10_1
                    try clear hfz10_2
                    try clear hfz10_3
                    try clear hfz10_4
                    try clear hfz12_0
                    try clear hfz12_1
                    try clear hfz12_2
                    try clear hfz12_3
                    try clear hfz12_4
                    try clear hfz15_0
                    try clear hfz15_1
                    try clear hfz15_2
                    try clear hfz15_3
                    try clear hfz15_4
                    try clear hfz19_0
                    try clear hfz19_1
                    try clear hfz19_2
                    try clear hfz19_3
                    try clear hfz19_4
                    try clear hx8_0
                    try clear p2
                    try clear p8
                    try clear q8
                    obtain ⟨x4_2, x6_2, rfl, HA, HK2, HO_4, BK33001, HB⟩ := hrel
                    have hl4_2 := (Kd.R_reads' HO_4.out).1
                    rw [hl4_2] at HO_4
                    (try simp only [hl4_2])
                    (try simp only [hl4_2] at BK33001)
                    cases gk with
                    | zero => exact absurd HA.out (by simp [dataflowref39_Doomed.l1])
                    | succ k2 =>
                      have H := HA.out
                      clear HA
                      simp only [dataflowref39_Doomed.l1] at H
                      by_cases c20 : x6_2 < (l0_4.length : Int)
                      · rw [if_pos c20] at H
                        have c20b0 : decide (x6_2 < (l0_4.length : Int)) = true := decide_eq_true c20
                        clear c20
                        by_cases c21 : 0 ≤ x6_2
                        · rw [if_pos c21] at H
                          have c21b0 : decide (0 ≤ x6_2) = true := decide_eq_true c21
                          clear c21
                          by_cases c22 : 0 ≤ ((rd_T64 l0_4 x6_2).f2)
                          · rw [if_pos c22] at H
                            have c22b0 : decide (0 ≤ ((rd_T64 l0_4 x6_2).f2)) = true := decide_eq_true c22
                            clear c22
                            by_cases c23 : ((rd_T64 l0_4 x6_2).f2) < (x4_2.length : Int)
                            · rw [if_pos c23] at H
                              have c23b0 : decide (((rd_T64 l0_4 x6_2).f2) < (x4_2.length : Int)) = true := decide_eq_true c23
                              clear c23
                              obtain ⟨bq24, hbq24⟩ : ∃ b_ : Bool, b_ = (rdOf false x4_2 ((rd_T64 l0_4 x6_2).f2)) := ⟨_, rfl⟩
                              replace H : (if bq24 = true then (if 0 ≤ ((rd_T64 l0_4 x6_2).f0) then (if ((rd_T64 l0_4 x6_2).f0) < (x4_2.length : Int) then (dataflowref39_Doomed.l1 k2 (x4_2.set (((rd_T64 l0_4 x6_2).f0) : Int).toNat true) x5_1 (wrap64 (x6_2 + 1)) a0_0 l0_1 a0_2 a0_3 l0_4) else (none)) else (none)) else (dataflowref39_Doomed.l1 k2 x4_2 x5_1 (wrap64 (x6_2 + 1)) a0_0 l0_1 a0_2 a0_3 l0_4)) = some r := by rw [← hbq24] at H; exact H
                              have Nbq24 := Aside0.mk hbq24
                              clear hbq24
                              by_cases c25 : bq24 = true
                              · subst c25
                                have H1 : (if 0 ≤ ((rd_T64 l0_4 x6_2).f0) then (if ((rd_T64 l0_4 x6_2).f0) < (x4_2.length : Int) then (dataflowref39_Doomed.l1 k2 (x4_2.set (((rd_T64 l0_4 x6_2).f0) : Int).toNat true) x5_1 (wrap64 (x6_2 + 1)) a0_0 l0_1 a0_2 a0_3 l0_4) else (none)) else (none)) = some r := by rw [if_pos rfl] at H; exact H
                                clear H
                                have H := H1
                                clear H1
                                by_cases c26 : 0 ≤ ((rd_T64 l0_4 x6_2).f0)
                                · rw [if_pos c26] at H
                                  have c26b0 : decide (0 ≤ ((rd_T64 l0_4 x6_2).f0)) = true := decide_eq_true c26
                                  clear c26
                                  by_cases c27 : ((rd_T64 l0_4 x6_2).f0) < (x4_2.length : Int)
                                  · rw [if_pos c27] at H
                                    have c27b0 : decide (((rd_T64 l0_4 x6_2).f0) < (x4_2.length : Int)) = true := decide_eq_true c27
                                    clear c27
                                    obtain ⟨y33010, hy33010⟩ : ∃ y_ : List Bool, y_ = (x4_2.set (((rd_T64 l0_4 x6_2).f0) : Int).toNat true) := ⟨_, rfl⟩
                                    replace H : (dataflowref39_Doomed.l1 k2 y33010 x5_1 (wrap64 (x6_2 + 1)) a0_0 l0_1 a0_2 a0_3 l0_4) = some r := by first | (rw [hy33010]; with_reducible exact H) | (have H2_ := (Option.bind_some _ _).symm.trans H; rw [hy33010]; with_reducible exact H2_) | (have H2_ := (Option.bind_some _ _).symm.trans H; with_reducible exact H2_) | with_reducible exact H | (rw [hy33010]; exact H) | exact H
                                    have Ny33010 := Aside0.mk hy33010
                                    clear hy33010
                                    have H' := Aside0.mk H
                                    clear H
                                    have hcz29_0 : wr.cell? ⟨gb33001, 0, none⟩ = some (.string a0_0) := (blk_cell BK33001.out 0).trans rfl
                                    have hcz29_1 : wr.cell? ⟨gb33001, 1, none⟩ = some (.slice A0_1 l0_1.length c0_1) := (blk_cell BK33001.out 1).trans rfl
                                    have hcz29_2 : wr.cell? ⟨gb33001, 2, none⟩ = some (.int .i64 a0_2) := (blk_cell BK33001.out 2).trans rfl
                                    have hcz29_3 : wr.cell? ⟨gb33001, 3, none⟩ = some (.int .i64 a0_3) := (blk_cell BK33001.out 3).trans rfl
                                    have hcz29_4 : wr.cell? ⟨gb33001, 4, none⟩ = some (.slice A0_4 l0_4.length c0_4) := (blk_cell BK33001.out 4).trans rfl
                                    have hfz29_0 := blk_frozen BK33001.out 0
                                    have hfz29_1 := blk_frozen BK33001.out 1
                                    have hfz29_2 := blk_frozen BK33001.out 2
                                    have hfz29_3 := blk_frozen BK33001.out 3
                                    have hfz29_4 := blk_frozen BK33001.out 4
                                    have p33007 : 0 ≤ (x6_2 : Int) := of_decide_eq_true (by first | (with_reducible assumption) | assumption)
                                    have q33007 : x6_2 < (l0_4.length : Int) := of_decide_eq_true (by first | (with_reducible assumption) | assumption)
                                    obtain ⟨ad33007, e33007, hx33007_0, hx33007_1, hx33007_2⟩ := at_T64 HR0_4.out x6_2 p33007 q33007
                                    cases e33007
                                    replace hx33007_0 := (HB.out.cell (World.block_lt_of_cell? w _ hx33007_0)).trans hx33007_0
                                    replace hx33007_1 := (HB.out.cell (World.block_lt_of_cell? w _ hx33007_1)).trans hx33007_1
                                    replace hx33007_2 := (HB.out.cell (World.block_lt_of_cell? w _ hx33007_2)).trans hx33007_2
                                    replace p33007 := eq_true p33007
                                    replace q33007 := eq_true q33007
                                    have p33008 : 0 ≤ (((rd_T64 l0_4 x6_2).f2) : Int) := of_decide_eq_true (by first | (with_reducible assumption) | assumption)
                                    have q33008 : ((rd_T64 l0_4 x6_2).f2) < (x4_2.length : Int) := of_decide_eq_true (by first | (with_reducible assumption) | assumption)
                                    obtain ⟨ad33008, e33008, hx33008_0⟩ := Kd.at_bool (Kd.R_reads' HO_4.out).2.2 ((rd_T64 l0_4 x6_2).f2) p33008 q33008
                                    (try rw [← Nbq24.out] at hx33008_0)
                                    obtain rfl : (⟨go8, 0, none⟩ : Addr) = ad33008 := (by injection e33008)
                                    (first | simp only [add_plain] at hx33008_0 | simp only [add_at] at hx33008_0 | simp only [Addr.add, Nat.zero_add] at hx33008_0 | skip)
                                    replace p33008 := eq_true p33008
                                    replace q33008 := eq_true q33008
                                    have p33009 : 0 ≤ (x6_2 : Int) := of_decide_eq_true (by first | (with_reducible assumption) | assumption)
                                    have q33009 : x6_2 < (l0_4.length : Int) := of_decide_eq_true (by first | (with_reducible assumption) | assumption)
                                    obtain ⟨ad33009, e33009, hx33009_0, hx33009_1, hx33009_2⟩ := at_T64 HR0_4.out x6_2 p33009 q33009
                                    obtain rfl : ad33007 = ad33009 := (by injection e33009)
                                    replace hx33009_0 := (HB.out.cell (World.block_lt_of_cell? w _ hx33009_0)).trans hx33009_0
                                    replace hx33009_1 := (HB.out.cell (World.block_lt_of_cell? w _ hx33009_1)).trans hx33009_1
                                    replace hx33009_2 := (HB.out.cell (World.block_lt_of_cell? w _ hx33009_2)).trans hx33009_2
                                    replace p33009 := eq_true p33009
                                    replace q33009 := eq_true q33009
                                    have p28 : 0 ≤ (((rd_T64 l0_4 x6_2).f0) : Int) := of_decide_eq_true (by first | (with_reducible assumption) | assumption)
                                    have q28 : (((rd_T64 l0_4 x6_2).f0) : Int) < ((x4_2.length : Int) : Int) := of_decide_eq_true (by first | (with_reducible assumption) | assumption)
                                    obtain ⟨hx28_0, hf28_0⟩ := Kd.R_celln false HO_4.out (((rd_T64 l0_4 x6_2).f0) : Int) p28 q28
                                    replace p28 := eq_true p28
                                    replace q28 := eq_true q28
                                    have HP30 := Kd.R_putg HO_4.out (((rd_T64 l0_4 x6_2).f0) : Int) true
                                    go_wp2_with (first | ((with_reducible refine gate_store (t := 4) (p := 50) rfl ?_); refine store_event (t := 4) (p := 50) (v := ?vo_w31) (w1 := (wr.setCell ⟨go8, (((rd_T64 l0_4 x6_2).f0) : Int).toNat, none⟩ (.bool true))) ?hg ?ho ?hn ?hr ?_; (case ho => rfl); (case hg => rfl); (case hn => rfl); (case hr => first | (go_simp; done) | (go_simp; rfl)); intro w31 hw; have hg : wr.grownBy w31 (some go8) := (by rw [hw]; exact HP30.2); have hp_ : Kd.R Kd.bool 4 w31 w.heap.size (fun _ => True) (.slice (some ⟨go8, 0, none⟩) x4_2.length co8) y33010 := (by rw [hw, Ny33010.out]; exact HP30.1); clear HP30; have n0_ := Aside0.mk (hp_); have n1_ := Aside0.mk (blk_grown (g := gb33001) (o := .cells #[.string a0_0, .slice A0_1 l0_1.length c0_1, .int .i64 a0_2, .int .i64 a0_3, .slice (some ad33007) l0_4.length c0_4] 35 (0, 0)) (by (with_reducible repeat (first | refine blk_drewN ?_ _ | refine blk_drew ?_ | refine blk_alloc ?_ _)); exact BK33001.out) hg (Kd.R_ne HO_4.out BK33001.out (by decide))); have n2_ := Aside0.mk ((by rw [hw]; exact below_set (HB.out) GB8.out : Below w.heap.size w w31)); clear HO_4; clear BK33001; clear HB; have HO_4 := n0_; have BK33001 := n1_; have HB := n2_; clear n0_ n1_ n2_; clear hg hw hp_))
                                    (try simp only [← hl4_2])
                                    go_roundg k2
                                    case measure => have := HK1.out; have := HK2.out; omega
                                    case rel => exact ⟨(y33010), (wrap64 (x6_2 + 1)), (by first | rfl | (simp; done) | (simp [*]; done)), H', ⟨by have := HK1.out; have := HK2.out; omega⟩, ⟨by (try simp only [hl4_1]); (try simp only [hl4_2]); (with_reducible repeat (first | apply Kd.R_alloc | apply Kd.R_drewN | apply Kd.R_drew)); exact HO_4.out⟩, ⟨by (try simp only [hl4_1]); (try simp only [hl4_2]); (with_reducible repeat (first | refine blk_drewN ?_ _ | refine blk_drew ?_ | refine blk_alloc ?_ _)); exact BK33001.out⟩, ⟨by repeat (first | (with_reducible first | exact HB.out | apply below_alloc | apply pw_below_drewN | apply below_drew1 | refine below_set ?_ GE33001.out) | exact HB.out)⟩⟩
                                  · rw [if_neg c27] at H
                                    exact absurd H (by simp)
                                · rw [if_neg c26] at H
                                  exact absurd H (by simp)
                              · replace c25 := Bool.eq_false_iff.mpr c25
                                subst c25
                                have H1 : (dataflowref39_Doomed.l1 k2 x4_2 x5_1 (wrap64 (x6_2 + 1)) a0_0 l0_1 a0_2 a0_3 l0_4) = some r := by rw [if_neg (show ¬ (false = true) by decide)] at H; exact H
                                clear H
                                have H := H1
                                clear H1
                                have H' := Aside0.mk H
                                clear H
                                have hcz32_0 : wr.cell? ⟨gb33001, 0, none⟩ = some (.string a0_0) := (blk_cell BK33001.out 0).trans rfl
                                have hcz32_1 : wr.cell? ⟨gb33001, 1, none⟩ = some (.slice A0_1 l0_1.length c0_1) := (blk_cell BK33001.out 1).trans rfl
                                have hcz32_2 : wr.cell? ⟨gb33001, 2, none⟩ = some (.int .i64 a0_2) := (blk_cell BK33001.out 2).trans rfl
                                have hcz32_3 : wr.cell? ⟨gb33001, 3, none⟩ = some (.int .i64 a0_3) := (blk_cell BK33001.out 3).trans rfl
                                have hcz32_4 : wr.cell? ⟨gb33001, 4, none⟩ = some (.slice A0_4 l0_4.length c0_4) := (blk_cell BK33001.out 4).trans rfl
                                have hfz32_0 := blk_frozen BK33001.out 0
                                have hfz32_1 := blk_frozen BK33001.out 1
                                have hfz32_2 := blk_frozen BK33001.out 2
                                have hfz32_3 := blk_frozen BK33001.out 3
                                have hfz32_4 := blk_frozen BK33001.out 4
                                have p33007 : 0 ≤ (x6_2 : Int) := of_decide_eq_true (by first | (with_reducible assumption) | assumption)
                                have q33007 : x6_2 < (l0_4.length : Int) := of_decide_eq_true (by first | (with_reducible assumption) | assumption)
                                obtain ⟨ad33007, e33007, hx33007_0, hx33007_1, hx33007_2⟩ := at_T64 HR0_4.out x6_2 p33007 q33007
                                cases e33007
                                replace hx33007_0 := (HB.out.cell (World.block_lt_of_cell? w _ hx33007_0)).trans hx33007_0
                                replace hx33007_1 := (HB.out.cell (World.block_lt_of_cell? w _ hx33007_1)).trans hx33007_1
                                replace hx33007_2 := (HB.out.cell (World.block_lt_of_cell? w _ hx33007_2)).trans hx33007_2
                                replace p33007 := eq_true p33007
                                replace q33007 := eq_true q33007
                                have p33008 : 0 ≤ (((rd_T64 l0_4 x6_2).f2) : Int) := of_decide_eq_true (by first | (with_reducible assumption) | assumption)
                                have q33008 : ((rd_T64 l0_4 x6_2).f2) < (x4_2.length : Int) := of_decide_eq_true (by first | (with_reducible assumption) | assumption)
                                obtain ⟨ad33008, e33008, hx33008_0⟩ := Kd.at_bool (Kd.R_reads' HO_4.out).2.2 ((rd_T64 l0_4 x6_2).f2) p33008 q33008
                                (try rw [← Nbq24.out] at hx33008_0)
                                obtain rfl : (⟨go8, 0, none⟩ : Addr) = ad33008 := (by injection e33008)
                                (first | simp only [add_plain] at hx33008_0 | simp only [add_at] at hx33008_0 | simp only [Addr.add, Nat.zero_add] at hx33008_0 | skip)
                                replace p33008 := eq_true p33008
                                replace q33008 := eq_true q33008
                                go_wp2
                                (try simp only [← hl4_2])
                                go_roundg k2
                                case measure => have := HK1.out; have := HK2.out; omega
                                case rel => exact ⟨(x4_2), (wrap64 (x6_2 + 1)), (by first | rfl | (simp; done) | (simp [*]; done)), H', ⟨by have := HK1.out; have := HK2.out; omega⟩, ⟨by (try simp only [hl4_1]); (try simp only [hl4_2]); (with_reducible repeat (first | apply Kd.R_alloc | apply Kd.R_drewN | apply Kd.R_drew)); exact HO_4.out⟩, ⟨by (try simp only [hl4_1]); (try simp only [hl4_2]); (with_reducible repeat (first | refine blk_drewN ?_ _ | refine blk_drew ?_ | refine blk_alloc ?_ _)); exact BK33001.out⟩, ⟨by repeat (first | (with_reducible first | exact HB.out | apply below_alloc | apply pw_below_drewN | apply below_drew1 | refine below_set ?_ GE33001.out) | exact HB.out)⟩⟩
                            · rw [if_neg c23] at H
                              exact absurd H (by simp)
                          · rw [if_neg c22] at H
                            exact absurd H (by simp)
                        · rw [if_neg c21] at H
                          exact absurd H (by simp)
                      · rw [if_neg c20] at H
                        have c20b0 : decide (x6_2 < (l0_4.length : Int)) = false := decide_eq_false c20
                        clear c20
                        have H' := Aside0.mk H
                        clear H
                        have hcz33_0 : wr.cell? ⟨gb33001, 0, none⟩ = some (.string a0_0) := (blk_cell BK33001.out 0).trans rfl
                        have hcz33_1 : wr.cell? ⟨gb33001, 1, none⟩ = some (.slice A0_1 l0_1.length c0_1) := (blk_cell BK33001.out 1).trans rfl
                        have hcz33_2 : wr.cell? ⟨gb33001, 2, none⟩ = some (.int .i64 a0_2) := (blk_cell BK33001.out 2).trans rfl
                        have hcz33_3 : wr.cell? ⟨gb33001, 3, none⟩ = some (.int .i64 a0_3) := (blk_cell BK33001.out 3).trans rfl
                        have hcz33_4 : wr.cell? ⟨gb33001, 4, none⟩ = some (.slice A0_4 l0_4.length c0_4) := (blk_cell BK33001.out 4).trans rfl
                        have hfz33_0 := blk_frozen BK33001.out 0
                        have hfz33_1 := blk_frozen BK33001.out 1
                        have hfz33_2 := blk_frozen BK33001.out 2
                        have hfz33_3 := blk_frozen BK33001.out 3
                        have hfz33_4 := blk_frozen BK33001.out 4
                        go_wp2
                        (try simp only [← hl4_1, ← hl4_2])
                        go_roundg k2
                        case measure => have := HK1.out; have := HK2.out; omega
                        case rel => exact ⟨(x4_2), (wrap64 (x5_1 + 1)), (by first | rfl | (simp; done) | (simp [*]; done)), H', ⟨by have := HK1.out; have := HK2.out; omega⟩, ⟨by (try simp only [hl4_1]); (try simp only [hl4_2]); (with_reducible repeat (first | apply Kd.R_alloc | apply Kd.R_drewN | apply Kd.R_drew)); exact HO_4.out⟩, ⟨by (try simp only [hl4_1]); (try simp only [hl4_2]); (with_reducible repeat (first | refine blk_drewN ?_ _ | refine blk_drew ?_ | refine blk_alloc ?_ _)); exact BK33001.out⟩, ⟨by repeat (first | (with_reducible first | exact HB.out | apply below_alloc | apply pw_below_drewN | apply below_drew1 | refine below_set ?_ GE33001.out) | exact HB.out)⟩⟩
                · rw [if_neg c18] at H
                  have c18b0 : decide (x5_1 < (l0_1.length : Int)) = false := decide_eq_false c18
                  clear c18
                  have H' := Aside0.mk H
                  clear H
                  have hcz34_0 : wr.cell? ⟨gb33001, 0, none⟩ = some (.string a0_0) := (blk_cell BK33001.out 0).trans rfl
                  have hcz34_1 : wr.cell? ⟨gb33001, 1, none⟩ = some (.slice A0_1 l0_1.length c0_1) := (blk_cell BK33001.out 1).trans rfl
                  have hcz34_2 : wr.cell? ⟨gb33001, 2, none⟩ = some (.int .i64 a0_2) := (blk_cell BK33001.out 2).trans rfl
                  have hcz34_3 : wr.cell? ⟨gb33001, 3, none⟩ = some (.int .i64 a0_3) := (blk_cell BK33001.out 3).trans rfl
                  have hcz34_4 : wr.cell? ⟨gb33001, 4, none⟩ = some (.slice A0_4 l0_4.length c0_4) := (blk_cell BK33001.out 4).trans rfl
                  have hfz34_0 := blk_frozen BK33001.out 0
                  have hfz34_1 := blk_frozen BK33001.out 1
                  have hfz34_2 := blk_frozen BK33001.out 2
                  have hfz34_3 := blk_frozen BK33001.out 3
                  have hfz34_4 := blk_frozen BK33001.out 4
                  go_wp2
                  go_loopg [3, 7] k1 (fun kq v3 v7 w' => ∃ (x3_2 : List Int) (x7_2 : Int), v7 = .int .i64 x7_2 ∧ Aside0 (dataflowref39_Doomed.l2 kq x3_2 x4_1 x7_2 = some r) ∧ Aside0 (kq ≤ k1) ∧ Aside0 (Kd.R (Kd.int .i64) 3 w' w.heap.size (fun _ => True) v3 x3_2) ∧ Aside0 (Kd.R Kd.bool 4 w' w.heap.size (fun _ => True) (.slice (some ⟨go8, 0, none⟩) x4_1.length co8) x4_1) ∧ Aside0 (w'.heap[gb33001]? = some (.cells #[.string a0_0, (.slice A0_1 l0_1.length c0_1), .int .i64 a0_2, .int .i64 a0_3, (.slice A0_4 l0_4.length c0_4)] 35 (0, 0))) ∧ Aside0 (Below w.heap.size w w'))
                  case atStart => exact ⟨(([] : List Int)), (0), (by first | rfl | (simp; done) | (simp [*]; done)), H', ⟨Nat.le_refl _⟩, ⟨by (try simp only [hl4_1]); first | exact Kd.R_nil _ _ _ _ _ | exact Kd.N_nil _ _ _ _ _ | exact Kd.V_nil _ _ _ _ _ | exact Kd.Q_nil _ _ _ _ _ | exact Kd.S_nil _ _ _ _ _⟩, ⟨by (try simp only [hl4_1]); (with_reducible repeat (first | apply Kd.R_alloc | apply Kd.R_drewN | apply Kd.R_drew)); exact HO_4.out⟩, ⟨by (try simp only [hl4_1]); (with_reducible repeat (first | refine blk_drewN ?_ _ | refine blk_drew ?_ | refine blk_alloc ?_ _)); exact BK33001.out⟩, ⟨by repeat (first | (with_reducible first | exact HB.out | apply below_alloc | apply pw_below_drewN | apply below_drew1 | refine below_set ?_ GE33001.out) | exact HB.out)⟩⟩
                  case round =>
                    clear H'
                    try clear c1
                    try clear c2
                    try clear p2
                    try clear q2
                    try clear hx2
                    try clear hf2
                    try clear c3
                    try clear c3b0
                    try clear c3b1
                    try clear p3
                    try clear q3
                    try clear hx3
                    try clear c4
                    try clear c4b0
                    try clear c4b1
                    try clear c5
                    try clear c5b0
                    try clear c5b1
                    try clear c6
                    try clear c6b0
                    try clear p6
                    try clear c7
                    try clear c7b0
                    try clear p8
                    try clear q8
                    try clear hx8
                    try clear hf8
                    try clear c18
                    try clear c18b0
                    try clear c20
                    try clear c20b0
                    try clear c21
                    try clear c21b0
                    try clear c22
                    try clear c22b0
                    try clear c23
                    try clear c23b0
                    try clear q24
                    try clear c25
                    try clear c26
                    try clear c26b0
                    try clear c27
                    try clear c27b0
                    try clear p28
                    try clear q28
                    try clear hx28
                    try clear hf28
                    try clear c32
                    try clear p33
                    try clear q33
                    try clear hx33
                    try clear c34
                    try clear hcz10_0
                    try clear hcz10_1
                    try clear hcz10_2
                    try clear hcz10_3
                    try clear hcz10_4
                    try clear hcz12_0
                    try clear hcz12_1
                    try clear hcz12_2
                    try clear hcz12_3
                    try clear hcz12_4
                    try clear hcz15_0
                    try clear hcz15_1
                    try clear hcz15_2
                    try clear hcz15_3
                    try clear hcz15_4
                    try clear hcz19_0
                    try clear hcz19_1
                    try clear hcz19_2
                    try clear hcz19_3
                    try clear hcz19_4
                    try clear hcz29_0
                    try clear hcz29_1
                    try clear hcz29_2
                    try clear hcz29_3
                    try clear hcz29_4
                    try clear hcz32_0
                    try clear hcz32_1
                    try clear hcz32_2
                    try clear hcz32_3
                    try clear hcz32_4
                    try clear hcz33_0
                    try clear hcz33_1
                    try clear hcz33_2
                    try clear hcz33_3
                    try clear hcz33_4
                    try clear hcz34_0
                    try clear hcz34_1
                    try clear hcz34_2
                    try clear hcz34_3
                    try clear hcz34_4
                    try clear hfz10_0
                    try clear hfz10_1
                    try clear hfz10_2
                    try clear hfz10_3
                    try clear hfz10_4
                    try clear hfz12_0
                    try clear hfz12_1
                    try clear hfz12_2
                    try clear hfz12_3
                    try clear hfz12_4
                    try clear hfz15_0
                    try clear hfz15_1
                    try clear hfz15_2
                    try clear hfz15_3
                    try clear hfz15_4
                    try clear hfz19_0
                    try clear hfz19_1
                    try clear hfz19_2
                    try clear hfz19_3
                    try clear hfz19_4
                    try clear hfz29_0
                    try clear hfz29_1
                    try clear hfz29_2
                    try clear hfz29_3
                    try clear hfz29_4
                    try clear hfz32_0
                    try clear hfz32_1
                    try clear hfz32_2
                    try clear hfz32_3
                    try clear hfz32_4
                    try clear hfz33_0
                    try clear hfz33_1
                    try clear hfz33_2
                    try clear hfz33_3
                    try clear hfz33_4
                    try clear hfz34_0
                    try clear hfz34_1
                    try clear hfz34_2
                    try clear hfz34_3
                    try clear hfz34_4
                    try clear hx28_0
                    try clear hx33007_0
                    try clear hx33007_1
                    try clear hx33007_2
                    try clear hx33008_0
                    try clear hx33009_0
                    try clear hx33009_1
                    try clear hx33009_2
                    try clear hx8_0
                    try clear p2
                    try clear p28
                    try clear p33007
                    try clear p33008
                    try clear p33009
                    try clear p8
                    try clear q28
                    try clear q33007
                    try clear q33008
                    try clear q33009
                    try clear q8
                    obtain ⟨x3_2, x7_2, rfl, HA, HK2, HO_3, HO_4, BK33001, HB⟩ := hrel
                    cases gk with
                    | zero => exact absurd HA.out (by simp [dataflowref39_Doomed.l2])
                    | succ k2 =>
                      have H := HA.out
                      clear HA
                      simp only [dataflowref39_Doomed.l2] at H
                      by_cases c35 : x7_2 < (x4_1.length : Int)
                      · rw [if_pos c35] at H
                        have c35b0 : decide (x7_2 < (x4_1.length : Int)) = true := decide_eq_true c35
                        clear c35
                        by_cases c36 : 0 ≤ x7_2
                        · rw [if_pos c36] at H
                          have c36b0 : decide (0 ≤ x7_2) = true := decide_eq_true c36
                          clear c36
                          obtain ⟨bq37, hbq37⟩ : ∃ b_ : Bool, b_ = (rdOf false x4_1 x7_2) := ⟨_, rfl⟩
                          replace H : (if bq37 = true then (if x3_2.length < 17592186044416 then (dataflowref39_Doomed.l2 k2 (x3_2 ++ [x7_2]) x4_1 (wrap64 (x7_2 + 1))) else (none)) else (dataflowref39_Doomed.l2 k2 x3_2 x4_1 (wrap64 (x7_2 + 1)))) = some r := by rw [← hbq37] at H; exact H
                          have Nbq37 := Aside0.mk hbq37
                          clear hbq37
                          by_cases c38 : bq37 = true
                          · subst c38
                            have H1 : (if x3_2.length < 17592186044416 then (dataflowref39_Doomed.l2 k2 (x3_2 ++ [x7_2]) x4_1 (wrap64 (x7_2 + 1))) else (none)) = some r := by rw [if_pos rfl] at H; exact H
                            clear H
                            have H := H1
                            clear H1
                            by_cases c39 : x3_2.length < 17592186044416
                            · rw [if_pos c39] at H
                              have LMc39 := Aside0.mk c39
                              clear c39
                              obtain ⟨y33012, hy33012⟩ : ∃ y_ : List Int, y_ = (x3_2 ++ [x7_2]) := ⟨_, rfl⟩
                              replace H : (dataflowref39_Doomed.l2 k2 y33012 x4_1 (wrap64 (x7_2 + 1))) = some r := by first | (rw [hy33012]; with_reducible exact H) | (have H2_ := (Option.bind_some _ _).symm.trans H; rw [hy33012]; with_reducible exact H2_) | (have H2_ := (Option.bind_some _ _).symm.trans H; with_reducible exact H2_) | with_reducible exact H | (rw [hy33012]; exact H) | exact H
                              have Ny33012 := Aside0.mk hy33012
                              clear hy33012
                              have H' := Aside0.mk H
                              clear H
                              have p33011 : 0 ≤ (x7_2 : Int) := of_decide_eq_true (by first | (with_reducible assumption) | assumption)
                              have q33011 : x7_2 < (x4_1.length : Int) := of_decide_eq_true (by first | (with_reducible assumption) | assumption)
                              obtain ⟨ad33011, e33011, hx33011_0⟩ := Kd.at_bool (Kd.R_reads' HO_4.out).2.2 x7_2 p33011 q33011
                              (try rw [← Nbq37.out] at hx33011_0)
                              obtain rfl : (⟨go8, 0, none⟩ : Addr) = ad33011 := (by injection e33011)
                              (first | simp only [add_plain] at hx33011_0 | simp only [add_at] at hx33011_0 | simp only [Addr.add, Nat.zero_add] at hx33011_0 | skip)
                              replace p33011 := eq_true p33011
                              replace q33011 := eq_true q33011
                              go_wp2_with (first | ((with_reducible refine gate_builtin (b := .append) (xs := #[.tmp 61, .tmp 63]) rfl ?_); at_builtin; refine Kd.R_append (Kd.int .i64) (w0 := w) w.heap.size rfl (.tmp 61) (.tmp 63) 43 3 (.int .i64 0) 8 rfl Tryd.underlying43 info3 rfl (by decide) (by omega) u3 x3_2 x7_2 [.int .i64 x7_2] (fun _ => True) (fun _ => False) rfl rfl ?aP (fun _ hk => hk.elim) ?aF ?aO ?aB ?aS ?aL ?_; (case aP => exact rfl); (case aB => exact (by repeat (first | (with_reducible first | exact HB.out | apply below_alloc | apply pw_below_drewN | apply below_drew1 | refine below_set ?_ GE33001.out) | exact HB.out))); (case aF => exact (fun _ _ => trivial)); (case aO => exact (by (with_reducible repeat (first | apply Kd.R_alloc | apply Kd.R_drewN | apply Kd.R_drew)); exact HO_3.out)); (case aS => exact (below_size (by repeat (first | (with_reducible first | exact HB.out | apply below_alloc | apply pw_below_drewN | apply below_drew1 | refine below_set ?_ GE33001.out) | exact HB.out)))); (case aL => have := LMc39.out; omega); intro v33013 w40 ho hb hg hat; rw [← Ny33012.out] at ho; have n0_ := Aside0.mk (Kd.R_over' (by (with_reducible repeat (first | apply Kd.R_alloc | apply Kd.R_drewN | apply Kd.R_drew)); exact HO_4.out) (Kd.R_typed (by (with_reducible repeat (first | apply Kd.R_alloc | apply Kd.R_drewN | apply Kd.R_drew)); exact HO_3.out)) (by decide) hg); have n1_ := Aside0.mk (blk_grown (g := gb33001) (o := .cells #[.string a0_0, .slice A0_1 l0_1.length c0_1, .int .i64 a0_2, .int .i64 a0_3, .slice A0_4 l0_4.length c0_4] 35 (0, 0)) (by (with_reducible repeat (first | refine blk_drewN ?_ _ | refine blk_drew ?_ | refine blk_alloc ?_ _)); exact BK33001.out) hg (Kd.R_ne HO_3.out BK33001.out (by decide))); have n2_ := Aside0.mk (hb); have n3_ := Aside0.mk (ho); clear HO_4; clear BK33001; clear HB; clear HO_3; have HO_4 := n0_; have BK33001 := n1_; have HB := n2_; have HO33014 := n3_; clear n0_ n1_ n2_ n3_; clear ho hb hg hat))
                              go_roundg k2
                              case measure => have := HK1.out; have := HK2.out; omega
                              case rel => exact ⟨(y33012), (wrap64 (x7_2 + 1)), (by first | rfl | (simp; done) | (simp [*]; done)), H', ⟨by have := HK1.out; have := HK2.out; omega⟩, ⟨by (try simp only [hl4_1]); (with_reducible repeat (first | apply Kd.R_alloc | apply Kd.R_drewN | apply Kd.R_drew)); exact HO33014.out⟩, ⟨by (try simp only [hl4_1]); (with_reducible repeat (first | apply Kd.R_alloc | apply Kd.R_drewN | apply Kd.R_drew)); exact HO_4.out⟩, ⟨by (try simp only [hl4_1]); (with_reducible repeat (first | refine blk_drewN ?_ _ | refine blk_drew ?_ | refine blk_alloc ?_ _)); exact BK33001.out⟩, ⟨by repeat (first | (with_reducible first | exact HB.out | apply below_alloc | apply pw_below_drewN | apply below_drew1 | refine below_set ?_ GE33001.out) | exact HB.out)⟩⟩
                            · rw [if_neg c39] at H
                              exact absurd H (by simp)
                          · replace c38 := Bool.eq_false_iff.mpr c38
                            subst c38
                            have H1 : (dataflowref39_Doomed.l2 k2 x3_2 x4_1 (wrap64 (x7_2 + 1))) = some r := by rw [if_neg (show ¬ (false = true) by decide)] at H; exact H
                            clear H
                            have H := H1
                            clear H1
                            have H' := Aside0.mk H
                            clear H
                            have p33011 : 0 ≤ (x7_2 : Int) := of_decide_eq_true (by first | (with_reducible assumption) | assumption)
                            have q33011 : x7_2 < (x4_1.length : Int) := of_decide_eq_true (by first | (with_reducible assumption) | assumption)
                            obtain ⟨ad33011, e33011, hx33011_0⟩ := Kd.at_bool (Kd.R_reads' HO_4.out).2.2 x7_2 p33011 q33011
                            (try rw [← Nbq37.out] at hx33011_0)
                            obtain rfl : (⟨go8, 0, none⟩ : Addr) = ad33011 := (by injection e33011)
                            (first | simp only [add_plain] at hx33011_0 | simp only [add_at] at hx33011_0 | simp only [Addr.add, Nat.zero_add] at hx33011_0 | skip)
                            replace p33011 := eq_true p33011
                            replace q33011 := eq_true q33011
                            go_wp2
                            go_roundg k2
                            case measure => have := HK1.out; have := HK2.out; omega
                            case rel => exact ⟨(x3_2), (wrap64 (x7_2 + 1)), (by first | rfl | (simp; done) | (simp [*]; done)), H', ⟨by have := HK1.out; have := HK2.out; omega⟩, ⟨by (try simp only [hl4_1]); (with_reducible repeat (first | apply Kd.R_alloc | apply Kd.R_drewN | apply Kd.R_drew)); exact HO_3.out⟩, ⟨by (try simp only [hl4_1]); (with_reducible repeat (first | apply Kd.R_alloc | apply Kd.R_drewN | apply Kd.R_drew)); exact HO_4.out⟩, ⟨by (try simp only [hl4_1]); (with_reducible repeat (first | refine blk_drewN ?_ _ | refine blk_drew ?_ | refine blk_alloc ?_ _)); exact BK33001.out⟩, ⟨by repeat (first | (with_reducible first | exact HB.out | apply below_alloc | apply pw_below_drewN | apply below_drew1 | refine below_set ?_ GE33001.out) | exact HB.out)⟩⟩
                        · rw [if_neg c36] at H
                          exact absurd H (by simp)
                      · rw [if_neg c35] at H
                        have c35b0 : decide (x7_2 < (x4_1.length : Int)) = false := decide_eq_false c35
                        clear c35
                        obtain rfl := Option.some.inj H
                        go_wp2
                        go_ret
                        exact ⟨_, by first | rfl | (simp [errW_none, errW_some] <;> rfl) | (simp [*, errW_none, errW_some] <;> rfl), by (with_reducible repeat (first | apply Kd.R_alloc | apply Kd.R_drewN | apply Kd.R_drew)); exact HO_3.out, by repeat (first | (with_reducible first | exact HB.out | apply below_alloc | apply pw_below_drewN | apply below_drew1 | refine below_set ?_ GE33001.out) | exact HB.out)⟩
          · rw [if_neg c7] at H
            exact absurd H (by simp)
        · rw [if_neg c6] at H
          exact absurd H (by simp)
      · rw [if_neg c5] at H
        exact absurd H (by simp)
    · rw [if_neg c4] at H
      exact absurd H (by simp)
  · rw [if_neg c3] at H
    have c3b0 : (t33002 == 0) = false := beq_eq_false_iff_ne.mpr c3
    have c3b1 : (t33002 != 0) = true := bne_iff_ne.mpr c3
    obtain rfl := Option.some.inj H
    go_enter Tryd.func32, Tryd.ntmps32
    go_wp2_with (first | ((with_reducible refine gate_dst (N := 1) rfl ?_); refine box_event ?hg (N := 1) ?hd (cs := #[.string a0_0, .slice A0_1 l0_1.length c0_1, .int .i64 a0_2, .int .i64 a0_3, .slice A0_4 l0_4.length c0_4]) (t := 35) ?hr ?_; (case hd => rfl); (case hg => rfl); (case hr => first | (go_simp; done) | (go_simp; rfl)); intro gb33001 hg w41 hbox hb; have n0_ := Aside0.mk (below_step (by repeat (first | (with_reducible first | exact HB.out | apply below_alloc | apply pw_below_drewN | apply below_drew1) | exact HB.out)) hb); have n1_ := Aside0.mk (hbox); have n2_ := Aside0.mk ((by rw [hg]; exact (below_size (by repeat (first | (with_reducible first | exact HB.out | apply below_alloc | apply pw_below_drewN | apply below_drew1) | exact HB.out))) : w.heap.size ≤ gb33001)); have n3_ := Aside0.mk ((by rw [hg]; exact (below_size (by repeat (first | (with_reducible first | exact HB.out | apply below_alloc | apply pw_below_drewN | apply below_drew1) | exact HB.out))) : w.heap.size ≤ gb33001)); clear HB; have HB := n0_; have BK33001 := n1_; have GW33001 := n2_; have GE33001 := n3_; clear n0_ n1_ n2_ n3_; clear hb hbox hg; have hcz42_0 : w41.cell? ⟨gb33001, 0, none⟩ = some (.string a0_0) := (blk_cell BK33001.out 0).trans rfl; have hcz42_1 : w41.cell? ⟨gb33001, 1, none⟩ = some (.slice A0_1 l0_1.length c0_1) := (blk_cell BK33001.out 1).trans rfl; have hcz42_2 : w41.cell? ⟨gb33001, 2, none⟩ = some (.int .i64 a0_2) := (blk_cell BK33001.out 2).trans rfl; have hcz42_3 : w41.cell? ⟨gb33001, 3, none⟩ = some (.int .i64 a0_3) := (blk_cell BK33001.out 3).trans rfl; have hcz42_4 : w41.cell? ⟨gb33001, 4, none⟩ = some (.slice A0_4 l0_4.length c0_4) := (blk_cell BK33001.out 4).trans rfl; have hfz42_0 := blk_frozen BK33001.out 0; have hfz42_1 := blk_frozen BK33001.out 1; have hfz42_2 := blk_frozen BK33001.out 2; have hfz42_3 := blk_frozen BK33001.out 3; have hfz42_4 := blk_frozen BK33001.out 4) | ((with_reducible refine gate_callee (f := 34) rfl ?_); refine goesL_ (some 9) rfl rfl Tryd.func34 (by kernel_rfl) rfl #[.agg #[.string a0_0, .slice A0_1 l0_1.length c0_1, .int .i64 a0_2, .int .i64 a0_3, .slice A0_4 l0_4.length c0_4]] rfl (by (try simp only [List.map_toArray, List.map_cons, List.map_nil]); first | done | rfl | (simp only [List.length_drop, List.length_take]; rfl)) ?_; (with_reducible refine (dataflowref39_Check.calls k a0_0 _ _ l0_1 a0_2 a0_3 _ _ l0_4 t33002 _ ?side1 ?side2 ?side3 ?side4 A2.out).mono ?_); (case side1 => repeat (first | exact (Kd.C_below HR0_1.out HB.out) | (with_reducible refine Kd.C_alloc ?_ _) | (with_reducible refine Kd.C_drewN ?_ _) | (with_reducible refine Kd.C_drew ?_))); (case side2 => exact HC0_1.out); (case side3 => repeat (first | exact (Kd.C_below HR0_4.out HB.out) | (with_reducible refine Kd.C_alloc ?_ _) | (with_reducible refine Kd.C_drewN ?_ _) | (with_reducible refine Kd.C_drew ?_))); (case side4 => exact HC0_4.out); rintro e w43 ⟨rfl, hb⟩; refine ⟨_, rfl, ?_⟩; have n0_ := Aside0.mk (blk_below (g := gb33001) (o := .cells #[.string a0_0, .slice A0_1 l0_1.length c0_1, .int .i64 a0_2, .int .i64 a0_3, .slice A0_4 l0_4.length c0_4] 35 (0, 0)) (by (with_reducible repeat (first | refine blk_drewN ?_ _ | refine blk_drew ?_ | refine blk_alloc ?_ _)); exact BK33001.out) hb); have n1_ := Aside0.mk (below_step (by repeat (first | (with_reducible first | exact HB.out | apply below_alloc | apply pw_below_drewN | apply below_drew1 | refine below_set ?_ GE33001.out) | exact HB.out)) hb); clear BK33001; clear HB; have BK33001 := n0_; have HB := n1_; clear n0_ n1_; (try clear hb); (try clear hb2); (try clear hk); (try clear hi)))
    go_ret
    exact ⟨_, by first | rfl | (simp [errW_none, errW_some] <;> rfl) | (simp [*, errW_none, errW_some] <;> rfl), by first | exact Kd.R_nil _ _ _ _ _ | exact Kd.N_nil _ _ _ _ _ | exact Kd.V_nil _ _ _ _ _ | exact Kd.Q_nil _ _ _ _ _ | exact Kd.S_nil _ _ _ _ _, by repeat (first | (with_reducible first | exact HB.out | apply below_alloc | apply pw_below_drewN | apply below_drew1 | refine below_set ?_ GE33001.out) | exact HB.out)⟩

end Go.Proofs.YthfhbdncphkdaaaDoor.H

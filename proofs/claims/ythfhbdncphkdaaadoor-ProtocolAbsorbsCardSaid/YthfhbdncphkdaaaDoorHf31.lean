/- Printed by a program of this session (xprint.py, over the kit's printer): Go functions as Lean functions, each with the proof that the call does what the Lean function says. -/
import Derived.Test.YthfhbdncphkdaaaDoorH0
import Derived.Test.YthfhbdncphkdaaaDoorHc
namespace Go.Proofs.YthfhbdncphkdaaaDoor.H
open Go.RowKit Go.Proofs.YthfhbdncphkdaaaDoorW.PrintWords Go.Proofs.YthfhbdncphkdaaaDoorW.PrintLast Go.Proofs.YthfhbdncphkdaaaDoorW.PrintMore
attribute [local go_sem] max2_int min2_int max_two min_two max_three min_three max_four min_four   -- for this text's walks alone
attribute [local go_sem] xs_gtr xs_leq xs_geq
set_option linter.unusedVariables false
set_option linter.unusedSimpArgs false

/-! ### protocol_Doomed: function 31 -/
mutual
def protocol_Doomed.l0 : Nat → List Bool → Bool → ByteArray → List ByteArray → Int → Int → List (S64) → Option (List Int)
  | 0, _, _, _, _, _, _, _ => none
  | k + 1, x3, x4, x32002000, x32002001, x32002002, x32002003, x32002004 => if x4 = true then (protocol_Doomed.l1 k x3 false x32002004 (x32002004.length : Int) 0 x32002000 x32002001 x32002002 x32002003 x32002004) else (protocol_Doomed.l2 k ([] : List Int) x3 (x3.length : Int) 0)
def protocol_Doomed.l1 : Nat → List Bool → Bool → List (S64) → Int → Int → ByteArray → List ByteArray → Int → Int → List (S64) → Option (List Int)
  | 0, _, _, _, _, _, _, _, _, _, _ => none
  | k + 1, x3, x4, x23, x24, x25, x32002000, x32002001, x32002002, x32002003, x32002004 => if x25 < x24 then (if 0 ≤ x25 then (if x25 < (x23.length : Int) then (if 0 ≤ ((rd_T64 x23 x25).f2) then (if ((rd_T64 x23 x25).f2) < (x3.length : Int) then (if rdOf false x3 ((rd_T64 x23 x25).f2) = true then (if 0 ≤ ((rd_T64 x23 x25).f0) then (if ((rd_T64 x23 x25).f0) < (x3.length : Int) then (if (rdOf false x3 ((rd_T64 x23 x25).f0) = true) then (protocol_Doomed.l1 k x3 x4 x23 x24 (wrap64 (x25 + 1)) x32002000 x32002001 x32002002 x32002003 x32002004) else (protocol_Doomed.l1 k (x3.set (((rd_T64 x23 x25).f0) : Int).toNat true) true x23 x24 (wrap64 (x25 + 1)) x32002000 x32002001 x32002002 x32002003 x32002004)) else (none)) else (none)) else (protocol_Doomed.l1 k x3 x4 x23 x24 (wrap64 (x25 + 1)) x32002000 x32002001 x32002002 x32002003 x32002004)) else (none)) else (none)) else (none)) else (none)) else (protocol_Doomed.l0 k x3 x4 x32002000 x32002001 x32002002 x32002003 x32002004)
def protocol_Doomed.l2 : Nat → List Int → List Bool → Int → Int → Option (List Int)
  | 0, _, _, _, _ => none
  | k + 1, x7, x47, x48, x49 => if x49 < x48 then (if 0 ≤ x49 then (if x49 < (x47.length : Int) then (if rdOf false x47 x49 = true then (if x7.length < 17592186044416 then (protocol_Doomed.l2 k (x7 ++ [x49]) x47 x48 (wrap64 (x49 + 1))) else (none)) else (protocol_Doomed.l2 k x7 x47 x48 (wrap64 (x49 + 1)))) else (none)) else (none)) else (some x7)
end
def protocol_Doomed.f (k : Nat) (a0_0 : ByteArray) (l0_1 : List ByteArray) (a0_2 : Int) (a0_3 : Int) (l0_4 : List (S64)) : Option (List Int) := (protocol_Check.f k a0_0 l0_1 a0_2 a0_3 l0_4).bind fun t32002 => (if t32002 = 0 then (if 0 ≤ (l0_1.length : Int) then (if ((l0_1.length : Int) : Int).toNat ≤ 281474976710656 then ((some (List.replicate ((l0_1.length : Int) : Int).toNat false : List Bool)).bind fun y32003 => (if 0 ≤ a0_3 then (if a0_3 < (y32003.length : Int) then (protocol_Doomed.l0 k (y32003.set (a0_3 : Int).toNat true) true a0_0 l0_1 a0_2 a0_3 l0_4) else (none)) else (none))) else (none)) else (none)) else (some ([] : List Int)))
theorem protocol_Doomed.mono_l : ∀ k, (∀ y0 y1 y2 y3 y4 y5 y6, LeO (protocol_Doomed.l0 k y0 y1 y2 y3 y4 y5 y6) (protocol_Doomed.l0 (k + 1) y0 y1 y2 y3 y4 y5 y6)) ∧ (∀ y0 y1 y2 y3 y4 y5 y6 y7 y8 y9, LeO (protocol_Doomed.l1 k y0 y1 y2 y3 y4 y5 y6 y7 y8 y9) (protocol_Doomed.l1 (k + 1) y0 y1 y2 y3 y4 y5 y6 y7 y8 y9)) ∧ (∀ y0 y1 y2 y3, LeO (protocol_Doomed.l2 k y0 y1 y2 y3) (protocol_Doomed.l2 (k + 1) y0 y1 y2 y3))
  | 0 => ⟨fun _ _ _ _ _ _ _ r h => by simp [protocol_Doomed.l0] at h, fun _ _ _ _ _ _ _ _ _ _ r h => by simp [protocol_Doomed.l1] at h, fun _ _ _ _ r h => by simp [protocol_Doomed.l2] at h⟩
  | k + 1 => by
    obtain ⟨ih0, ih1, ih2⟩ := protocol_Doomed.mono_l k
    refine ⟨?_, ?_, ?_⟩
    · intro y0 y1 y2 y3 y4 y5 y6
      unfold protocol_Doomed.l0
      repeat' first
      | (with_reducible exact ih0 _ _ _ _ _ _ _)
      | (with_reducible exact ih1 _ _ _ _ _ _ _ _ _ _)
      | (with_reducible exact ih2 _ _ _ _)
      | (with_reducible exact protocol_Check.mono _ _ _ _ _ _)
      | (with_reducible exact LeO.refl _)
      | (with_reducible exact LeO.none _)
      | (with_reducible refine LeO.ite ?_ ?_)
      | (with_reducible refine LeO.bind ?_ (fun _ => ?_))
      | exact ih0 _ _ _ _ _ _ _
      | exact ih1 _ _ _ _ _ _ _ _ _ _
      | exact ih2 _ _ _ _
      | exact protocol_Check.mono _ _ _ _ _ _
      | exact LeO.none _
      | refine LeO.ite ?_ ?_
      | refine LeO.bind ?_ (fun _ => ?_)
    · intro y0 y1 y2 y3 y4 y5 y6 y7 y8 y9
      unfold protocol_Doomed.l1
      repeat' first
      | (with_reducible exact ih0 _ _ _ _ _ _ _)
      | (with_reducible exact ih1 _ _ _ _ _ _ _ _ _ _)
      | (with_reducible exact ih2 _ _ _ _)
      | (with_reducible exact protocol_Check.mono _ _ _ _ _ _)
      | (with_reducible exact LeO.refl _)
      | (with_reducible exact LeO.none _)
      | (with_reducible refine LeO.ite ?_ ?_)
      | (with_reducible refine LeO.bind ?_ (fun _ => ?_))
      | exact ih0 _ _ _ _ _ _ _
      | exact ih1 _ _ _ _ _ _ _ _ _ _
      | exact ih2 _ _ _ _
      | exact protocol_Check.mono _ _ _ _ _ _
      | exact LeO.none _
      | refine LeO.ite ?_ ?_
      | refine LeO.bind ?_ (fun _ => ?_)
    · intro y0 y1 y2 y3
      unfold protocol_Doomed.l2
      repeat' first
      | (with_reducible exact ih0 _ _ _ _ _ _ _)
      | (with_reducible exact ih1 _ _ _ _ _ _ _ _ _ _)
      | (with_reducible exact ih2 _ _ _ _)
      | (with_reducible exact protocol_Check.mono _ _ _ _ _ _)
      | (with_reducible exact LeO.refl _)
      | (with_reducible exact LeO.none _)
      | (with_reducible refine LeO.ite ?_ ?_)
      | (with_reducible refine LeO.bind ?_ (fun _ => ?_))
      | exact ih0 _ _ _ _ _ _ _
      | exact ih1 _ _ _ _ _ _ _ _ _ _
      | exact ih2 _ _ _ _
      | exact protocol_Check.mono _ _ _ _ _ _
      | exact LeO.none _
      | refine LeO.ite ?_ ?_
      | refine LeO.bind ?_ (fun _ => ?_)
theorem protocol_Doomed.mono : ∀ a0 a1 a2 a3 a4 k, LeO (protocol_Doomed.f k a0 a1 a2 a3 a4) (protocol_Doomed.f (k + 1) a0 a1 a2 a3 a4) := by
  intro a0 a1 a2 a3 a4 k
  obtain ⟨ih0, ih1, ih2⟩ := protocol_Doomed.mono_l k
  unfold protocol_Doomed.f
  repeat' first
      | (with_reducible exact ih0 _ _ _ _ _ _ _)
      | (with_reducible exact ih1 _ _ _ _ _ _ _ _ _ _)
      | (with_reducible exact ih2 _ _ _ _)
      | (with_reducible exact protocol_Check.mono _ _ _ _ _ _)
      | (with_reducible exact LeO.refl _)
      | (with_reducible exact LeO.none _)
      | (with_reducible refine LeO.ite ?_ ?_)
      | (with_reducible refine LeO.bind ?_ (fun _ => ?_))
      | exact ih0 _ _ _ _ _ _ _
      | exact ih1 _ _ _ _ _ _ _ _ _ _
      | exact ih2 _ _ _ _
      | exact protocol_Check.mono _ _ _ _ _ _
      | exact LeO.none _
      | refine LeO.ite ?_ ?_
      | refine LeO.bind ?_ (fun _ => ?_)
set_option maxHeartbeats 8000000 in
set_option maxRecDepth 100000 in
theorem protocol_Doomed.calls (k : Nat) (a0_0 : ByteArray) (A0_1 : Option Addr) (c0_1 : Nat) (l0_1 : List ByteArray) (a0_2 : Int) (a0_3 : Int) (A0_4 : Option Addr) (c0_4 : Nat) (l0_4 : List (S64)) (r : List Int) (w : World) (hr0_1 : Kd.C Kd.string w A0_1 l0_1.length l0_1) (hc0_1 : l0_1.length ≤ c0_1) (hr0_4 : Kd.C k64 w A0_4 l0_4.length l0_4) (hc0_4 : l0_4.length ≤ c0_4) (hgh : Gh w) (h : protocol_Doomed.f k a0_0 l0_1 a0_2 a0_3 l0_4 = some r) :
    Calls Tryd.prog 31 #[.agg #[.string a0_0, .slice A0_1 l0_1.length c0_1, .int .i64 a0_2, .int .i64 a0_3, .slice A0_4 l0_4.length c0_4]] w fun e w' => ∃ v0_ : Value, e = .returned (v0_) ∧ Kd.R (Kd.int .i64) 3 w' w.heap.size (fun _ => True) v0_ r ∧ Below w.heap.size w w' := by
  have hu35 := Tryd.underlying35
  have hu64 := Tryd.underlying64
  have HR0_1 := Aside0.mk hr0_1
  have HC0_1 := Aside0.mk hc0_1
  clear hr0_1 hc0_1
  have HR0_4 := Aside0.mk hr0_4
  have HC0_4 := Aside0.mk hc0_4
  clear hr0_4 hc0_4
  have HB := Aside0.mk (Below.refl w.heap.size w)
  have HGH := Aside0.mk hgh
  clear hgh
  have H : ((protocol_Check.f k a0_0 l0_1 a0_2 a0_3 l0_4).bind fun t32002 => (if t32002 = 0 then (if 0 ≤ (l0_1.length : Int) then (if ((l0_1.length : Int) : Int).toNat ≤ 281474976710656 then ((some (List.replicate ((l0_1.length : Int) : Int).toNat false : List Bool)).bind fun y32003 => (if 0 ≤ a0_3 then (if a0_3 < (y32003.length : Int) then (protocol_Doomed.l0 k (y32003.set (a0_3 : Int).toNat true) true a0_0 l0_1 a0_2 a0_3 l0_4) else (none)) else (none))) else (none)) else (none)) else (some ([] : List Int)))) = some r := h
  clear h
  replace H := Option.bind_eq_some_iff.mp H
  obtain ⟨t32002, A20, H⟩ := H
  replace H : (if t32002 = 0 then (if 0 ≤ (l0_1.length : Int) then (if ((l0_1.length : Int) : Int).toNat ≤ 281474976710656 then ((some (List.replicate ((l0_1.length : Int) : Int).toNat false : List Bool)).bind fun y32003 => (if 0 ≤ a0_3 then (if a0_3 < (y32003.length : Int) then (protocol_Doomed.l0 k (y32003.set (a0_3 : Int).toNat true) true a0_0 l0_1 a0_2 a0_3 l0_4) else (none)) else (none))) else (none)) else (none)) else (some ([] : List Int))) = some r := H
  have A2 := Aside0.mk A20
  clear A20
  by_cases c3 : t32002 = 0
  · rw [if_pos c3] at H
    have c3b0 : (t32002 == 0) = true := beq_iff_eq.mpr c3
    have c3b1 : (t32002 != 0) = false := bne_eq_false_iff_eq.mpr c3
    clear c3
    by_cases c4 : 0 ≤ (l0_1.length : Int)
    · rw [if_pos c4] at H
      have c4b0 := eq_true c4
      have c4b1 : decide (0 ≤ (l0_1.length : Int)) = true := decide_eq_true c4
      clear c4
      by_cases c5 : ((l0_1.length : Int) : Int).toNat ≤ 281474976710656
      · rw [if_pos c5] at H
        have c5b0 := eq_true c5
        have c5b1 : decide (((l0_1.length : Int) : Int).toNat ≤ 281474976710656) = true := decide_eq_true c5
        clear c5
        obtain ⟨y32003, hy32003⟩ : ∃ y_ : List Bool, y_ = (List.replicate ((l0_1.length : Int) : Int).toNat false) := ⟨_, rfl⟩
        replace H : (if 0 ≤ a0_3 then (if a0_3 < (y32003.length : Int) then (protocol_Doomed.l0 k (y32003.set (a0_3 : Int).toNat true) true a0_0 l0_1 a0_2 a0_3 l0_4) else (none)) else (none)) = some r := by first | (rw [hy32003]; with_reducible exact H) | (have H2_ := (Option.bind_some _ _).symm.trans H; rw [hy32003]; with_reducible exact H2_) | (have H2_ := (Option.bind_some _ _).symm.trans H; with_reducible exact H2_) | with_reducible exact H | (rw [hy32003]; exact H) | exact H
        have Ny32003 := Aside0.mk hy32003
        clear hy32003
        by_cases c6 : 0 ≤ a0_3
        · rw [if_pos c6] at H
          have c6b0 : decide (0 ≤ a0_3) = true := decide_eq_true c6
          clear c6
          by_cases c7 : a0_3 < (y32003.length : Int)
          · rw [if_pos c7] at H
            have c7b0 : decide (a0_3 < (y32003.length : Int)) = true := decide_eq_true c7
            clear c7
            obtain ⟨y32006, hy32006⟩ : ∃ y_ : List Bool, y_ = (y32003.set (a0_3 : Int).toNat true) := ⟨_, rfl⟩
            replace H : (protocol_Doomed.l0 k y32006 true a0_0 l0_1 a0_2 a0_3 l0_4) = some r := by first | (rw [hy32006]; with_reducible exact H) | (have H2_ := (Option.bind_some _ _).symm.trans H; rw [hy32006]; with_reducible exact H2_) | (have H2_ := (Option.bind_some _ _).symm.trans H; with_reducible exact H2_) | with_reducible exact H | (rw [hy32006]; exact H) | exact H
            have Ny32006 := Aside0.mk hy32006
            clear hy32006
            have H' := Aside0.mk H
            clear H
            go_enter Tryd.func31, Tryd.ntmps31
            go_wp2_with (first | ((with_reducible refine gate_dst (N := 1) rfl ?_); refine box_event ?hg (N := 1) ?hd (cs := #[.string a0_0, .slice A0_1 l0_1.length c0_1, .int .i64 a0_2, .int .i64 a0_3, .slice A0_4 l0_4.length c0_4]) (t := 35) ?hr ?_; (case hd => rfl); (case hg => rfl); (case hr => first | (go_simp; done) | (go_simp; rfl)); intro gb32001 hg w9 hbox hb; have n0_ := Aside0.mk (below_step (by repeat (first | (with_reducible first | exact HB.out | apply below_alloc | apply pw_below_drewN | apply below_drew1) | exact HB.out)) hb); have n1_ := Aside0.mk (hbox); have n2_ := Aside0.mk ((by rw [hg]; exact (below_size (by repeat (first | (with_reducible first | exact HB.out | apply below_alloc | apply pw_below_drewN | apply below_drew1) | exact HB.out))) : w.heap.size ≤ gb32001)); have n3_ := Aside0.mk ((by rw [hg]; exact (below_size (by repeat (first | (with_reducible first | exact HB.out | apply below_alloc | apply pw_below_drewN | apply below_drew1) | exact HB.out))) : w.heap.size ≤ gb32001)); clear HB; have HB := n0_; have BK32001 := n1_; have GW32001 := n2_; have GE32001 := n3_; clear n0_ n1_ n2_ n3_; clear hb hbox hg; have hcz10_0 : w9.cell? ⟨gb32001, 0, none⟩ = some (.string a0_0) := (blk_cell BK32001.out 0).trans rfl; have hcz10_1 : w9.cell? ⟨gb32001, 1, none⟩ = some (.slice A0_1 l0_1.length c0_1) := (blk_cell BK32001.out 1).trans rfl; have hcz10_2 : w9.cell? ⟨gb32001, 2, none⟩ = some (.int .i64 a0_2) := (blk_cell BK32001.out 2).trans rfl; have hcz10_3 : w9.cell? ⟨gb32001, 3, none⟩ = some (.int .i64 a0_3) := (blk_cell BK32001.out 3).trans rfl; have hcz10_4 : w9.cell? ⟨gb32001, 4, none⟩ = some (.slice A0_4 l0_4.length c0_4) := (blk_cell BK32001.out 4).trans rfl; have hfz10_0 := blk_frozen BK32001.out 0; have hfz10_1 := blk_frozen BK32001.out 1; have hfz10_2 := blk_frozen BK32001.out 2; have hfz10_3 := blk_frozen BK32001.out 3; have hfz10_4 := blk_frozen BK32001.out 4) | ((with_reducible refine gate_callee (f := 33) rfl ?_); refine goesL_ (some 11) rfl rfl Tryd.func33 (by kernel_rfl) rfl #[.agg #[.string a0_0, .slice A0_1 l0_1.length c0_1, .int .i64 a0_2, .int .i64 a0_3, .slice A0_4 l0_4.length c0_4]] rfl (by (try simp only [List.map_toArray, List.map_cons, List.map_nil]); first | done | rfl | (simp only [List.length_drop, List.length_take]; rfl)) ?_; (with_reducible refine (protocol_Check.calls k a0_0 _ _ l0_1 a0_2 a0_3 _ _ l0_4 t32002 _ ?side1 ?side2 ?side3 ?side4 ?side5 A2.out).mono ?_); (case side1 => repeat (first | exact (Kd.C_below HR0_1.out HB.out) | (with_reducible refine Kd.C_alloc ?_ _) | (with_reducible refine Kd.C_drewN ?_ _) | (with_reducible refine Kd.C_drew ?_))); (case side2 => exact HC0_1.out); (case side3 => repeat (first | exact (Kd.C_below HR0_4.out HB.out) | (with_reducible refine Kd.C_alloc ?_ _) | (with_reducible refine Kd.C_drewN ?_ _) | (with_reducible refine Kd.C_drew ?_))); (case side4 => exact HC0_4.out); (case side5 => exact Gh.below HGH.out (by repeat (first | (with_reducible first | exact HB.out | apply below_alloc | apply pw_below_drewN | apply below_drew1 | refine below_set ?_ GE32001.out) | exact HB.out))); rintro e w11 ⟨rfl, hb⟩; refine ⟨_, rfl, ?_⟩; have n0_ := Aside0.mk (blk_below (g := gb32001) (o := .cells #[.string a0_0, .slice A0_1 l0_1.length c0_1, .int .i64 a0_2, .int .i64 a0_3, .slice A0_4 l0_4.length c0_4] 35 (0, 0)) (by (with_reducible repeat (first | refine blk_drewN ?_ _ | refine blk_drew ?_ | refine blk_alloc ?_ _)); exact BK32001.out) hb); have n1_ := Aside0.mk (below_step (by repeat (first | (with_reducible first | exact HB.out | apply below_alloc | apply pw_below_drewN | apply below_drew1 | refine below_set ?_ GE32001.out) | exact HB.out)) hb); clear BK32001; clear HB; have BK32001 := n0_; have HB := n1_; clear n0_ n1_; (try clear hb); (try clear hb2); (try clear hk); (try clear hi); have hcz12_0 : w11.cell? ⟨gb32001, 0, none⟩ = some (.string a0_0) := (blk_cell BK32001.out 0).trans rfl; have hcz12_1 : w11.cell? ⟨gb32001, 1, none⟩ = some (.slice A0_1 l0_1.length c0_1) := (blk_cell BK32001.out 1).trans rfl; have hcz12_2 : w11.cell? ⟨gb32001, 2, none⟩ = some (.int .i64 a0_2) := (blk_cell BK32001.out 2).trans rfl; have hcz12_3 : w11.cell? ⟨gb32001, 3, none⟩ = some (.int .i64 a0_3) := (blk_cell BK32001.out 3).trans rfl; have hcz12_4 : w11.cell? ⟨gb32001, 4, none⟩ = some (.slice A0_4 l0_4.length c0_4) := (blk_cell BK32001.out 4).trans rfl; have hfz12_0 := blk_frozen BK32001.out 0; have hfz12_1 := blk_frozen BK32001.out 1; have hfz12_2 := blk_frozen BK32001.out 2; have hfz12_3 := blk_frozen BK32001.out 3; have hfz12_4 := blk_frozen BK32001.out 4) | ((with_reducible refine gate_dst (N := 16) rfl ?_); refine Kd.R_make Kd.bool _ 4 rfl (N := 16) rfl 66 _ _ rfl (l0_1.length : Int) rfl rfl Tryd.underlying66 (.bool false) 1 info4 rfl (by decide) (by omega) false (ok := fun _ => True) (okp := fun _ => True) rfl (fun _ hk => hk) trivial (of_decide_eq_true (by first | (with_reducible assumption) | assumption)) (Nat.le_trans (Nat.mul_le_mul_right _ (of_decide_eq_true (by first | (with_reducible assumption) | assumption) : (l0_1.length : Int).toNat ≤ 281474976710656)) (by omega)) (Below.refl _ _) (Nat.le_refl _) ?_; intro v32004 w13 ho14 hb hg_ hnew_; clear hg_ hnew_; (first | rw [← Ny32003.out] at ho14 | (simp only [Int.reduceToNat] at ho14; rw [← Ny32003.out] at ho14)); have n0_ := Aside0.mk (Kd.R_lower ho14 (below_size (by repeat (first | (with_reducible first | exact HB.out | apply below_alloc | apply pw_below_drewN | apply below_drew1 | refine below_set ?_ GE32001.out) | exact HB.out)))); have n1_ := Aside0.mk (blk_below (g := gb32001) (o := .cells #[.string a0_0, .slice A0_1 l0_1.length c0_1, .int .i64 a0_2, .int .i64 a0_3, .slice A0_4 l0_4.length c0_4] 35 (0, 0)) (by (with_reducible repeat (first | refine blk_drewN ?_ _ | refine blk_drew ?_ | refine blk_alloc ?_ _)); exact BK32001.out) hb); have n2_ := Aside0.mk (below_step (by repeat (first | (with_reducible first | exact HB.out | apply below_alloc | apply pw_below_drewN | apply below_drew1 | refine below_set ?_ GE32001.out) | exact HB.out)) hb); clear BK32001; clear HB; have HO32005 := n0_; have BK32001 := n1_; have HB := n2_; clear n0_ n1_ n2_; clear hb ho14; have hcz15_0 : w13.cell? ⟨gb32001, 0, none⟩ = some (.string a0_0) := (blk_cell BK32001.out 0).trans rfl; have hcz15_1 : w13.cell? ⟨gb32001, 1, none⟩ = some (.slice A0_1 l0_1.length c0_1) := (blk_cell BK32001.out 1).trans rfl; have hcz15_2 : w13.cell? ⟨gb32001, 2, none⟩ = some (.int .i64 a0_2) := (blk_cell BK32001.out 2).trans rfl; have hcz15_3 : w13.cell? ⟨gb32001, 3, none⟩ = some (.int .i64 a0_3) := (blk_cell BK32001.out 3).trans rfl; have hcz15_4 : w13.cell? ⟨gb32001, 4, none⟩ = some (.slice A0_4 l0_4.length c0_4) := (blk_cell BK32001.out 4).trans rfl; have hfz15_0 := blk_frozen BK32001.out 0; have hfz15_1 := blk_frozen BK32001.out 1; have hfz15_2 := blk_frozen BK32001.out 2; have hfz15_3 := blk_frozen BK32001.out 3; have hfz15_4 := blk_frozen BK32001.out 4; have p8 : 0 ≤ (a0_3 : Int) := of_decide_eq_true (by first | (with_reducible assumption) | assumption); have q8 : (a0_3 : Int) < ((y32003.length : Int) : Int) := of_decide_eq_true (by first | (with_reducible assumption) | assumption); obtain ⟨go8, co8, eo8, gb8, gl8, cl8, HG8⟩ := Kd.R_form HO32005.out (by omega); (first | cases eo8 | (injection eo8 with ea_ en_ ec_; (first | subst ea_ | (injection ea_ with ea_; subst ea_)); subst ec_; clear en_)); have GB8 := Aside0.mk gb8; have GG8 := Aside0.mk HG8; clear gb8 gl8 HG8; obtain ⟨hx8_0, hf8_0⟩ := Kd.R_celln false HO32005.out (a0_3 : Int) p8 q8; replace p8 := eq_true p8; replace q8 := eq_true q8; obtain ⟨hy16_, hz16_⟩ := Kd.R_celln false HO32005.out (a0_3 : Int) (of_decide_eq_true (by first | (with_reducible assumption) | assumption)) (of_decide_eq_true (by first | (with_reducible assumption) | assumption)); have HP16 := Kd.R_putg HO32005.out (a0_3 : Int) true) | ((with_reducible refine gate_store (t := 4) (p := 20) rfl ?_); refine store_event (t := 4) (p := 20) (v := ?vo_w17) (w1 := (w13.setCell ⟨go8, (a0_3 : Int).toNat, none⟩ (.bool true))) ?hg ?ho ?hn ?hr ?_; (case ho => rfl); (case hg => rfl); (case hn => rfl); (case hr => first | (go_simp; done) | (go_simp; rfl)); intro w17 hw; have hg : w13.grownBy w17 (some go8) := (by rw [hw]; exact HP16.2); have hp_ : Kd.R Kd.bool 4 w17 w.heap.size (fun _ => True) (.slice (some ⟨go8, 0, none⟩) y32003.length co8) y32006 := (by rw [hw, Ny32006.out]; exact HP16.1); clear HP16; have n0_ := Aside0.mk (blk_grown (g := gb32001) (o := .cells #[.string a0_0, .slice A0_1 l0_1.length c0_1, .int .i64 a0_2, .int .i64 a0_3, .slice A0_4 l0_4.length c0_4] 35 (0, 0)) (by (with_reducible repeat (first | refine blk_drewN ?_ _ | refine blk_drew ?_ | refine blk_alloc ?_ _)); exact BK32001.out) hg (Kd.R_ne HO32005.out BK32001.out (by decide))); have n1_ := Aside0.mk (hp_); have n2_ := Aside0.mk ((by rw [hw]; exact below_set (HB.out) GB8.out : Below w.heap.size w w17)); clear BK32001; clear HO32005; clear HB; have BK32001 := n0_; have HO32005 := n1_; have HB := n2_; clear n0_ n1_ n2_; clear hg hw hp_))
            go_loopg [4] k (fun kq v4 w' => ∃ (x3_1 : List Bool) (x4_1 : Bool), v4 = .bool x4_1 ∧ Aside0 (protocol_Doomed.l0 kq x3_1 x4_1 a0_0 l0_1 a0_2 a0_3 l0_4 = some r) ∧ Aside0 (kq ≤ k) ∧ Aside0 (Kd.R Kd.bool 4 w' w.heap.size (fun _ => True) (.slice (some ⟨go8, 0, none⟩) y32003.length co8) x3_1) ∧ Aside0 (w'.heap[gb32001]? = some (.cells #[.string a0_0, (.slice A0_1 l0_1.length c0_1), .int .i64 a0_2, .int .i64 a0_3, (.slice A0_4 l0_4.length c0_4)] 35 (0, 0))) ∧ Aside0 (Below w.heap.size w w'))
            case atStart => exact ⟨(y32006), (true), (by first | rfl | (simp; done) | (simp [*]; done)), H', ⟨Nat.le_refl _⟩, ⟨by (with_reducible repeat (first | apply Kd.R_alloc | apply Kd.R_drewN | apply Kd.R_drew)); exact HO32005.out⟩, ⟨by (with_reducible repeat (first | refine blk_drewN ?_ _ | refine blk_drew ?_ | refine blk_alloc ?_ _)); exact BK32001.out⟩, ⟨by repeat (first | (with_reducible first | exact HB.out | apply below_alloc | apply pw_below_drewN | apply below_drew1 | refine below_set ?_ GE32001.out) | exact HB.out)⟩⟩
            case round =>
              clear H'
              try clear p2
              try clear c3
              try clear c3b0
              try clear c3b1
              try clear c4
              try clear c4b0
              try clear c4b1
              try clear c5
              try clear c5b0
              try clear c5b1
              try clear c6
              try clear c6b0
              try clear c7
              try clear c7b0
              try clear p8
              try clear q8
              try clear hx8
              try clear hf8
              try clear hcz10_0
              try clear hcz10_1
              try clear hcz10_2
              try clear hcz10_3
              try clear hcz10_4
              try clear hcz12_0
              try clear hcz12_1
              try clear hcz12_2
              try clear hcz12_3
              try clear hcz12_4
              try clear hcz15_0
              try clear hcz15_1
              try clear hcz15_2
              try clear hcz15_3
              try clear hcz15_4
              try clear hfz10_0
              try clear hfz10_1
              try clear hfz10_2
              try clear hfz10_3
              try clear hfz10_4
              try clear hfz12_0
              try clear hfz12_1
              try clear hfz12_2
              try clear hfz12_3
              try clear hfz12_4
              try clear hfz15_0
              try clear hfz15_1
              try clear hfz15_2
              try clear hfz15_3
              try clear hfz15_4
              try clear hx8_0
              try clear p8
              try clear q8
              obtain ⟨x3_1, x4_1, rfl, HA, HK1, HO_3, BK32001, HB⟩ := hrel
              have hl3_1 := (Kd.R_reads' HO_3.out).1
              rw [hl3_1] at HO_3
              (try simp only [hl3_1])
              (try simp only [hl3_1] at BK32001)
              cases gk with
              | zero => exact absurd HA.out (by simp [protocol_Doomed.l0])
              | succ k1 =>
                have H := HA.out
                clear HA
                simp only [protocol_Doomed.l0] at H
                by_cases c18 : x4_1 = true
                · subst c18
                  have H1 : (protocol_Doomed.l1 k1 x3_1 false l0_4 (l0_4.length : Int) 0 a0_0 l0_1 a0_2 a0_3 l0_4) = some r := by rw [if_pos rfl] at H; exact H
                  clear H
                  have H := H1
                  clear H1
                  have H' := Aside0.mk H
                  clear H
                  have hcz19_0 : wr.cell? ⟨gb32001, 0, none⟩ = some (.string a0_0) := (blk_cell BK32001.out 0).trans rfl
                  have hcz19_1 : wr.cell? ⟨gb32001, 1, none⟩ = some (.slice A0_1 l0_1.length c0_1) := (blk_cell BK32001.out 1).trans rfl
                  have hcz19_2 : wr.cell? ⟨gb32001, 2, none⟩ = some (.int .i64 a0_2) := (blk_cell BK32001.out 2).trans rfl
                  have hcz19_3 : wr.cell? ⟨gb32001, 3, none⟩ = some (.int .i64 a0_3) := (blk_cell BK32001.out 3).trans rfl
                  have hcz19_4 : wr.cell? ⟨gb32001, 4, none⟩ = some (.slice A0_4 l0_4.length c0_4) := (blk_cell BK32001.out 4).trans rfl
                  have hfz19_0 := blk_frozen BK32001.out 0
                  have hfz19_1 := blk_frozen BK32001.out 1
                  have hfz19_2 := blk_frozen BK32001.out 2
                  have hfz19_3 := blk_frozen BK32001.out 3
                  have hfz19_4 := blk_frozen BK32001.out 4
                  go_wp2
                  go_loopg [4, 25] k1 (fun kq v4 v25 w' => ∃ (x3_2 : List Bool) (x4_2 : Bool) (x25_2 : Int), v4 = .bool x4_2 ∧ v25 = .int .i64 x25_2 ∧ Aside0 (protocol_Doomed.l1 kq x3_2 x4_2 l0_4 (l0_4.length : Int) x25_2 a0_0 l0_1 a0_2 a0_3 l0_4 = some r) ∧ Aside0 (kq ≤ k1) ∧ Aside0 (Kd.R Kd.bool 4 w' w.heap.size (fun _ => True) (.slice (some ⟨go8, 0, none⟩) x3_1.length co8) x3_2) ∧ Aside0 (w'.heap[gb32001]? = some (.cells #[.string a0_0, (.slice A0_1 l0_1.length c0_1), .int .i64 a0_2, .int .i64 a0_3, (.slice A0_4 l0_4.length c0_4)] 35 (0, 0))) ∧ Aside0 (Below w.heap.size w w'))
                  case atStart => exact ⟨(x3_1), (false), (0), (by first | rfl | (simp; done) | (simp [*]; done)), (by first | rfl | (simp; done) | (simp [*]; done)), H', ⟨Nat.le_refl _⟩, ⟨by (try simp only [hl3_1]); (with_reducible repeat (first | apply Kd.R_alloc | apply Kd.R_drewN | apply Kd.R_drew)); exact HO_3.out⟩, ⟨by (try simp only [hl3_1]); (with_reducible repeat (first | refine blk_drewN ?_ _ | refine blk_drew ?_ | refine blk_alloc ?_ _)); exact BK32001.out⟩, ⟨by repeat (first | (with_reducible first | exact HB.out | apply below_alloc | apply pw_below_drewN | apply below_drew1 | refine below_set ?_ GE32001.out) | exact HB.out)⟩⟩
                  case round =>
                    clear H'
                    try clear c1
                    try clear p2
                    try clear c3
                    try clear c3b0
                    try clear c3b1
                    try clear c4
                    try clear c4b0
                    try clear c4b1
                    try clear c5
                    try clear c5b0
                    try clear c5b1
                    try clear c6
                    try clear c6b0
                    try clear c7
                    try clear c7b0
                    try clear p8
                    try clear q8
                    try clear hx8
                    try clear hf8
                    try clear c18
                    try clear hcz10_0
                    try clear hcz10_1
                    try clear hcz10_2
                    try clear hcz10_3
                    try clear hcz10_4
                    try clear hcz12_0
                    try clear hcz12_1
                    try clear hcz12_2
                    try clear hcz12_3
                    try clear hcz12_4
                    try clear hcz15_0
                    try clear hcz15_1
                    try clear hcz15_2
                    try clear hcz15_3
                    try clear hcz15_4
                    try clear hcz19_0
                    try clear hcz19_1
                    try clear hcz19_2
                    try clear hcz19_3
                    try clear hcz19_4
                    try clear hfz10_0
                    try clear hfz10_1
                    try clear hfz10_2
                    try clear hfz10_3
                    try clear hfz10_4
                    try clear hfz12_0
                    try clear hfz12_1
                    try clear hfz12_2
                    try clear hfz12_3
                    try clear hfz12_4
                    try clear hfz15_0
                    try clear hfz15_1
                    try clear hfz15_2
                    try clear hfz15_3
                    try clear hfz15_4
                    try clear hfz19_0
                    try clear hfz19_1
                    try clear hfz19_2
                    try clear hfz19_3
                    try clear hfz19_4
                    try clear hx8_0
                    try clear p2
                    try clear p8
                    try clear q8
                    obtain ⟨x3_2, x4_2, x25_2, rfl, rfl, HA, HK2, HO_3, BK32001, HB⟩ := hrel
                    have hl3_2 := (Kd.R_reads' HO_3.out).1
                    rw [hl3_2] at HO_3
                    (try simp only [hl3_2])
                    (try simp only [hl3_2] at BK32001)
                    cases gk with
                    | zero => exact absurd HA.out (by simp [protocol_Doomed.l1])
                    | succ k2 =>
                      have H := HA.out
                      clear HA
                      simp only [protocol_Doomed.l1] at H
                      by_cases c20 : x25_2 < (l0_4.length : Int)
                      · rw [if_pos c20] at H
                        have c20b0 : decide (x25_2 < (l0_4.length : Int)) = true := decide_eq_true c20
                        clear c20
                        by_cases c21 : 0 ≤ x25_2
                        · rw [if_pos c21] at H
                          have c21b0 : decide (0 ≤ x25_2) = true := decide_eq_true c21
                          clear c21
                          by_cases c22 : x25_2 < (l0_4.length : Int)
                          · rw [if_pos c22] at H
                            have c22b0 : decide (x25_2 < (l0_4.length : Int)) = true := decide_eq_true c22
                            clear c22
                            by_cases c23 : 0 ≤ ((rd_T64 l0_4 x25_2).f2)
                            · rw [if_pos c23] at H
                              have c23b0 : decide (0 ≤ ((rd_T64 l0_4 x25_2).f2)) = true := decide_eq_true c23
                              clear c23
                              by_cases c24 : ((rd_T64 l0_4 x25_2).f2) < (x3_2.length : Int)
                              · rw [if_pos c24] at H
                                have c24b0 : decide (((rd_T64 l0_4 x25_2).f2) < (x3_2.length : Int)) = true := decide_eq_true c24
                                clear c24
                                obtain ⟨bq25, hbq25⟩ : ∃ b_ : Bool, b_ = (rdOf false x3_2 ((rd_T64 l0_4 x25_2).f2)) := ⟨_, rfl⟩
                                replace H : (if bq25 = true then (if 0 ≤ ((rd_T64 l0_4 x25_2).f0) then (if ((rd_T64 l0_4 x25_2).f0) < (x3_2.length : Int) then (if (rdOf false x3_2 ((rd_T64 l0_4 x25_2).f0) = true) then (protocol_Doomed.l1 k2 x3_2 x4_2 l0_4 (l0_4.length : Int) (wrap64 (x25_2 + 1)) a0_0 l0_1 a0_2 a0_3 l0_4) else (protocol_Doomed.l1 k2 (x3_2.set (((rd_T64 l0_4 x25_2).f0) : Int).toNat true) true l0_4 (l0_4.length : Int) (wrap64 (x25_2 + 1)) a0_0 l0_1 a0_2 a0_3 l0_4)) else (none)) else (none)) else (protocol_Doomed.l1 k2 x3_2 x4_2 l0_4 (l0_4.length : Int) (wrap64 (x25_2 + 1)) a0_0 l0_1 a0_2 a0_3 l0_4)) = some r := by rw [← hbq25] at H; exact H
                                have Nbq25 := Aside0.mk hbq25
                                clear hbq25
                                by_cases c26 : bq25 = true
                                · subst c26
                                  have H1 : (if 0 ≤ ((rd_T64 l0_4 x25_2).f0) then (if ((rd_T64 l0_4 x25_2).f0) < (x3_2.length : Int) then (if (rdOf false x3_2 ((rd_T64 l0_4 x25_2).f0) = true) then (protocol_Doomed.l1 k2 x3_2 x4_2 l0_4 (l0_4.length : Int) (wrap64 (x25_2 + 1)) a0_0 l0_1 a0_2 a0_3 l0_4) else (protocol_Doomed.l1 k2 (x3_2.set (((rd_T64 l0_4 x25_2).f0) : Int).toNat true) true l0_4 (l0_4.length : Int) (wrap64 (x25_2 + 1)) a0_0 l0_1 a0_2 a0_3 l0_4)) else (none)) else (none)) = some r := by rw [if_pos rfl] at H; exact H
                                  clear H
                                  have H := H1
                                  clear H1
                                  by_cases c27 : 0 ≤ ((rd_T64 l0_4 x25_2).f0)
                                  · rw [if_pos c27] at H
                                    have c27b0 : decide (0 ≤ ((rd_T64 l0_4 x25_2).f0)) = true := decide_eq_true c27
                                    clear c27
                                    by_cases c28 : ((rd_T64 l0_4 x25_2).f0) < (x3_2.length : Int)
                                    · rw [if_pos c28] at H
                                      have c28b0 : decide (((rd_T64 l0_4 x25_2).f0) < (x3_2.length : Int)) = true := decide_eq_true c28
                                      clear c28
                                      obtain ⟨bq29, hbq29⟩ : ∃ b_ : Bool, b_ = (rdOf false x3_2 ((rd_T64 l0_4 x25_2).f0)) := ⟨_, rfl⟩
                                      replace H : (if (bq29 = true) then (protocol_Doomed.l1 k2 x3_2 x4_2 l0_4 (l0_4.length : Int) (wrap64 (x25_2 + 1)) a0_0 l0_1 a0_2 a0_3 l0_4) else (protocol_Doomed.l1 k2 (x3_2.set (((rd_T64 l0_4 x25_2).f0) : Int).toNat true) true l0_4 (l0_4.length : Int) (wrap64 (x25_2 + 1)) a0_0 l0_1 a0_2 a0_3 l0_4)) = some r := by rw [← hbq29] at H; exact H
                                      have Nbq29 := Aside0.mk hbq29
                                      clear hbq29
                                      by_cases c30 : (bq29 = true)
                                      · subst c30
                                        have H1 : (protocol_Doomed.l1 k2 x3_2 x4_2 l0_4 (l0_4.length : Int) (wrap64 (x25_2 + 1)) a0_0 l0_1 a0_2 a0_3 l0_4) = some r := by rw [if_pos rfl] at H; exact H
                                        clear H
                                        have H := H1
                                        clear H1
                                        have H' := Aside0.mk H
                                        clear H
                                        have p32007 : 0 ≤ (x25_2 : Int) := of_decide_eq_true (by first | (with_reducible assumption) | assumption)
                                        have q32007 : x25_2 < (l0_4.length : Int) := of_decide_eq_true (by first | (with_reducible assumption) | assumption)
                                        obtain ⟨ad32007, e32007, hx32007_0, hx32007_1, hx32007_2⟩ := at_T64 HR0_4.out x25_2 p32007 q32007
                                        cases e32007
                                        replace hx32007_0 := (HB.out.cell (World.block_lt_of_cell? w _ hx32007_0)).trans hx32007_0
                                        replace hx32007_1 := (HB.out.cell (World.block_lt_of_cell? w _ hx32007_1)).trans hx32007_1
                                        replace hx32007_2 := (HB.out.cell (World.block_lt_of_cell? w _ hx32007_2)).trans hx32007_2
                                        replace p32007 := eq_true p32007
                                        replace q32007 := eq_true q32007
                                        go_wp2_with (first | ((with_reducible refine gate_dst (N := 6) rfl ?_); refine box_event ?hg (N := 6) ?hd (cs := #[.int .i64 0, .string (⟨#[]⟩ : ByteArray), .int .i64 0]) (t := 64) ?hr ?_; (case hd => rfl); (case hg => rfl); (case hr => first | (go_simp; done) | (go_simp; rfl)); intro gb32008 hg w31 hbox hb; have n0_ := Aside0.mk (Kd.R_below (by (with_reducible repeat (first | apply Kd.R_alloc | apply Kd.R_drewN | apply Kd.R_drew)); exact HO_3.out) hb); have n1_ := Aside0.mk (blk_below (g := gb32001) (o := .cells #[.string a0_0, .slice A0_1 l0_1.length c0_1, .int .i64 a0_2, .int .i64 a0_3, .slice (some ad32007) l0_4.length c0_4] 35 (0, 0)) (by (with_reducible repeat (first | refine blk_drewN ?_ _ | refine blk_drew ?_ | refine blk_alloc ?_ _)); exact BK32001.out) hb); have n2_ := Aside0.mk (below_step (by repeat (first | (with_reducible first | exact HB.out | apply below_alloc | apply pw_below_drewN | apply below_drew1 | refine below_set ?_ GE32001.out) | exact HB.out)) hb); have n3_ := Aside0.mk (hbox); have n4_ := Aside0.mk ((by rw [hg]; exact (below_size (by repeat (first | (with_reducible first | exact HB.out | apply below_alloc | apply pw_below_drewN | apply below_drew1 | refine below_set ?_ GE32001.out) | exact HB.out))) : w.heap.size ≤ gb32008)); have n5_ := Aside0.mk ((by rw [hg]; exact (below_size (by repeat (first | (with_reducible first | exact HB.out | apply below_alloc | apply pw_below_drewN | apply below_drew1 | refine below_set ?_ GE32001.out) | exact HB.out))) : w.heap.size ≤ gb32008)); have n6_ := Aside0.mk ((by rw [hg]; exact Nat.ne_of_lt (blk_lt (g := gb32001) (o := .cells #[.string a0_0, .slice A0_1 l0_1.length c0_1, .int .i64 a0_2, .int .i64 a0_3, .slice (some ad32007) l0_4.length c0_4] 35 (0, 0)) (by (with_reducible repeat (first | refine blk_drewN ?_ _ | refine blk_drew ?_ | refine blk_alloc ?_ _)); exact BK32001.out)) : gb32001 ≠ gb32008)); have n7_ := Aside0.mk ((by rw [hg]; exact Nat.ne_of_gt (blk_lt (g := gb32001) (o := .cells #[.string a0_0, .slice A0_1 l0_1.length c0_1, .int .i64 a0_2, .int .i64 a0_3, .slice (some ad32007) l0_4.length c0_4] 35 (0, 0)) (by (with_reducible repeat (first | refine blk_drewN ?_ _ | refine blk_drew ?_ | refine blk_alloc ?_ _)); exact BK32001.out)) : gb32008 ≠ gb32001)); clear HO_3; clear BK32001; clear HB; have HO_3 := n0_; have BK32001 := n1_; have HB := n2_; have BK32008 := n3_; have GW32008 := n4_; have GE32008 := n5_; have NB32001_32008 := n6_; have NB32008_32001 := n7_; clear n0_ n1_ n2_ n3_ n4_ n5_ n6_ n7_; clear hb hbox hg; have hnb32 := NB32008_32001.out; have hnc32 := NB32001_32008.out; have hcz33_0 : w31.cell? ⟨gb32008, 0, none⟩ = some (.int .i64 0) := (blk_cell BK32008.out 0).trans rfl; have hcz33_1 : w31.cell? ⟨gb32008, 1, none⟩ = some (.string (⟨#[]⟩ : ByteArray)) := (blk_cell BK32008.out 1).trans rfl; have hcz33_2 : w31.cell? ⟨gb32008, 2, none⟩ = some (.int .i64 0) := (blk_cell BK32008.out 2).trans rfl; have hfz33_0 := blk_frozen BK32008.out 0; have hfz33_1 := blk_frozen BK32008.out 1; have hfz33_2 := blk_frozen BK32008.out 2; have p32009 : 0 ≤ (((rd_T64 l0_4 x25_2).f2) : Int) := of_decide_eq_true (by first | (with_reducible assumption) | assumption); have q32009 : ((rd_T64 l0_4 x25_2).f2) < (x3_2.length : Int) := of_decide_eq_true (by first | (with_reducible assumption) | assumption); obtain ⟨ad32009, e32009, hx32009_0⟩ := Kd.at_bool (Kd.R_reads' HO_3.out).2.2 ((rd_T64 l0_4 x25_2).f2) p32009 q32009; (try rw [← Nbq25.out] at hx32009_0); (try rw [← Nbq29.out] at hx32009_0); obtain rfl : (⟨go8, 0, none⟩ : Addr) = ad32009 := (by injection e32009); (first | simp only [add_plain] at hx32009_0 | simp only [add_at] at hx32009_0 | simp only [Addr.add, Nat.zero_add] at hx32009_0 | skip); have hn32009_0 : (⟨go8, 0, none⟩ : Addr).block ≠ gb32008 := Kd.own_blk (Kd.R_ne HO_3.out BK32008.out (by decide)); have hn32009_1 : (⟨go8, 0, none⟩ : Addr).block ≠ gb32008 := Kd.own_blk (Kd.R_ne HO_3.out BK32008.out (by decide)); have hn32009_2 : (⟨go8, 0, none⟩ : Addr).block ≠ gb32008 := Kd.own_blk (Kd.R_ne HO_3.out BK32008.out (by decide)); replace hx32009_0 := (cell_far (p := ⟨gb32008, 0, none⟩) (by first | (rw [add_block]; exact hn32009_0) | (show (Addr.add _ _).block ≠ _; rw [add_block]; exact hn32009_0) | exact hn32009_0) (.int .i64 ((rd_T64 l0_4 x25_2).f0))).trans hx32009_0; replace hx32009_0 := (cell_far (p := ⟨gb32008, 1, none⟩) (by first | (rw [add_block]; exact hn32009_1) | (show (Addr.add _ _).block ≠ _; rw [add_block]; exact hn32009_1) | exact hn32009_1) (.string ((rd_T64 l0_4 x25_2).f1))).trans hx32009_0; replace hx32009_0 := (cell_far (p := ⟨gb32008, 2, none⟩) (by first | (rw [add_block]; exact hn32009_2) | (show (Addr.add _ _).block ≠ _; rw [add_block]; exact hn32009_2) | exact hn32009_2) (.int .i64 ((rd_T64 l0_4 x25_2).f2))).trans hx32009_0; clear hn32009_0; clear hn32009_1; clear hn32009_2; replace p32009 := eq_true p32009; replace q32009 := eq_true q32009; have p32010 : 0 ≤ (((rd_T64 l0_4 x25_2).f0) : Int) := of_decide_eq_true (by first | (with_reducible assumption) | assumption); have q32010 : ((rd_T64 l0_4 x25_2).f0) < (x3_2.length : Int) := of_decide_eq_true (by first | (with_reducible assumption) | assumption); obtain ⟨ad32010, e32010, hx32010_0⟩ := Kd.at_bool (Kd.R_reads' HO_3.out).2.2 ((rd_T64 l0_4 x25_2).f0) p32010 q32010; (try rw [← Nbq25.out] at hx32010_0); (try rw [← Nbq29.out] at hx32010_0); obtain rfl : (⟨go8, 0, none⟩ : Addr) = ad32010 := (by injection e32010); (first | simp only [add_plain] at hx32010_0 | simp only [add_at] at hx32010_0 | simp only [Addr.add, Nat.zero_add] at hx32010_0 | skip); have hn32010_0 : (⟨go8, 0, none⟩ : Addr).block ≠ gb32008 := Kd.own_blk (Kd.R_ne HO_3.out BK32008.out (by decide)); have hn32010_1 : (⟨go8, 0, none⟩ : Addr).block ≠ gb32008 := Kd.own_blk (Kd.R_ne HO_3.out BK32008.out (by decide)); have hn32010_2 : (⟨go8, 0, none⟩ : Addr).block ≠ gb32008 := Kd.own_blk (Kd.R_ne HO_3.out BK32008.out (by decide)); replace hx32010_0 := (cell_far (p := ⟨gb32008, 0, none⟩) (by first | (rw [add_block]; exact hn32010_0) | (show (Addr.add _ _).block ≠ _; rw [add_block]; exact hn32010_0) | exact hn32010_0) (.int .i64 ((rd_T64 l0_4 x25_2).f0))).trans hx32010_0; replace hx32010_0 := (cell_far (p := ⟨gb32008, 1, none⟩) (by first | (rw [add_block]; exact hn32010_1) | (show (Addr.add _ _).block ≠ _; rw [add_block]; exact hn32010_1) | exact hn32010_1) (.string ((rd_T64 l0_4 x25_2).f1))).trans hx32010_0; replace hx32010_0 := (cell_far (p := ⟨gb32008, 2, none⟩) (by first | (rw [add_block]; exact hn32010_2) | (show (Addr.add _ _).block ≠ _; rw [add_block]; exact hn32010_2) | exact hn32010_2) (.int .i64 ((rd_T64 l0_4 x25_2).f2))).trans hx32010_0; clear hn32010_0; clear hn32010_1; clear hn32010_2; replace p32010 := eq_true p32010; replace q32010 := eq_true q32010))
                                        (try simp only [← hl3_2])
                                        go_roundg k2
                                        case measure => have := HK1.out; have := HK2.out; omega
                                        case rel => exact ⟨(x3_2), (x4_2), (wrap64 (x25_2 + 1)), (by first | rfl | (simp; done) | (simp [*]; done)), (by first | rfl | (simp; done) | (simp [*]; done)), H', ⟨by have := HK1.out; have := HK2.out; omega⟩, ⟨by (try simp only [hl3_1]); (try simp only [hl3_2]); (with_reducible repeat (first | apply Kd.R_alloc | apply Kd.R_drewN | apply Kd.R_drew)); exact Kd.R_mono (Kd.R_far (p := ⟨gb32008, 2, none⟩) (Kd.R_far (p := ⟨gb32008, 1, none⟩) (Kd.R_far (p := ⟨gb32008, 0, none⟩) (Kd.R_types HO_3.out BK32008.out (by decide)) (fun _ hk => hk.2) (.int .i64 ((rd_T64 l0_4 x25_2).f0))) (fun _ hk => hk.2) (.string ((rd_T64 l0_4 x25_2).f1))) (fun _ hk => hk.2) (.int .i64 ((rd_T64 l0_4 x25_2).f2))) (fun _ hk => trivial)⟩, ⟨by (try simp only [hl3_1]); (try simp only [hl3_2]); (with_reducible repeat (first | refine blk_drewN ?_ _ | refine blk_drew ?_ | refine blk_alloc ?_ _)); refine blk_far ?_ NB32001_32008.out _; (with_reducible repeat (first | refine blk_drewN ?_ _ | refine blk_drew ?_ | refine blk_alloc ?_ _)); refine blk_far ?_ NB32001_32008.out _; (with_reducible repeat (first | refine blk_drewN ?_ _ | refine blk_drew ?_ | refine blk_alloc ?_ _)); refine blk_far ?_ NB32001_32008.out _; (with_reducible repeat (first | refine blk_drewN ?_ _ | refine blk_drew ?_ | refine blk_alloc ?_ _)); exact BK32001.out⟩, ⟨by repeat (first | (with_reducible first | exact HB.out | apply below_alloc | apply pw_below_drewN | apply below_drew1 | refine below_set ?_ GE32001.out | refine below_set ?_ GE32008.out) | exact HB.out)⟩⟩
                                      · replace c30 := Bool.eq_false_iff.mpr c30
                                        subst c30
                                        have H1 : (protocol_Doomed.l1 k2 (x3_2.set (((rd_T64 l0_4 x25_2).f0) : Int).toNat true) true l0_4 (l0_4.length : Int) (wrap64 (x25_2 + 1)) a0_0 l0_1 a0_2 a0_3 l0_4) = some r := by rw [if_neg (show ¬ (false = true) by decide)] at H; exact H
                                        clear H
                                        have H := H1
                                        clear H1
                                        obtain ⟨y32011, hy32011⟩ : ∃ y_ : List Bool, y_ = (x3_2.set (((rd_T64 l0_4 x25_2).f0) : Int).toNat true) := ⟨_, rfl⟩
                                        replace H : (protocol_Doomed.l1 k2 y32011 true l0_4 (l0_4.length : Int) (wrap64 (x25_2 + 1)) a0_0 l0_1 a0_2 a0_3 l0_4) = some r := by first | (rw [hy32011]; with_reducible exact H) | (have H2_ := (Option.bind_some _ _).symm.trans H; rw [hy32011]; with_reducible exact H2_) | (have H2_ := (Option.bind_some _ _).symm.trans H; with_reducible exact H2_) | with_reducible exact H | (rw [hy32011]; exact H) | exact H
                                        have Ny32011 := Aside0.mk hy32011
                                        clear hy32011
                                        have H' := Aside0.mk H
                                        clear H
                                        have p32007 : 0 ≤ (x25_2 : Int) := of_decide_eq_true (by first | (with_reducible assumption) | assumption)
                                        have q32007 : x25_2 < (l0_4.length : Int) := of_decide_eq_true (by first | (with_reducible assumption) | assumption)
                                        obtain ⟨ad32007, e32007, hx32007_0, hx32007_1, hx32007_2⟩ := at_T64 HR0_4.out x25_2 p32007 q32007
                                        cases e32007
                                        replace hx32007_0 := (HB.out.cell (World.block_lt_of_cell? w _ hx32007_0)).trans hx32007_0
                                        replace hx32007_1 := (HB.out.cell (World.block_lt_of_cell? w _ hx32007_1)).trans hx32007_1
                                        replace hx32007_2 := (HB.out.cell (World.block_lt_of_cell? w _ hx32007_2)).trans hx32007_2
                                        replace p32007 := eq_true p32007
                                        replace q32007 := eq_true q32007
                                        go_wp2_with (first | ((with_reducible refine gate_dst (N := 6) rfl ?_); refine box_event ?hg (N := 6) ?hd (cs := #[.int .i64 0, .string (⟨#[]⟩ : ByteArray), .int .i64 0]) (t := 64) ?hr ?_; (case hd => rfl); (case hg => rfl); (case hr => first | (go_simp; done) | (go_simp; rfl)); intro gb32008 hg w35 hbox hb; have n0_ := Aside0.mk (Kd.R_below (by (with_reducible repeat (first | apply Kd.R_alloc | apply Kd.R_drewN | apply Kd.R_drew)); exact HO_3.out) hb); have n1_ := Aside0.mk (blk_below (g := gb32001) (o := .cells #[.string a0_0, .slice A0_1 l0_1.length c0_1, .int .i64 a0_2, .int .i64 a0_3, .slice (some ad32007) l0_4.length c0_4] 35 (0, 0)) (by (with_reducible repeat (first | refine blk_drewN ?_ _ | refine blk_drew ?_ | refine blk_alloc ?_ _)); exact BK32001.out) hb); have n2_ := Aside0.mk (below_step (by repeat (first | (with_reducible first | exact HB.out | apply below_alloc | apply pw_below_drewN | apply below_drew1 | refine below_set ?_ GE32001.out) | exact HB.out)) hb); have n3_ := Aside0.mk (hbox); have n4_ := Aside0.mk ((by rw [hg]; exact (below_size (by repeat (first | (with_reducible first | exact HB.out | apply below_alloc | apply pw_below_drewN | apply below_drew1 | refine below_set ?_ GE32001.out) | exact HB.out))) : w.heap.size ≤ gb32008)); have n5_ := Aside0.mk ((by rw [hg]; exact (below_size (by repeat (first | (with_reducible first | exact HB.out | apply below_alloc | apply pw_below_drewN | apply below_drew1 | refine below_set ?_ GE32001.out) | exact HB.out))) : w.heap.size ≤ gb32008)); have n6_ := Aside0.mk ((by rw [hg]; exact Nat.ne_of_lt (blk_lt (g := gb32001) (o := .cells #[.string a0_0, .slice A0_1 l0_1.length c0_1, .int .i64 a0_2, .int .i64 a0_3, .slice (some ad32007) l0_4.length c0_4] 35 (0, 0)) (by (with_reducible repeat (first | refine blk_drewN ?_ _ | refine blk_drew ?_ | refine blk_alloc ?_ _)); exact BK32001.out)) : gb32001 ≠ gb32008)); have n7_ := Aside0.mk ((by rw [hg]; exact Nat.ne_of_gt (blk_lt (g := gb32001) (o := .cells #[.string a0_0, .slice A0_1 l0_1.length c0_1, .int .i64 a0_2, .int .i64 a0_3, .slice (some ad32007) l0_4.length c0_4] 35 (0, 0)) (by (with_reducible repeat (first | refine blk_drewN ?_ _ | refine blk_drew ?_ | refine blk_alloc ?_ _)); exact BK32001.out)) : gb32008 ≠ gb32001)); clear HO_3; clear BK32001; clear HB; have HO_3 := n0_; have BK32001 := n1_; have HB := n2_; have BK32008 := n3_; have GW32008 := n4_; have GE32008 := n5_; have NB32001_32008 := n6_; have NB32008_32001 := n7_; clear n0_ n1_ n2_ n3_ n4_ n5_ n6_ n7_; clear hb hbox hg; have hnb36 := NB32008_32001.out; have hnc36 := NB32001_32008.out; have hcz37_0 : w35.cell? ⟨gb32008, 0, none⟩ = some (.int .i64 0) := (blk_cell BK32008.out 0).trans rfl; have hcz37_1 : w35.cell? ⟨gb32008, 1, none⟩ = some (.string (⟨#[]⟩ : ByteArray)) := (blk_cell BK32008.out 1).trans rfl; have hcz37_2 : w35.cell? ⟨gb32008, 2, none⟩ = some (.int .i64 0) := (blk_cell BK32008.out 2).trans rfl; have hfz37_0 := blk_frozen BK32008.out 0; have hfz37_1 := blk_frozen BK32008.out 1; have hfz37_2 := blk_frozen BK32008.out 2) | ((with_reducible refine gate_store (t := 64) (p := 6) rfl ?_); refine store_event (t := 64) (p := 6) (v := ?vo_w38) (w1 := (((w35.setCell ⟨gb32008, 0, none⟩ (.int .i64 ((rd_T64 l0_4 x25_2).f0))).setCell ⟨gb32008, 1, none⟩ (.string ((rd_T64 l0_4 x25_2).f1))).setCell ⟨gb32008, 2, none⟩ (.int .i64 ((rd_T64 l0_4 x25_2).f2)))) ?hg ?ho ?hn ?hr ?_; (case ho => rfl); (case hg => rfl); (case hn => rfl); (case hr => first | (go_simp; done) | (go_simp; rfl)); intro w38 hw; have n0_ : Aside0 (Kd.R Kd.bool 4 w38 w.heap.size (fun _ => True) (.slice (some ⟨go8, 0, none⟩) x3_2.length co8) x3_2) := ⟨(by rw [hw]; exact (by (with_reducible repeat (first | apply Kd.R_alloc | apply Kd.R_drewN | apply Kd.R_drew)); exact Kd.R_mono (Kd.R_far (p := ⟨gb32008, 2, none⟩) (Kd.R_far (p := ⟨gb32008, 1, none⟩) (Kd.R_far (p := ⟨gb32008, 0, none⟩) (Kd.R_types HO_3.out BK32008.out (by decide)) (fun _ hk => hk.2) (.int .i64 ((rd_T64 l0_4 x25_2).f0))) (fun _ hk => hk.2) (.string ((rd_T64 l0_4 x25_2).f1))) (fun _ hk => hk.2) (.int .i64 ((rd_T64 l0_4 x25_2).f2))) (fun _ hk => trivial)))⟩; have n1_ : Aside0 (w38.heap[gb32001]? = some (.cells #[.string a0_0, .slice A0_1 l0_1.length c0_1, .int .i64 a0_2, .int .i64 a0_3, .slice (some ad32007) l0_4.length c0_4] 35 (0, 0))) := ⟨(by rw [hw]; exact (by (with_reducible repeat (first | refine blk_drewN ?_ _ | refine blk_drew ?_ | refine blk_alloc ?_ _)); refine blk_far ?_ NB32001_32008.out _; (with_reducible repeat (first | refine blk_drewN ?_ _ | refine blk_drew ?_ | refine blk_alloc ?_ _)); refine blk_far ?_ NB32001_32008.out _; (with_reducible repeat (first | refine blk_drewN ?_ _ | refine blk_drew ?_ | refine blk_alloc ?_ _)); refine blk_far ?_ NB32001_32008.out _; (with_reducible repeat (first | refine blk_drewN ?_ _ | refine blk_drew ?_ | refine blk_alloc ?_ _)); exact BK32001.out))⟩; have n2_ : Aside0 (w38.heap[gb32008]? = some (.cells #[.int .i64 ((rd_T64 l0_4 x25_2).f0), .string ((rd_T64 l0_4 x25_2).f1), .int .i64 ((rd_T64 l0_4 x25_2).f2)] 64 (0, 0))) := ⟨(by rw [hw]; exact (by (with_reducible repeat (first | refine blk_drewN ?_ _ | refine blk_drew ?_ | refine blk_alloc ?_ _)); refine blk_put (cs := #[.int .i64 ((rd_T64 l0_4 x25_2).f0), .string ((rd_T64 l0_4 x25_2).f1), .int .i64 0]) ?_ 2 _ rfl; (with_reducible repeat (first | refine blk_drewN ?_ _ | refine blk_drew ?_ | refine blk_alloc ?_ _)); refine blk_put (cs := #[.int .i64 ((rd_T64 l0_4 x25_2).f0), .string (⟨#[]⟩ : ByteArray), .int .i64 0]) ?_ 1 _ rfl; (with_reducible repeat (first | refine blk_drewN ?_ _ | refine blk_drew ?_ | refine blk_alloc ?_ _)); refine blk_put (cs := #[.int .i64 0, .string (⟨#[]⟩ : ByteArray), .int .i64 0]) ?_ 0 _ rfl; (with_reducible repeat (first | refine blk_drewN ?_ _ | refine blk_drew ?_ | refine blk_alloc ?_ _)); exact BK32008.out))⟩; have n3_ : Aside0 (Below w.heap.size w w38) := ⟨(by rw [hw]; exact (by repeat (first | (with_reducible first | exact HB.out | apply below_alloc | apply pw_below_drewN | apply below_drew1 | refine below_set ?_ GE32001.out | refine below_set ?_ GE32008.out) | exact HB.out)))⟩; clear hw; clear HO_3; clear BK32001; clear BK32008; clear HB; have HO_3 := n0_; have BK32001 := n1_; have BK32008 := n2_; have HB := n3_; clear n0_ n1_ n2_ n3_; have hcz39_0 : w38.cell? ⟨gb32008, 0, none⟩ = some (.int .i64 ((rd_T64 l0_4 x25_2).f0)) := (blk_cell BK32008.out 0).trans rfl; have hcz39_1 : w38.cell? ⟨gb32008, 1, none⟩ = some (.string ((rd_T64 l0_4 x25_2).f1)) := (blk_cell BK32008.out 1).trans rfl; have hcz39_2 : w38.cell? ⟨gb32008, 2, none⟩ = some (.int .i64 ((rd_T64 l0_4 x25_2).f2)) := (blk_cell BK32008.out 2).trans rfl; have hfz39_0 := blk_frozen BK32008.out 0; have hfz39_1 := blk_frozen BK32008.out 1; have hfz39_2 := blk_frozen BK32008.out 2; have p32009 : 0 ≤ (((rd_T64 l0_4 x25_2).f2) : Int) := of_decide_eq_true (by first | (with_reducible assumption) | assumption); have q32009 : ((rd_T64 l0_4 x25_2).f2) < (x3_2.length : Int) := of_decide_eq_true (by first | (with_reducible assumption) | assumption); obtain ⟨ad32009, e32009, hx32009_0⟩ := Kd.at_bool (Kd.R_reads' HO_3.out).2.2 ((rd_T64 l0_4 x25_2).f2) p32009 q32009; (try rw [← Nbq25.out] at hx32009_0); (try rw [← Nbq29.out] at hx32009_0); obtain rfl : (⟨go8, 0, none⟩ : Addr) = ad32009 := (by injection e32009); (first | simp only [add_plain] at hx32009_0 | simp only [add_at] at hx32009_0 | simp only [Addr.add, Nat.zero_add] at hx32009_0 | skip); replace p32009 := eq_true p32009; replace q32009 := eq_true q32009; have p32010 : 0 ≤ (((rd_T64 l0_4 x25_2).f0) : Int) := of_decide_eq_true (by first | (with_reducible assumption) | assumption); have q32010 : ((rd_T64 l0_4 x25_2).f0) < (x3_2.length : Int) := of_decide_eq_true (by first | (with_reducible assumption) | assumption); obtain ⟨ad32010, e32010, hx32010_0⟩ := Kd.at_bool (Kd.R_reads' HO_3.out).2.2 ((rd_T64 l0_4 x25_2).f0) p32010 q32010; (try rw [← Nbq25.out] at hx32010_0); (try rw [← Nbq29.out] at hx32010_0); obtain rfl : (⟨go8, 0, none⟩ : Addr) = ad32010 := (by injection e32010); (first | simp only [add_plain] at hx32010_0 | simp only [add_at] at hx32010_0 | simp only [Addr.add, Nat.zero_add] at hx32010_0 | skip); replace p32010 := eq_true p32010; replace q32010 := eq_true q32010; have p34 : 0 ≤ (((rd_T64 l0_4 x25_2).f0) : Int) := of_decide_eq_true (by first | (with_reducible assumption) | assumption); have q34 : (((rd_T64 l0_4 x25_2).f0) : Int) < ((x3_2.length : Int) : Int) := of_decide_eq_true (by first | (with_reducible assumption) | assumption); obtain ⟨hx34_0, hf34_0⟩ := Kd.R_celln false HO_3.out (((rd_T64 l0_4 x25_2).f0) : Int) p34 q34; replace p34 := eq_true p34; replace q34 := eq_true q34; obtain ⟨hy40_, hz40_⟩ := Kd.R_celln false HO_3.out (((rd_T64 l0_4 x25_2).f0) : Int) (of_decide_eq_true (by first | (with_reducible assumption) | assumption)) (of_decide_eq_true (by first | (with_reducible assumption) | assumption)); have HP40 := Kd.R_putg HO_3.out (((rd_T64 l0_4 x25_2).f0) : Int) true) | ((with_reducible refine gate_store (t := 4) (p := 45) rfl ?_); refine store_event (t := 4) (p := 45) (v := ?vo_w41) (w1 := (w38.setCell ⟨go8, (((rd_T64 l0_4 x25_2).f0) : Int).toNat, none⟩ (.bool true))) ?hg ?ho ?hn ?hr ?_; (case ho => rfl); (case hg => rfl); (case hn => rfl); (case hr => first | (go_simp; done) | (go_simp; rfl)); intro w41 hw; have hg : w38.grownBy w41 (some go8) := (by rw [hw]; exact HP40.2); have hp_ : Kd.R Kd.bool 4 w41 w.heap.size (fun _ => True) (.slice (some ⟨go8, 0, none⟩) x3_2.length co8) y32011 := (by rw [hw, Ny32011.out]; exact HP40.1); clear HP40; have n0_ := Aside0.mk (hp_); have n1_ := Aside0.mk (blk_grown (g := gb32001) (o := .cells #[.string a0_0, .slice A0_1 l0_1.length c0_1, .int .i64 a0_2, .int .i64 a0_3, .slice (some ad32007) l0_4.length c0_4] 35 (0, 0)) (by (with_reducible repeat (first | refine blk_drewN ?_ _ | refine blk_drew ?_ | refine blk_alloc ?_ _)); exact BK32001.out) hg (Kd.R_ne HO_3.out BK32001.out (by decide))); have n2_ := Aside0.mk (blk_grown (g := gb32008) (o := .cells #[.int .i64 ((rd_T64 l0_4 x25_2).f0), .string ((rd_T64 l0_4 x25_2).f1), .int .i64 ((rd_T64 l0_4 x25_2).f2)] 64 (0, 0)) (by (with_reducible repeat (first | refine blk_drewN ?_ _ | refine blk_drew ?_ | refine blk_alloc ?_ _)); exact BK32008.out) hg (Kd.R_ne HO_3.out BK32008.out (by decide))); have n3_ := Aside0.mk ((by rw [hw]; exact below_set (HB.out) GB8.out : Below w.heap.size w w41)); clear HO_3; clear BK32001; clear BK32008; clear HB; have HO_3 := n0_; have BK32001 := n1_; have BK32008 := n2_; have HB := n3_; clear n0_ n1_ n2_ n3_; clear hg hw hp_))
                                        (try simp only [← hl3_2])
                                        go_roundg k2
                                        case measure => have := HK1.out; have := HK2.out; omega
                                        case rel => exact ⟨(y32011), (true), (wrap64 (x25_2 + 1)), (by first | rfl | (simp; done) | (simp [*]; done)), (by first | rfl | (simp; done) | (simp [*]; done)), H', ⟨by have := HK1.out; have := HK2.out; omega⟩, ⟨by (try simp only [hl3_1]); (try simp only [hl3_2]); (with_reducible repeat (first | apply Kd.R_alloc | apply Kd.R_drewN | apply Kd.R_drew)); exact HO_3.out⟩, ⟨by (try simp only [hl3_1]); (try simp only [hl3_2]); (with_reducible repeat (first | refine blk_drewN ?_ _ | refine blk_drew ?_ | refine blk_alloc ?_ _)); exact BK32001.out⟩, ⟨by repeat (first | (with_reducible first | exact HB.out | apply below_alloc | apply pw_below_drewN | apply below_drew1 | refine below_set ?_ GE32001.out | refine below_set ?_ GE32008.out) | exact HB.out)⟩⟩
                                    · rw [if_neg c28] at H
                                      exact absurd H (by simp)
                                  · rw [if_neg c27] at H
                                    exact absurd H (by simp)
                                · replace c26 := Bool.eq_false_iff.mpr c26
                                  subst c26
                                  have H1 : (protocol_Doomed.l1 k2 x3_2 x4_2 l0_4 (l0_4.length : Int) (wrap64 (x25_2 + 1)) a0_0 l0_1 a0_2 a0_3 l0_4) = some r := by rw [if_neg (show ¬ (false = true) by decide)] at H; exact H
                                  clear H
                                  have H := H1
                                  clear H1
                                  have H' := Aside0.mk H
                                  clear H
                                  have p32007 : 0 ≤ (x25_2 : Int) := of_decide_eq_true (by first | (with_reducible assumption) | assumption)
                                  have q32007 : x25_2 < (l0_4.length : Int) := of_decide_eq_true (by first | (with_reducible assumption) | assumption)
                                  obtain ⟨ad32007, e32007, hx32007_0, hx32007_1, hx32007_2⟩ := at_T64 HR0_4.out x25_2 p32007 q32007
                                  cases e32007
                                  replace hx32007_0 := (HB.out.cell (World.block_lt_of_cell? w _ hx32007_0)).trans hx32007_0
                                  replace hx32007_1 := (HB.out.cell (World.block_lt_of_cell? w _ hx32007_1)).trans hx32007_1
                                  replace hx32007_2 := (HB.out.cell (World.block_lt_of_cell? w _ hx32007_2)).trans hx32007_2
                                  replace p32007 := eq_true p32007
                                  replace q32007 := eq_true q32007
                                  go_wp2_with (first | ((with_reducible refine gate_dst (N := 6) rfl ?_); refine box_event ?hg (N := 6) ?hd (cs := #[.int .i64 0, .string (⟨#[]⟩ : ByteArray), .int .i64 0]) (t := 64) ?hr ?_; (case hd => rfl); (case hg => rfl); (case hr => first | (go_simp; done) | (go_simp; rfl)); intro gb32008 hg w42 hbox hb; have n0_ := Aside0.mk (Kd.R_below (by (with_reducible repeat (first | apply Kd.R_alloc | apply Kd.R_drewN | apply Kd.R_drew)); exact HO_3.out) hb); have n1_ := Aside0.mk (blk_below (g := gb32001) (o := .cells #[.string a0_0, .slice A0_1 l0_1.length c0_1, .int .i64 a0_2, .int .i64 a0_3, .slice (some ad32007) l0_4.length c0_4] 35 (0, 0)) (by (with_reducible repeat (first | refine blk_drewN ?_ _ | refine blk_drew ?_ | refine blk_alloc ?_ _)); exact BK32001.out) hb); have n2_ := Aside0.mk (below_step (by repeat (first | (with_reducible first | exact HB.out | apply below_alloc | apply pw_below_drewN | apply below_drew1 | refine below_set ?_ GE32001.out) | exact HB.out)) hb); have n3_ := Aside0.mk (hbox); have n4_ := Aside0.mk ((by rw [hg]; exact (below_size (by repeat (first | (with_reducible first | exact HB.out | apply below_alloc | apply pw_below_drewN | apply below_drew1 | refine below_set ?_ GE32001.out) | exact HB.out))) : w.heap.size ≤ gb32008)); have n5_ := Aside0.mk ((by rw [hg]; exact (below_size (by repeat (first | (with_reducible first | exact HB.out | apply below_alloc | apply pw_below_drewN | apply below_drew1 | refine below_set ?_ GE32001.out) | exact HB.out))) : w.heap.size ≤ gb32008)); have n6_ := Aside0.mk ((by rw [hg]; exact Nat.ne_of_lt (blk_lt (g := gb32001) (o := .cells #[.string a0_0, .slice A0_1 l0_1.length c0_1, .int .i64 a0_2, .int .i64 a0_3, .slice (some ad32007) l0_4.length c0_4] 35 (0, 0)) (by (with_reducible repeat (first | refine blk_drewN ?_ _ | refine blk_drew ?_ | refine blk_alloc ?_ _)); exact BK32001.out)) : gb32001 ≠ gb32008)); have n7_ := Aside0.mk ((by rw [hg]; exact Nat.ne_of_gt (blk_lt (g := gb32001) (o := .cells #[.string a0_0, .slice A0_1 l0_1.length c0_1, .int .i64 a0_2, .int .i64 a0_3, .slice (some ad32007) l0_4.length c0_4] 35 (0, 0)) (by (with_reducible repeat (first | refine blk_drewN ?_ _ | refine blk_drew ?_ | refine blk_alloc ?_ _)); exact BK32001.out)) : gb32008 ≠ gb32001)); clear HO_3; clear BK32001; clear HB; have HO_3 := n0_; have BK32001 := n1_; have HB := n2_; have BK32008 := n3_; have GW32008 := n4_; have GE32008 := n5_; have NB32001_32008 := n6_; have NB32008_32001 := n7_; clear n0_ n1_ n2_ n3_ n4_ n5_ n6_ n7_; clear hb hbox hg; have hnb43 := NB32008_32001.out; have hnc43 := NB32001_32008.out; have hcz44_0 : w42.cell? ⟨gb32008, 0, none⟩ = some (.int .i64 0) := (blk_cell BK32008.out 0).trans rfl; have hcz44_1 : w42.cell? ⟨gb32008, 1, none⟩ = some (.string (⟨#[]⟩ : ByteArray)) := (blk_cell BK32008.out 1).trans rfl; have hcz44_2 : w42.cell? ⟨gb32008, 2, none⟩ = some (.int .i64 0) := (blk_cell BK32008.out 2).trans rfl; have hfz44_0 := blk_frozen BK32008.out 0; have hfz44_1 := blk_frozen BK32008.out 1; have hfz44_2 := blk_frozen BK32008.out 2; have p32009 : 0 ≤ (((rd_T64 l0_4 x25_2).f2) : Int) := of_decide_eq_true (by first | (with_reducible assumption) | assumption); have q32009 : ((rd_T64 l0_4 x25_2).f2) < (x3_2.length : Int) := of_decide_eq_true (by first | (with_reducible assumption) | assumption); obtain ⟨ad32009, e32009, hx32009_0⟩ := Kd.at_bool (Kd.R_reads' HO_3.out).2.2 ((rd_T64 l0_4 x25_2).f2) p32009 q32009; (try rw [← Nbq25.out] at hx32009_0); obtain rfl : (⟨go8, 0, none⟩ : Addr) = ad32009 := (by injection e32009); (first | simp only [add_plain] at hx32009_0 | simp only [add_at] at hx32009_0 | simp only [Addr.add, Nat.zero_add] at hx32009_0 | skip); have hn32009_0 : (⟨go8, 0, none⟩ : Addr).block ≠ gb32008 := Kd.own_blk (Kd.R_ne HO_3.out BK32008.out (by decide)); have hn32009_1 : (⟨go8, 0, none⟩ : Addr).block ≠ gb32008 := Kd.own_blk (Kd.R_ne HO_3.out BK32008.out (by decide)); have hn32009_2 : (⟨go8, 0, none⟩ : Addr).block ≠ gb32008 := Kd.own_blk (Kd.R_ne HO_3.out BK32008.out (by decide)); replace hx32009_0 := (cell_far (p := ⟨gb32008, 0, none⟩) (by first | (rw [add_block]; exact hn32009_0) | (show (Addr.add _ _).block ≠ _; rw [add_block]; exact hn32009_0) | exact hn32009_0) (.int .i64 ((rd_T64 l0_4 x25_2).f0))).trans hx32009_0; replace hx32009_0 := (cell_far (p := ⟨gb32008, 1, none⟩) (by first | (rw [add_block]; exact hn32009_1) | (show (Addr.add _ _).block ≠ _; rw [add_block]; exact hn32009_1) | exact hn32009_1) (.string ((rd_T64 l0_4 x25_2).f1))).trans hx32009_0; replace hx32009_0 := (cell_far (p := ⟨gb32008, 2, none⟩) (by first | (rw [add_block]; exact hn32009_2) | (show (Addr.add _ _).block ≠ _; rw [add_block]; exact hn32009_2) | exact hn32009_2) (.int .i64 ((rd_T64 l0_4 x25_2).f2))).trans hx32009_0; clear hn32009_0; clear hn32009_1; clear hn32009_2; replace p32009 := eq_true p32009; replace q32009 := eq_true q32009))
                                  (try simp only [← hl3_2])
                                  go_roundg k2
                                  case measure => have := HK1.out; have := HK2.out; omega
                                  case rel => exact ⟨(x3_2), (x4_2), (wrap64 (x25_2 + 1)), (by first | rfl | (simp; done) | (simp [*]; done)), (by first | rfl | (simp; done) | (simp [*]; done)), H', ⟨by have := HK1.out; have := HK2.out; omega⟩, ⟨by (try simp only [hl3_1]); (try simp only [hl3_2]); (with_reducible repeat (first | apply Kd.R_alloc | apply Kd.R_drewN | apply Kd.R_drew)); exact Kd.R_mono (Kd.R_far (p := ⟨gb32008, 2, none⟩) (Kd.R_far (p := ⟨gb32008, 1, none⟩) (Kd.R_far (p := ⟨gb32008, 0, none⟩) (Kd.R_types HO_3.out BK32008.out (by decide)) (fun _ hk => hk.2) (.int .i64 ((rd_T64 l0_4 x25_2).f0))) (fun _ hk => hk.2) (.string ((rd_T64 l0_4 x25_2).f1))) (fun _ hk => hk.2) (.int .i64 ((rd_T64 l0_4 x25_2).f2))) (fun _ hk => trivial)⟩, ⟨by (try simp only [hl3_1]); (try simp only [hl3_2]); (with_reducible repeat (first | refine blk_drewN ?_ _ | refine blk_drew ?_ | refine blk_alloc ?_ _)); refine blk_far ?_ NB32001_32008.out _; (with_reducible repeat (first | refine blk_drewN ?_ _ | refine blk_drew ?_ | refine blk_alloc ?_ _)); refine blk_far ?_ NB32001_32008.out _; (with_reducible repeat (first | refine blk_drewN ?_ _ | refine blk_drew ?_ | refine blk_alloc ?_ _)); refine blk_far ?_ NB32001_32008.out _; (with_reducible repeat (first | refine blk_drewN ?_ _ | refine blk_drew ?_ | refine blk_alloc ?_ _)); exact BK32001.out⟩, ⟨by repeat (first | (with_reducible first | exact HB.out | apply below_alloc | apply pw_below_drewN | apply below_drew1 | refine below_set ?_ GE32001.out | refine below_set ?_ GE32008.out) | exact HB.out)⟩⟩
                              · rw [if_neg c24] at H
                                exact absurd H (by simp)
                            · rw [if_neg c23] at H
                              exact absurd H (by simp)
                          · rw [if_neg c22] at H
                            exact absurd H (by simp)
                        · rw [if_neg c21] at H
                          exact absurd H (by simp)
                      · rw [if_neg c20] at H
                        have c20b0 : decide (x25_2 < (l0_4.length : Int)) = false := decide_eq_false c20
                        clear c20
                        have H' := Aside0.mk H
                        clear H
                        go_wp2
                        (try simp only [← hl3_1, ← hl3_2])
                        go_roundg k2
                        case measure => have := HK1.out; have := HK2.out; omega
                        case rel => exact ⟨(x3_2), (x4_2), (by first | rfl | (simp; done) | (simp [*]; done)), H', ⟨by have := HK1.out; have := HK2.out; omega⟩, ⟨by (try simp only [hl3_1]); (try simp only [hl3_2]); (with_reducible repeat (first | apply Kd.R_alloc | apply Kd.R_drewN | apply Kd.R_drew)); exact HO_3.out⟩, ⟨by (try simp only [hl3_1]); (try simp only [hl3_2]); (with_reducible repeat (first | refine blk_drewN ?_ _ | refine blk_drew ?_ | refine blk_alloc ?_ _)); exact BK32001.out⟩, ⟨by repeat (first | (with_reducible first | exact HB.out | apply below_alloc | apply pw_below_drewN | apply below_drew1 | refine below_set ?_ GE32001.out) | exact HB.out)⟩⟩
                · replace c18 := Bool.eq_false_iff.mpr c18
                  subst c18
                  have H1 : (protocol_Doomed.l2 k1 ([] : List Int) x3_1 (x3_1.length : Int) 0) = some r := by rw [if_neg (show ¬ (false = true) by decide)] at H; exact H
                  clear H
                  have H := H1
                  clear H1
                  have H' := Aside0.mk H
                  clear H
                  go_wp2
                  go_loopg [7, 49] k1 (fun kq v7 v49 w' => ∃ (x7_2 : List Int) (x49_2 : Int), v49 = .int .i64 x49_2 ∧ Aside0 (protocol_Doomed.l2 kq x7_2 x3_1 (x3_1.length : Int) x49_2 = some r) ∧ Aside0 (kq ≤ k1) ∧ Aside0 (Kd.R (Kd.int .i64) 3 w' w.heap.size (fun _ => True) v7 x7_2) ∧ Aside0 (Kd.R Kd.bool 4 w' w.heap.size (fun _ => True) (.slice (some ⟨go8, 0, none⟩) x3_1.length co8) x3_1) ∧ Aside0 (w'.heap[gb32001]? = some (.cells #[.string a0_0, (.slice A0_1 l0_1.length c0_1), .int .i64 a0_2, .int .i64 a0_3, (.slice A0_4 l0_4.length c0_4)] 35 (0, 0))) ∧ Aside0 (Below w.heap.size w w'))
                  case atStart => exact ⟨(([] : List Int)), (0), (by first | rfl | (simp; done) | (simp [*]; done)), H', ⟨Nat.le_refl _⟩, ⟨by (try simp only [hl3_1]); first | exact Kd.R_nil _ _ _ _ _ | exact Kd.N_nil _ _ _ _ _ | exact Kd.V_nil _ _ _ _ _ | exact Kd.Q_nil _ _ _ _ _ | exact Kd.S_nil _ _ _ _ _⟩, ⟨by (try simp only [hl3_1]); (with_reducible repeat (first | apply Kd.R_alloc | apply Kd.R_drewN | apply Kd.R_drew)); exact HO_3.out⟩, ⟨by (try simp only [hl3_1]); (with_reducible repeat (first | refine blk_drewN ?_ _ | refine blk_drew ?_ | refine blk_alloc ?_ _)); exact BK32001.out⟩, ⟨by repeat (first | (with_reducible first | exact HB.out | apply below_alloc | apply pw_below_drewN | apply below_drew1 | refine below_set ?_ GE32001.out) | exact HB.out)⟩⟩
                  case round =>
                    clear H'
                    try clear c1
                    try clear c2
                    try clear p2
                    try clear q2
                    try clear c3
                    try clear c3b0
                    try clear c3b1
                    try clear p3
                    try clear q3
                    try clear hx3
                    try clear hf3
                    try clear c4
                    try clear c4b0
                    try clear c4b1
                    try clear c5
                    try clear c5b0
                    try clear c5b1
                    try clear c6
                    try clear c6b0
                    try clear p6
                    try clear c7
                    try clear c7b0
                    try clear p8
                    try clear q8
                    try clear hx8
                    try clear hf8
                    try clear c18
                    try clear c20
                    try clear c20b0
                    try clear c21
                    try clear c21b0
                    try clear c22
                    try clear c22b0
                    try clear c23
                    try clear c23b0
                    try clear c24
                    try clear c24b0
                    try clear q25
                    try clear c26
                    try clear c27
                    try clear c27b0
                    try clear c28
                    try clear c28b0
                    try clear q29
                    try clear c30
                    try clear c31
                    try clear c32
                    try clear p32
                    try clear q32
                    try clear hx32
                    try clear c33
                    try clear p34
                    try clear q34
                    try clear hx34
                    try clear hf34
                    try clear c36
                    try clear c43
                    try clear hcz10_0
                    try clear hcz10_1
                    try clear hcz10_2
                    try clear hcz10_3
                    try clear hcz10_4
                    try clear hcz12_0
                    try clear hcz12_1
                    try clear hcz12_2
                    try clear hcz12_3
                    try clear hcz12_4
                    try clear hcz15_0
                    try clear hcz15_1
                    try clear hcz15_2
                    try clear hcz15_3
                    try clear hcz15_4
                    try clear hcz19_0
                    try clear hcz19_1
                    try clear hcz19_2
                    try clear hcz19_3
                    try clear hcz19_4
                    try clear hcz33_0
                    try clear hcz33_1
                    try clear hcz33_2
                    try clear hcz37_0
                    try clear hcz37_1
                    try clear hcz37_2
                    try clear hcz39_0
                    try clear hcz39_1
                    try clear hcz39_2
                    try clear hcz44_0
                    try clear hcz44_1
                    try clear hcz44_2
                    try clear hfz10_0
                    try clear hfz10_1
                    try clear hfz10_2
                    try clear hfz10_3
                    try clear hfz10_4
                    try clear hfz12_0
                    try clear hfz12_1
                    try clear hfz12_2
                    try clear hfz12_3
                    try clear hfz12_4
                    try clear hfz15_0
                    try clear hfz15_1
                    try clear hfz15_2
                    try clear hfz15_3
                    try clear hfz15_4
                    try clear hfz19_0
                    try clear hfz19_1
                    try clear hfz19_2
                    try clear hfz19_3
                    try clear hfz19_4
                    try clear hfz33_0
                    try clear hfz33_1
                    try clear hfz33_2
                    try clear hfz37_0
                    try clear hfz37_1
                    try clear hfz37_2
                    try clear hfz39_0
                    try clear hfz39_1
                    try clear hfz39_2
                    try clear hfz44_0
                    try clear hfz44_1
                    try clear hfz44_2
                    try clear hx32007_0
                    try clear hx32007_1
                    try clear hx32007_2
                    try clear hx32009_0
                    try clear hx32010_0
                    try clear hx34_0
                    try clear hx8_0
                    try clear p2
                    try clear p32007
                    try clear p32009
                    try clear p32010
                    try clear p34
                    try clear p8
                    try clear q32007
                    try clear q32009
                    try clear q32010
                    try clear q34
                    try clear q8
                    obtain ⟨x7_2, x49_2, rfl, HA, HK2, HO_7, HO_47, BK32001, HB⟩ := hrel
                    cases gk with
                    | zero => exact absurd HA.out (by simp [protocol_Doomed.l2])
                    | succ k2 =>
                      have H := HA.out
                      clear HA
                      simp only [protocol_Doomed.l2] at H
                      by_cases c45 : x49_2 < (x3_1.length : Int)
                      · rw [if_pos c45] at H
                        have c45b0 : decide (x49_2 < (x3_1.length : Int)) = true := decide_eq_true c45
                        clear c45
                        by_cases c46 : 0 ≤ x49_2
                        · rw [if_pos c46] at H
                          have c46b0 : decide (0 ≤ x49_2) = true := decide_eq_true c46
                          clear c46
                          by_cases c47 : x49_2 < (x3_1.length : Int)
                          · rw [if_pos c47] at H
                            have c47b0 : decide (x49_2 < (x3_1.length : Int)) = true := decide_eq_true c47
                            clear c47
                            obtain ⟨bq48, hbq48⟩ : ∃ b_ : Bool, b_ = (rdOf false x3_1 x49_2) := ⟨_, rfl⟩
                            replace H : (if bq48 = true then (if x7_2.length < 17592186044416 then (protocol_Doomed.l2 k2 (x7_2 ++ [x49_2]) x3_1 (x3_1.length : Int) (wrap64 (x49_2 + 1))) else (none)) else (protocol_Doomed.l2 k2 x7_2 x3_1 (x3_1.length : Int) (wrap64 (x49_2 + 1)))) = some r := by rw [← hbq48] at H; exact H
                            have Nbq48 := Aside0.mk hbq48
                            clear hbq48
                            by_cases c49 : bq48 = true
                            · subst c49
                              have H1 : (if x7_2.length < 17592186044416 then (protocol_Doomed.l2 k2 (x7_2 ++ [x49_2]) x3_1 (x3_1.length : Int) (wrap64 (x49_2 + 1))) else (none)) = some r := by rw [if_pos rfl] at H; exact H
                              clear H
                              have H := H1
                              clear H1
                              by_cases c50 : x7_2.length < 17592186044416
                              · rw [if_pos c50] at H
                                have LMc50 := Aside0.mk c50
                                clear c50
                                obtain ⟨y32013, hy32013⟩ : ∃ y_ : List Int, y_ = (x7_2 ++ [x49_2]) := ⟨_, rfl⟩
                                replace H : (protocol_Doomed.l2 k2 y32013 x3_1 (x3_1.length : Int) (wrap64 (x49_2 + 1))) = some r := by first | (rw [hy32013]; with_reducible exact H) | (have H2_ := (Option.bind_some _ _).symm.trans H; rw [hy32013]; with_reducible exact H2_) | (have H2_ := (Option.bind_some _ _).symm.trans H; with_reducible exact H2_) | with_reducible exact H | (rw [hy32013]; exact H) | exact H
                                have Ny32013 := Aside0.mk hy32013
                                clear hy32013
                                have H' := Aside0.mk H
                                clear H
                                have p32012 : 0 ≤ (x49_2 : Int) := of_decide_eq_true (by first | (with_reducible assumption) | assumption)
                                have q32012 : x49_2 < (x3_1.length : Int) := of_decide_eq_true (by first | (with_reducible assumption) | assumption)
                                obtain ⟨ad32012, e32012, hx32012_0⟩ := Kd.at_bool (Kd.R_reads' HO_47.out).2.2 x49_2 p32012 q32012
                                (try rw [← Nbq48.out] at hx32012_0)
                                obtain rfl : (⟨go8, 0, none⟩ : Addr) = ad32012 := (by injection e32012)
                                (first | simp only [add_plain] at hx32012_0 | simp only [add_at] at hx32012_0 | simp only [Addr.add, Nat.zero_add] at hx32012_0 | skip)
                                replace p32012 := eq_true p32012
                                replace q32012 := eq_true q32012
                                go_wp2_with (first | ((with_reducible refine gate_builtin (b := .append) (xs := #[.tmp 55, .tmp 57]) rfl ?_); at_builtin; refine Kd.R_append (Kd.int .i64) (w0 := w) w.heap.size rfl (.tmp 55) (.tmp 57) 43 3 (.int .i64 0) 8 rfl Tryd.underlying43 info3 rfl (by decide) (by omega) u7 x7_2 x49_2 [.int .i64 x49_2] (fun _ => True) (fun _ => False) rfl rfl ?aP (fun _ hk => hk.elim) ?aF ?aO ?aB ?aS ?aL ?_; (case aP => exact rfl); (case aB => exact (by repeat (first | (with_reducible first | exact HB.out | apply below_alloc | apply pw_below_drewN | apply below_drew1 | refine below_set ?_ GE32001.out) | exact HB.out))); (case aF => exact (fun _ _ => trivial)); (case aO => exact (by (with_reducible repeat (first | apply Kd.R_alloc | apply Kd.R_drewN | apply Kd.R_drew)); exact HO_7.out)); (case aS => exact (below_size (by repeat (first | (with_reducible first | exact HB.out | apply below_alloc | apply pw_below_drewN | apply below_drew1 | refine below_set ?_ GE32001.out) | exact HB.out)))); (case aL => have := LMc50.out; omega); intro v32014 w51 ho hb hg hat; rw [← Ny32013.out] at ho; have n0_ := Aside0.mk (Kd.R_over' (by (with_reducible repeat (first | apply Kd.R_alloc | apply Kd.R_drewN | apply Kd.R_drew)); exact HO_47.out) (Kd.R_typed (by (with_reducible repeat (first | apply Kd.R_alloc | apply Kd.R_drewN | apply Kd.R_drew)); exact HO_7.out)) (by decide) hg); have n1_ := Aside0.mk (blk_grown (g := gb32001) (o := .cells #[.string a0_0, .slice A0_1 l0_1.length c0_1, .int .i64 a0_2, .int .i64 a0_3, .slice A0_4 l0_4.length c0_4] 35 (0, 0)) (by (with_reducible repeat (first | refine blk_drewN ?_ _ | refine blk_drew ?_ | refine blk_alloc ?_ _)); exact BK32001.out) hg (Kd.R_ne HO_7.out BK32001.out (by decide))); have n2_ := Aside0.mk (hb); have n3_ := Aside0.mk (ho); clear HO_47; clear BK32001; clear HB; clear HO_7; have HO_47 := n0_; have BK32001 := n1_; have HB := n2_; have HO32015 := n3_; clear n0_ n1_ n2_ n3_; clear ho hb hg hat))
                                go_roundg k2
                                case measure => have := HK1.out; have := HK2.out; omega
                                case rel => exact ⟨(y32013), (wrap64 (x49_2 + 1)), (by first | rfl | (simp; done) | (simp [*]; done)), H', ⟨by have := HK1.out; have := HK2.out; omega⟩, ⟨by (try simp only [hl3_1]); (with_reducible repeat (first | apply Kd.R_alloc | apply Kd.R_drewN | apply Kd.R_drew)); exact HO32015.out⟩, ⟨by (try simp only [hl3_1]); (with_reducible repeat (first | apply Kd.R_alloc | apply Kd.R_drewN | apply Kd.R_drew)); exact HO_47.out⟩, ⟨by (try simp only [hl3_1]); (with_reducible repeat (first | refine blk_drewN ?_ _ | refine blk_drew ?_ | refine blk_alloc ?_ _)); exact BK32001.out⟩, ⟨by repeat (first | (with_reducible first | exact HB.out | apply below_alloc | apply pw_below_drewN | apply below_drew1 | refine below_set ?_ GE32001.out) | exact HB.out)⟩⟩
                              · rw [if_neg c50] at H
                                exact absurd H (by simp)
                            · replace c49 := Bool.eq_false_iff.mpr c49
                              subst c49
                              have H1 : (protocol_Doomed.l2 k2 x7_2 x3_1 (x3_1.length : Int) (wrap64 (x49_2 + 1))) = some r := by rw [if_neg (show ¬ (false = true) by decide)] at H; exact H
                              clear H
                              have H := H1
                              clear H1
                              have H' := Aside0.mk H
                              clear H
                              have p32012 : 0 ≤ (x49_2 : Int) := of_decide_eq_true (by first | (with_reducible assumption) | assumption)
                              have q32012 : x49_2 < (x3_1.length : Int) := of_decide_eq_true (by first | (with_reducible assumption) | assumption)
                              obtain ⟨ad32012, e32012, hx32012_0⟩ := Kd.at_bool (Kd.R_reads' HO_47.out).2.2 x49_2 p32012 q32012
                              (try rw [← Nbq48.out] at hx32012_0)
                              obtain rfl : (⟨go8, 0, none⟩ : Addr) = ad32012 := (by injection e32012)
                              (first | simp only [add_plain] at hx32012_0 | simp only [add_at] at hx32012_0 | simp only [Addr.add, Nat.zero_add] at hx32012_0 | skip)
                              replace p32012 := eq_true p32012
                              replace q32012 := eq_true q32012
                              go_wp2
                              go_roundg k2
                              case measure => have := HK1.out; have := HK2.out; omega
                              case rel => exact ⟨(x7_2), (wrap64 (x49_2 + 1)), (by first | rfl | (simp; done) | (simp [*]; done)), H', ⟨by have := HK1.out; have := HK2.out; omega⟩, ⟨by (try simp only [hl3_1]); (with_reducible repeat (first | apply Kd.R_alloc | apply Kd.R_drewN | apply Kd.R_drew)); exact HO_7.out⟩, ⟨by (try simp only [hl3_1]); (with_reducible repeat (first | apply Kd.R_alloc | apply Kd.R_drewN | apply Kd.R_drew)); exact HO_47.out⟩, ⟨by (try simp only [hl3_1]); (with_reducible repeat (first | refine blk_drewN ?_ _ | refine blk_drew ?_ | refine blk_alloc ?_ _)); exact BK32001.out⟩, ⟨by repeat (first | (with_reducible first | exact HB.out | apply below_alloc | apply pw_below_drewN | apply below_drew1 | refine below_set ?_ GE32001.out) | exact HB.out)⟩⟩
                          · rw [if_neg c47] at H
                            exact absurd H (by simp)
                        · rw [if_neg c46] at H
                          exact absurd H (by simp)
                      · rw [if_neg c45] at H
                        have c45b0 : decide (x49_2 < (x3_1.length : Int)) = false := decide_eq_false c45
                        clear c45
                        obtain rfl := Option.some.inj H
                        go_wp2
                        go_ret
                        exact ⟨_, by first | rfl | (simp [errW_none, errW_some] <;> rfl) | (simp [*, errW_none, errW_some] <;> rfl), by (with_reducible repeat (first | apply Kd.R_alloc | apply Kd.R_drewN | apply Kd.R_drew)); exact HO_7.out, by repeat (first | (with_reducible first | exact HB.out | apply below_alloc | apply pw_below_drewN | apply below_drew1 | refine below_set ?_ GE32001.out) | exact HB.out)⟩
          · rw [if_neg c7] at H
            exact absurd H (by simp)
        · rw [if_neg c6] at H
          exact absurd H (by simp)
      · rw [if_neg c5] at H
        exact absurd H (by simp)
    · rw [if_neg c4] at H
      exact absurd H (by simp)
  · rw [if_neg c3] at H
    have c3b0 : (t32002 == 0) = false := beq_eq_false_iff_ne.mpr c3
    have c3b1 : (t32002 != 0) = true := bne_iff_ne.mpr c3
    obtain rfl := Option.some.inj H
    go_enter Tryd.func31, Tryd.ntmps31
    go_wp2_with (first | ((with_reducible refine gate_dst (N := 1) rfl ?_); refine box_event ?hg (N := 1) ?hd (cs := #[.string a0_0, .slice A0_1 l0_1.length c0_1, .int .i64 a0_2, .int .i64 a0_3, .slice A0_4 l0_4.length c0_4]) (t := 35) ?hr ?_; (case hd => rfl); (case hg => rfl); (case hr => first | (go_simp; done) | (go_simp; rfl)); intro gb32001 hg w52 hbox hb; have n0_ := Aside0.mk (below_step (by repeat (first | (with_reducible first | exact HB.out | apply below_alloc | apply pw_below_drewN | apply below_drew1) | exact HB.out)) hb); have n1_ := Aside0.mk (hbox); have n2_ := Aside0.mk ((by rw [hg]; exact (below_size (by repeat (first | (with_reducible first | exact HB.out | apply below_alloc | apply pw_below_drewN | apply below_drew1) | exact HB.out))) : w.heap.size ≤ gb32001)); have n3_ := Aside0.mk ((by rw [hg]; exact (below_size (by repeat (first | (with_reducible first | exact HB.out | apply below_alloc | apply pw_below_drewN | apply below_drew1) | exact HB.out))) : w.heap.size ≤ gb32001)); clear HB; have HB := n0_; have BK32001 := n1_; have GW32001 := n2_; have GE32001 := n3_; clear n0_ n1_ n2_ n3_; clear hb hbox hg; have hcz53_0 : w52.cell? ⟨gb32001, 0, none⟩ = some (.string a0_0) := (blk_cell BK32001.out 0).trans rfl; have hcz53_1 : w52.cell? ⟨gb32001, 1, none⟩ = some (.slice A0_1 l0_1.length c0_1) := (blk_cell BK32001.out 1).trans rfl; have hcz53_2 : w52.cell? ⟨gb32001, 2, none⟩ = some (.int .i64 a0_2) := (blk_cell BK32001.out 2).trans rfl; have hcz53_3 : w52.cell? ⟨gb32001, 3, none⟩ = some (.int .i64 a0_3) := (blk_cell BK32001.out 3).trans rfl; have hcz53_4 : w52.cell? ⟨gb32001, 4, none⟩ = some (.slice A0_4 l0_4.length c0_4) := (blk_cell BK32001.out 4).trans rfl; have hfz53_0 := blk_frozen BK32001.out 0; have hfz53_1 := blk_frozen BK32001.out 1; have hfz53_2 := blk_frozen BK32001.out 2; have hfz53_3 := blk_frozen BK32001.out 3; have hfz53_4 := blk_frozen BK32001.out 4) | ((with_reducible refine gate_callee (f := 33) rfl ?_); refine goesL_ (some 11) rfl rfl Tryd.func33 (by kernel_rfl) rfl #[.agg #[.string a0_0, .slice A0_1 l0_1.length c0_1, .int .i64 a0_2, .int .i64 a0_3, .slice A0_4 l0_4.length c0_4]] rfl (by (try simp only [List.map_toArray, List.map_cons, List.map_nil]); first | done | rfl | (simp only [List.length_drop, List.length_take]; rfl)) ?_; (with_reducible refine (protocol_Check.calls k a0_0 _ _ l0_1 a0_2 a0_3 _ _ l0_4 t32002 _ ?side1 ?side2 ?side3 ?side4 ?side5 A2.out).mono ?_); (case side1 => repeat (first | exact (Kd.C_below HR0_1.out HB.out) | (with_reducible refine Kd.C_alloc ?_ _) | (with_reducible refine Kd.C_drewN ?_ _) | (with_reducible refine Kd.C_drew ?_))); (case side2 => exact HC0_1.out); (case side3 => repeat (first | exact (Kd.C_below HR0_4.out HB.out) | (with_reducible refine Kd.C_alloc ?_ _) | (with_reducible refine Kd.C_drewN ?_ _) | (with_reducible refine Kd.C_drew ?_))); (case side4 => exact HC0_4.out); (case side5 => exact Gh.below HGH.out (by repeat (first | (with_reducible first | exact HB.out | apply below_alloc | apply pw_below_drewN | apply below_drew1 | refine below_set ?_ GE32001.out) | exact HB.out))); rintro e w54 ⟨rfl, hb⟩; refine ⟨_, rfl, ?_⟩; have n0_ := Aside0.mk (blk_below (g := gb32001) (o := .cells #[.string a0_0, .slice A0_1 l0_1.length c0_1, .int .i64 a0_2, .int .i64 a0_3, .slice A0_4 l0_4.length c0_4] 35 (0, 0)) (by (with_reducible repeat (first | refine blk_drewN ?_ _ | refine blk_drew ?_ | refine blk_alloc ?_ _)); exact BK32001.out) hb); have n1_ := Aside0.mk (below_step (by repeat (first | (with_reducible first | exact HB.out | apply below_alloc | apply pw_below_drewN | apply below_drew1 | refine below_set ?_ GE32001.out) | exact HB.out)) hb); clear BK32001; clear HB; have BK32001 := n0_; have HB := n1_; clear n0_ n1_; (try clear hb); (try clear hb2); (try clear hk); (try clear hi)))
    go_ret
    exact ⟨_, by first | rfl | (simp [errW_none, errW_some] <;> rfl) | (simp [*, errW_none, errW_some] <;> rfl), by first | exact Kd.R_nil _ _ _ _ _ | exact Kd.N_nil _ _ _ _ _ | exact Kd.V_nil _ _ _ _ _ | exact Kd.Q_nil _ _ _ _ _ | exact Kd.S_nil _ _ _ _ _, by repeat (first | (with_reducible first | exact HB.out | apply below_alloc | apply pw_below_drewN | apply below_drew1 | refine below_set ?_ GE32001.out) | exact HB.out)⟩

end Go.Proofs.YthfhbdncphkdaaaDoor.H

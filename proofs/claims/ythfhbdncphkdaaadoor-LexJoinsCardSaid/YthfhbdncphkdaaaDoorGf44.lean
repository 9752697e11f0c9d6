/- Printed by a program of this session (xprint.py, over the kit's printer): Go functions as Lean functions, each with the proof that the call does what the Lean function says. -/
import Derived.Test.YthfhbdncphkdaaaDoorG0
import Derived.Test.YthfhbdncphkdaaaDoorGa
namespace Go.Proofs.YthfhbdncphkdaaaDoor.G
open Go.RowKit Go.Proofs.YthfhbdncphkdaaaDoorW.PrintWords Go.Proofs.YthfhbdncphkdaaaDoorW.PrintLast Go.Proofs.YthfhbdncphkdaaaDoorW.PrintMore
attribute [local go_sem] max2_int min2_int max_two min_two max_three min_three max_four min_four   -- for this text's walks alone
attribute [local go_sem] xs_gtr xs_leq xs_geq
set_option linter.unusedVariables false
set_option linter.unusedSimpArgs false

/-! ### dataflowref07_one: function 44 -/
def dataflowref07_one.l0 : Nat → ByteArray → Int → Int → ByteArray → Int → Option (Int × Int × ByteArray × Int × Int)
  | 0, _, _, _, _, _ => none
  | k + 1, x0, x1, x6, x8, x9 => if x9 < (x8.size : Int) then (if 0 ≤ x9 then (if (bt x8 x9) = x6 then (if x6 = 58 then (if (wrap64 (x1 + 1)) < (x0.size : Int) then (if 0 ≤ (wrap64 (x1 + 1)) then (if (bt x0 (wrap64 (x1 + 1))) = x6 then (if 0 ≤ x1 then (if x1 ≤ (wrap64 (x1 + 2)) then (if (wrap64 (x1 + 2)) ≤ (x0.size : Int) then (some (4, x1, x0.extract (x1 : Int).toNat ((wrap64 (x1 + 2)) : Int).toNat, 0, 0)) else (none)) else (none)) else (none)) else (if 0 ≤ x1 then (if x1 ≤ (wrap64 (x1 + 1)) then (if (wrap64 (x1 + 1)) ≤ (x0.size : Int) then (some (4, x1, x0.extract (x1 : Int).toNat ((wrap64 (x1 + 1)) : Int).toNat, 0, 0)) else (none)) else (none)) else (none))) else (none)) else (if 0 ≤ x1 then (if x1 ≤ (wrap64 (x1 + 1)) then (if (wrap64 (x1 + 1)) ≤ (x0.size : Int) then (some (4, x1, x0.extract (x1 : Int).toNat ((wrap64 (x1 + 1)) : Int).toNat, 0, 0)) else (none)) else (none)) else (none))) else (if x6 = 61 then (if (wrap64 (x1 + 1)) < (x0.size : Int) then (if 0 ≤ (wrap64 (x1 + 1)) then (if (bt x0 (wrap64 (x1 + 1))) = x6 then (if 0 ≤ x1 then (if x1 ≤ (wrap64 (x1 + 2)) then (if (wrap64 (x1 + 2)) ≤ (x0.size : Int) then (some (4, x1, x0.extract (x1 : Int).toNat ((wrap64 (x1 + 2)) : Int).toNat, 0, 0)) else (none)) else (none)) else (none)) else (if 0 ≤ x1 then (if x1 ≤ (wrap64 (x1 + 1)) then (if (wrap64 (x1 + 1)) ≤ (x0.size : Int) then (some (4, x1, x0.extract (x1 : Int).toNat ((wrap64 (x1 + 1)) : Int).toNat, 0, 0)) else (none)) else (none)) else (none))) else (none)) else (if 0 ≤ x1 then (if x1 ≤ (wrap64 (x1 + 1)) then (if (wrap64 (x1 + 1)) ≤ (x0.size : Int) then (some (4, x1, x0.extract (x1 : Int).toNat ((wrap64 (x1 + 1)) : Int).toNat, 0, 0)) else (none)) else (none)) else (none))) else (if 0 ≤ x1 then (if x1 ≤ (wrap64 (x1 + 1)) then (if (wrap64 (x1 + 1)) ≤ (x0.size : Int) then (some (4, x1, x0.extract (x1 : Int).toNat ((wrap64 (x1 + 1)) : Int).toNat, 0, 0)) else (none)) else (none)) else (none)))) else (dataflowref07_one.l0 k x0 x1 x6 x8 (wrap64 (x9 + 1)))) else (none)) else (some (0, 0, (⟨#[]⟩ : ByteArray), 0, 2))
def dataflowref07_one.f (k : Nat) (a0 : ByteArray) (a1 : Int) : Option (Int × Int × ByteArray × Int × Int) := if 0 ≤ a1 then (if a1 < (a0.size : Int) then ((dataflowref07_letter.f (bt a0 a1)).bind fun t45002 => (if t45002 = true then ((dataflowref07_end.f k a0 a1).bind fun t45003 => (if a1 ≤ t45003 then (if t45003 ≤ (a0.size : Int) then (if ((a0.extract (a1 : Int).toNat (t45003 : Int).toNat).size : Int) > 32 then (some (0, 0, (⟨#[]⟩ : ByteArray), 0, 3)) else ((dataflowref07_Keyword.f k (a0.extract (a1 : Int).toNat (t45003 : Int).toNat)).bind fun t45004 => (if t45004 = true then (some (2, a1, a0.extract (a1 : Int).toNat (t45003 : Int).toNat, 0, 0)) else (some (1, a1, a0.extract (a1 : Int).toNat (t45003 : Int).toNat, 0, 0))))) else (none)) else (none))) else ((dataflowref07_digit.f (bt a0 a1)).bind fun t45005 => (if t45005 = true then ((dataflowref07_end.f k a0 a1).bind fun t45006 => ((dataflowref07_number.f k a0 a1 t45006).bind fun bt45007 => (some (bt45007.1, bt45007.2.1, bt45007.2.2.1, bt45007.2.2.2.1, bt45007.2.2.2.2)))) else (dataflowref07_one.l0 k a0 a1 (bt a0 a1) (⟨#[123, 125, 40, 41, 59, 44, 46, 60, 43, 45, 42, 58, 61]⟩ : ByteArray) 0))))) else (none)) else (none)
theorem dataflowref07_one.mono_l : ∀ k, (∀ y0 y1 y2 y3 y4, LeO (dataflowref07_one.l0 k y0 y1 y2 y3 y4) (dataflowref07_one.l0 (k + 1) y0 y1 y2 y3 y4))
  | 0 => fun _ _ _ _ _ r h => by simp [dataflowref07_one.l0] at h
  | k + 1 => by
    have ih0 := dataflowref07_one.mono_l k
    · intro y0 y1 y2 y3 y4
      unfold dataflowref07_one.l0
      repeat' first
      | (with_reducible exact ih0 _ _ _ _ _)
      | (with_reducible exact dataflowref07_Keyword.mono _ _)
      | (with_reducible exact dataflowref07_end.mono _ _ _)
      | (with_reducible exact dataflowref07_number.mono _ _ _ _)
      | (with_reducible exact LeO.refl _)
      | (with_reducible exact LeO.none _)
      | (with_reducible refine LeO.ite ?_ ?_)
      | (with_reducible refine LeO.bind ?_ (fun _ => ?_))
      | exact ih0 _ _ _ _ _
      | exact dataflowref07_Keyword.mono _ _
      | exact dataflowref07_end.mono _ _ _
      | exact dataflowref07_number.mono _ _ _ _
      | exact LeO.none _
      | refine LeO.ite ?_ ?_
      | refine LeO.bind ?_ (fun _ => ?_)
theorem dataflowref07_one.mono : ∀ a0 a1 k, LeO (dataflowref07_one.f k a0 a1) (dataflowref07_one.f (k + 1) a0 a1) := by
  intro a0 a1 k
  have ih0 := dataflowref07_one.mono_l k
  unfold dataflowref07_one.f
  repeat' first
      | (with_reducible exact ih0 _ _ _ _ _)
      | (with_reducible exact dataflowref07_Keyword.mono _ _)
      | (with_reducible exact dataflowref07_end.mono _ _ _)
      | (with_reducible exact dataflowref07_number.mono _ _ _ _)
      | (with_reducible exact LeO.refl _)
      | (with_reducible exact LeO.none _)
      | (with_reducible refine LeO.ite ?_ ?_)
      | (with_reducible refine LeO.bind ?_ (fun _ => ?_))
      | exact ih0 _ _ _ _ _
      | exact dataflowref07_Keyword.mono _ _
      | exact dataflowref07_end.mono _ _ _
      | exact dataflowref07_number.mono _ _ _ _
      | exact LeO.none _
      | refine LeO.ite ?_ ?_
      | refine LeO.bind ?_ (fun _ => ?_)
set_option maxHeartbeats 8000000 in
set_option maxRecDepth 100000 in
theorem dataflowref07_one.calls (k : Nat) (a0 : ByteArray) (a1 : Int) (r1 : Int) (r2 : Int) (r3 : ByteArray) (r4 : Int) (r5 : Int) (w : World) (h : dataflowref07_one.f k a0 a1 = some (r1, r2, r3, r4, r5)) :
    Calls Tryd.prog 44 #[.string a0, .int .i64 a1] w fun e w' => e = .returned (.tuple #[.agg #[.int .i64 r1, .int .i64 r2, .string r3, .int .i64 r4], .int .i64 r5]) ∧ Below w.heap.size w w' := by
  have hu30 := Tryd.underlying30
  have HB := Aside0.mk (Below.refl w.heap.size w)
  have H : (if 0 ≤ a1 then (if a1 < (a0.size : Int) then ((dataflowref07_letter.f (bt a0 a1)).bind fun t45002 => (if t45002 = true then ((dataflowref07_end.f k a0 a1).bind fun t45003 => (if a1 ≤ t45003 then (if t45003 ≤ (a0.size : Int) then (if ((a0.extract (a1 : Int).toNat (t45003 : Int).toNat).size : Int) > 32 then (some (0, 0, (⟨#[]⟩ : ByteArray), 0, 3)) else ((dataflowref07_Keyword.f k (a0.extract (a1 : Int).toNat (t45003 : Int).toNat)).bind fun t45004 => (if t45004 = true then (some (2, a1, a0.extract (a1 : Int).toNat (t45003 : Int).toNat, 0, 0)) else (some (1, a1, a0.extract (a1 : Int).toNat (t45003 : Int).toNat, 0, 0))))) else (none)) else (none))) else ((dataflowref07_digit.f (bt a0 a1)).bind fun t45005 => (if t45005 = true then ((dataflowref07_end.f k a0 a1).bind fun t45006 => ((dataflowref07_number.f k a0 a1 t45006).bind fun bt45007 => (some (bt45007.1, bt45007.2.1, bt45007.2.2.1, bt45007.2.2.2.1, bt45007.2.2.2.2)))) else (dataflowref07_one.l0 k a0 a1 (bt a0 a1) (⟨#[123, 125, 40, 41, 59, 44, 46, 60, 43, 45, 42, 58, 61]⟩ : ByteArray) 0))))) else (none)) else (none)) = some (r1, r2, r3, r4, r5) := h
  clear h
  by_cases c3 : 0 ≤ a1
  · rw [if_pos c3] at H
    have c3b0 : decide (0 ≤ a1) = true := decide_eq_true c3
    clear c3
    by_cases c4 : a1 < (a0.size : Int)
    · rw [if_pos c4] at H
      have c4b0 : decide (a1 < (a0.size : Int)) = true := decide_eq_true c4
      clear c4
      replace H := Option.bind_eq_some_iff.mp H
      obtain ⟨t45002, A60, H⟩ := H
      replace H : (if t45002 = true then ((dataflowref07_end.f k a0 a1).bind fun t45003 => (if a1 ≤ t45003 then (if t45003 ≤ (a0.size : Int) then (if ((a0.extract (a1 : Int).toNat (t45003 : Int).toNat).size : Int) > 32 then (some (0, 0, (⟨#[]⟩ : ByteArray), 0, 3)) else ((dataflowref07_Keyword.f k (a0.extract (a1 : Int).toNat (t45003 : Int).toNat)).bind fun t45004 => (if t45004 = true then (some (2, a1, a0.extract (a1 : Int).toNat (t45003 : Int).toNat, 0, 0)) else (some (1, a1, a0.extract (a1 : Int).toNat (t45003 : Int).toNat, 0, 0))))) else (none)) else (none))) else ((dataflowref07_digit.f (bt a0 a1)).bind fun t45005 => (if t45005 = true then ((dataflowref07_end.f k a0 a1).bind fun t45006 => ((dataflowref07_number.f k a0 a1 t45006).bind fun bt45007 => (some (bt45007.1, bt45007.2.1, bt45007.2.2.1, bt45007.2.2.2.1, bt45007.2.2.2.2)))) else (dataflowref07_one.l0 k a0 a1 (bt a0 a1) (⟨#[123, 125, 40, 41, 59, 44, 46, 60, 43, 45, 42, 58, 61]⟩ : ByteArray) 0)))) = some (r1, r2, r3, r4, r5) := H
      have A6 := Aside0.mk A60
      clear A60
      by_cases c7 : t45002 = true
      · subst c7
        have H1 : ((dataflowref07_end.f k a0 a1).bind fun t45003 => (if a1 ≤ t45003 then (if t45003 ≤ (a0.size : Int) then (if ((a0.extract (a1 : Int).toNat (t45003 : Int).toNat).size : Int) > 32 then (some (0, 0, (⟨#[]⟩ : ByteArray), 0, 3)) else ((dataflowref07_Keyword.f k (a0.extract (a1 : Int).toNat (t45003 : Int).toNat)).bind fun t45004 => (if t45004 = true then (some (2, a1, a0.extract (a1 : Int).toNat (t45003 : Int).toNat, 0, 0)) else (some (1, a1, a0.extract (a1 : Int).toNat (t45003 : Int).toNat, 0, 0))))) else (none)) else (none))) = some (r1, r2, r3, r4, r5) := by rw [if_pos rfl] at H; exact H
        clear H
        have H := H1
        clear H1
        replace H := Option.bind_eq_some_iff.mp H
        obtain ⟨t45003, A80, H⟩ := H
        replace H : (if a1 ≤ t45003 then (if t45003 ≤ (a0.size : Int) then (if ((a0.extract (a1 : Int).toNat (t45003 : Int).toNat).size : Int) > 32 then (some (0, 0, (⟨#[]⟩ : ByteArray), 0, 3)) else ((dataflowref07_Keyword.f k (a0.extract (a1 : Int).toNat (t45003 : Int).toNat)).bind fun t45004 => (if t45004 = true then (some (2, a1, a0.extract (a1 : Int).toNat (t45003 : Int).toNat, 0, 0)) else (some (1, a1, a0.extract (a1 : Int).toNat (t45003 : Int).toNat, 0, 0))))) else (none)) else (none)) = some (r1, r2, r3, r4, r5) := H
        have A8 := Aside0.mk A80
        clear A80
        have c9b0 := eq_true (of_decide_eq_true (by first | (with_reducible assumption) | assumption) : 0 ≤ a1)
        by_cases c10 : a1 ≤ t45003
        · rw [if_pos c10] at H
          have c10b0 := eq_true c10
          have c10b1 : decide (a1 ≤ t45003) = true := decide_eq_true c10
          clear c10
          by_cases c11 : t45003 ≤ (a0.size : Int)
          · rw [if_pos c11] at H
            have c11b0 := eq_true c11
            have c11b1 : decide (t45003 ≤ (a0.size : Int)) = true := decide_eq_true c11
            clear c11
            by_cases c12 : ((a0.extract (a1 : Int).toNat (t45003 : Int).toNat).size : Int) > 32
            · rw [if_pos c12] at H
              have c12b0 : decide (32 < ((a0.extract (a1 : Int).toNat (t45003 : Int).toNat).size : Int)) = true := decide_eq_true c12
              have c12b1 : decide (32 < (a0.extract (a1 : Int).toNat (t45003 : Int).toNat).size) = true := decide_eq_true (by omega)
              try have c12b7 : decide ((32 : Int) < ((t45003.toNat - a1.toNat : Nat) : Int)) = true := by (have z_ := c12b1; simp only [decide_eq_true_eq, decide_eq_false_iff_not, ByteArray.size_extract] at *; omega)
              clear c12
              simp only [Option.some.injEq, Prod.mk.injEq] at H
              obtain ⟨rfl, rfl, rfl, rfl, rfl⟩ := H
              go_enter Tryd.func44, Tryd.ntmps44
              go_wp2_with (first | ((with_reducible refine gate_dst (N := 4) rfl ?_); (try (refine gate_guard (by rfl) ?_; dsimp only)); refine box_event ?hg (N := 4) ?hd (cs := #[.int .i64 0, .int .i64 0, .string (⟨#[]⟩ : ByteArray), .int .i64 0]) (t := 30) ?hr ?_; (case hd => rfl); (case hg => rfl); (case hr => first | (go_simp; done) | (go_simp; rfl)); intro gb45001 hg w13 hbox hb; have n0_ := Aside0.mk (below_step (by repeat (first | (with_reducible first | exact HB.out | apply below_alloc | apply pw_below_drewN | apply below_drew1) | exact HB.out)) hb); have n1_ := Aside0.mk (hbox); have n2_ := Aside0.mk ((by rw [hg]; exact (below_size (by repeat (first | (with_reducible first | exact HB.out | apply below_alloc | apply pw_below_drewN | apply below_drew1) | exact HB.out))) : w.heap.size ≤ gb45001)); have n3_ := Aside0.mk ((by rw [hg]; exact (below_size (by repeat (first | (with_reducible first | exact HB.out | apply below_alloc | apply pw_below_drewN | apply below_drew1) | exact HB.out))) : w.heap.size ≤ gb45001)); clear HB; have HB := n0_; have BK45001 := n1_; have GW45001 := n2_; have GE45001 := n3_; clear n0_ n1_ n2_ n3_; clear hb hbox hg; have p5 : 0 ≤ (a1 : Int) := of_decide_eq_true (by first | (with_reducible assumption) | assumption); have q5 : a1 < (a0.size : Int) := of_decide_eq_true (by first | (with_reducible assumption) | assumption); have hx5 := bt_at a0 a1; replace p5 := eq_true p5; replace q5 := eq_true q5) | ((with_reducible refine gate_callee (f := 47) rfl ?_); refine goesL_ (some 15) rfl rfl Tryd.func47 (by kernel_rfl) rfl #[.int .u8 (bt a0 a1)] rfl (by (try simp only [List.map_toArray, List.map_cons, List.map_nil]); first | done | rfl | (simp only [List.length_drop, List.length_take]; rfl)) ?_; (with_reducible refine (dataflowref07_letter.calls (bt a0 a1) true _ A6.out).mono ?_); rintro e w' ⟨rfl, ⟨nd, rfl⟩⟩; refine ⟨_, rfl, ?_⟩; (try (rw [drewN_self w13]; generalize hq_ : World.drewN w13 _ = w13; have n0_ : Aside0 (w13.heap[gb45001]? = some (.cells #[.int .i64 0, .int .i64 0, .string (⟨#[]⟩ : ByteArray), .int .i64 0] 30 (0, 0))) := ⟨by rw [← hq_]; exact (by (with_reducible repeat (first | refine blk_drewN ?_ _ | refine blk_drew ?_ | refine blk_alloc ?_ _)); exact BK45001.out)⟩; have n1_ : Aside0 (Below w.heap.size w w13) := ⟨by rw [← hq_]; exact (by repeat (first | (with_reducible first | exact HB.out | apply below_alloc | apply pw_below_drewN | apply below_drew1 | refine below_set ?_ GE45001.out) | exact HB.out))⟩; clear BK45001 HB hq_; have BK45001 := n0_; have HB := n1_; clear n0_ n1_))) | ((with_reducible refine gate_callee (f := 74) rfl ?_); refine goesL_ (some 20) rfl rfl Tryd.func74 (by kernel_rfl) rfl #[.string a0, .int .i64 a1] rfl (by (try simp only [List.map_toArray, List.map_cons, List.map_nil]); first | done | rfl | (simp only [List.length_drop, List.length_take]; rfl)) ?_; (with_reducible refine (dataflowref07_end.calls k a0 a1 t45003 _ A8.out).mono ?_); rintro e w' ⟨rfl, ⟨nd, rfl⟩⟩; refine ⟨_, rfl, ?_⟩; (try (rw [drewN_self w13]; generalize hq_ : World.drewN w13 _ = w13; have n0_ : Aside0 (w13.heap[gb45001]? = some (.cells #[.int .i64 0, .int .i64 0, .string (⟨#[]⟩ : ByteArray), .int .i64 0] 30 (0, 0))) := ⟨by rw [← hq_]; exact (by (with_reducible repeat (first | refine blk_drewN ?_ _ | refine blk_drew ?_ | refine blk_alloc ?_ _)); exact BK45001.out)⟩; have n1_ : Aside0 (Below w.heap.size w w13) := ⟨by rw [← hq_]; exact (by repeat (first | (with_reducible first | exact HB.out | apply below_alloc | apply pw_below_drewN | apply below_drew1 | refine below_set ?_ GE45001.out) | exact HB.out))⟩; clear BK45001 HB hq_; have BK45001 := n0_; have HB := n1_; clear n0_ n1_)); have hcz14_0 : w13.cell? ⟨gb45001, 0, none⟩ = some (.int .i64 0) := (blk_cell BK45001.out 0).trans rfl; have hcz14_1 : w13.cell? ⟨gb45001, 1, none⟩ = some (.int .i64 0) := (blk_cell BK45001.out 1).trans rfl; have hcz14_2 : w13.cell? ⟨gb45001, 2, none⟩ = some (.string (⟨#[]⟩ : ByteArray)) := (blk_cell BK45001.out 2).trans rfl; have hcz14_3 : w13.cell? ⟨gb45001, 3, none⟩ = some (.int .i64 0) := (blk_cell BK45001.out 3).trans rfl; have hfz14_0 := blk_frozen BK45001.out 0; have hfz14_1 := blk_frozen BK45001.out 1; have hfz14_2 := blk_frozen BK45001.out 2; have hfz14_3 := blk_frozen BK45001.out 3))
              refine bodyPost_ret (results_ct rfl _ _ gb45001 30 #[.int .i64 0, .int .i64 0, .string (⟨#[]⟩ : ByteArray), .int .i64 0] (0, 0) _ rfl (by (with_reducible repeat (first | refine blk_drewN ?_ _ | refine blk_drew ?_ | refine blk_alloc ?_ _)); refine blk_put (cs := #[.int .i64 0, .int .i64 0, .string (⟨#[]⟩ : ByteArray), .int .i64 0]) ?_ 3 _ rfl; (with_reducible repeat (first | refine blk_drewN ?_ _ | refine blk_drew ?_ | refine blk_alloc ?_ _)); refine blk_put (cs := #[.int .i64 0, .int .i64 0, .string (⟨#[]⟩ : ByteArray), .int .i64 0]) ?_ 2 _ rfl; (with_reducible repeat (first | refine blk_drewN ?_ _ | refine blk_drew ?_ | refine blk_alloc ?_ _)); refine blk_put (cs := #[.int .i64 0, .int .i64 0, .string (⟨#[]⟩ : ByteArray), .int .i64 0]) ?_ 1 _ rfl; (with_reducible repeat (first | refine blk_drewN ?_ _ | refine blk_drew ?_ | refine blk_alloc ?_ _)); refine blk_put (cs := #[.int .i64 0, .int .i64 0, .string (⟨#[]⟩ : ByteArray), .int .i64 0]) ?_ 0 _ rfl; (with_reducible repeat (first | refine blk_drewN ?_ _ | refine blk_drew ?_ | refine blk_alloc ?_ _)); exact BK45001.out) Tryd.underlying30 rfl (by kernel_rfl)) rfl ?_
              exact ⟨by first | rfl | (simp [errW_none, errW_some] <;> rfl) | (simp [*, errW_none, errW_some] <;> rfl), by repeat (first | (with_reducible first | exact HB.out | apply below_alloc | apply pw_below_drewN | apply below_drew1 | refine below_set ?_ GE45001.out) | exact HB.out)⟩
            · rw [if_neg c12] at H
              have c12b0 : decide (32 < ((a0.extract (a1 : Int).toNat (t45003 : Int).toNat).size : Int)) = false := decide_eq_false c12
              have c12b1 : decide (32 < (a0.extract (a1 : Int).toNat (t45003 : Int).toNat).size) = false := decide_eq_false (by omega)
              try have c12b7 : decide ((32 : Int) < ((t45003.toNat - a1.toNat : Nat) : Int)) = false := by (have z_ := c12b1; simp only [decide_eq_true_eq, decide_eq_false_iff_not, ByteArray.size_extract] at *; omega)
              clear c12
              replace H := Option.bind_eq_some_iff.mp H
              obtain ⟨t45004, A150, H⟩ := H
              replace H : (if t45004 = true then (some (2, a1, a0.extract (a1 : Int).toNat (t45003 : Int).toNat, 0, 0)) else (some (1, a1, a0.extract (a1 : Int).toNat (t45003 : Int).toNat, 0, 0))) = some (r1, r2, r3, r4, r5) := H
              have A15 := Aside0.mk A150
              clear A150
              by_cases c16 : t45004 = true
              · subst c16
                have H1 : (some (2, a1, a0.extract (a1 : Int).toNat (t45003 : Int).toNat, 0, 0)) = some (r1, r2, r3, r4, r5) := by rw [if_pos rfl] at H; exact H
                clear H
                have H := H1
                clear H1
                simp only [Option.some.injEq, Prod.mk.injEq] at H
                obtain ⟨rfl, rfl, rfl, rfl, rfl⟩ := H
                go_enter Tryd.func44, Tryd.ntmps44
                go_wp2_with (first | ((with_reducible refine gate_dst (N := 4) rfl ?_); (try (refine gate_guard (by rfl) ?_; dsimp only)); refine box_event ?hg (N := 4) ?hd (cs := #[.int .i64 0, .int .i64 0, .string (⟨#[]⟩ : ByteArray), .int .i64 0]) (t := 30) ?hr ?_; (case hd => rfl); (case hg => rfl); (case hr => first | (go_simp; done) | (go_simp; rfl)); intro gb45001 hg w17 hbox hb; have n0_ := Aside0.mk (below_step (by repeat (first | (with_reducible first | exact HB.out | apply below_alloc | apply pw_below_drewN | apply below_drew1) | exact HB.out)) hb); have n1_ := Aside0.mk (hbox); have n2_ := Aside0.mk ((by rw [hg]; exact (below_size (by repeat (first | (with_reducible first | exact HB.out | apply below_alloc | apply pw_below_drewN | apply below_drew1) | exact HB.out))) : w.heap.size ≤ gb45001)); have n3_ := Aside0.mk ((by rw [hg]; exact (below_size (by repeat (first | (with_reducible first | exact HB.out | apply below_alloc | apply pw_below_drewN | apply below_drew1) | exact HB.out))) : w.heap.size ≤ gb45001)); clear HB; have HB := n0_; have BK45001 := n1_; have GW45001 := n2_; have GE45001 := n3_; clear n0_ n1_ n2_ n3_; clear hb hbox hg; have p5 : 0 ≤ (a1 : Int) := of_decide_eq_true (by first | (with_reducible assumption) | assumption); have q5 : a1 < (a0.size : Int) := of_decide_eq_true (by first | (with_reducible assumption) | assumption); have hx5 := bt_at a0 a1; replace p5 := eq_true p5; replace q5 := eq_true q5) | ((with_reducible refine gate_callee (f := 47) rfl ?_); refine goesL_ (some 15) rfl rfl Tryd.func47 (by kernel_rfl) rfl #[.int .u8 (bt a0 a1)] rfl (by (try simp only [List.map_toArray, List.map_cons, List.map_nil]); first | done | rfl | (simp only [List.length_drop, List.length_take]; rfl)) ?_; (with_reducible refine (dataflowref07_letter.calls (bt a0 a1) true _ A6.out).mono ?_); rintro e w' ⟨rfl, ⟨nd, rfl⟩⟩; refine ⟨_, rfl, ?_⟩; (try (rw [drewN_self w17]; generalize hq_ : World.drewN w17 _ = w17; have n0_ : Aside0 (w17.heap[gb45001]? = some (.cells #[.int .i64 0, .int .i64 0, .string (⟨#[]⟩ : ByteArray), .int .i64 0] 30 (0, 0))) := ⟨by rw [← hq_]; exact (by (with_reducible repeat (first | refine blk_drewN ?_ _ | refine blk_drew ?_ | refine blk_alloc ?_ _)); exact BK45001.out)⟩; have n1_ : Aside0 (Below w.heap.size w w17) := ⟨by rw [← hq_]; exact (by repeat (first | (with_reducible first | exact HB.out | apply below_alloc | apply pw_below_drewN | apply below_drew1 | refine below_set ?_ GE45001.out) | exact HB.out))⟩; clear BK45001 HB hq_; have BK45001 := n0_; have HB := n1_; clear n0_ n1_))) | ((with_reducible refine gate_callee (f := 74) rfl ?_); refine goesL_ (some 20) rfl rfl Tryd.func74 (by kernel_rfl) rfl #[.string a0, .int .i64 a1] rfl (by (try simp only [List.map_toArray, List.map_cons, List.map_nil]); first | done | rfl | (simp only [List.length_drop, List.length_take]; rfl)) ?_; (with_reducible refine (dataflowref07_end.calls k a0 a1 t45003 _ A8.out).mono ?_); rintro e w' ⟨rfl, ⟨nd, rfl⟩⟩; refine ⟨_, rfl, ?_⟩; (try (rw [drewN_self w17]; generalize hq_ : World.drewN w17 _ = w17; have n0_ : Aside0 (w17.heap[gb45001]? = some (.cells #[.int .i64 0, .int .i64 0, .string (⟨#[]⟩ : ByteArray), .int .i64 0] 30 (0, 0))) := ⟨by rw [← hq_]; exact (by (with_reducible repeat (first | refine blk_drewN ?_ _ | refine blk_drew ?_ | refine blk_alloc ?_ _)); exact BK45001.out)⟩; have n1_ : Aside0 (Below w.heap.size w w17) := ⟨by rw [← hq_]; exact (by repeat (first | (with_reducible first | exact HB.out | apply below_alloc | apply pw_below_drewN | apply below_drew1 | refine below_set ?_ GE45001.out) | exact HB.out))⟩; clear BK45001 HB hq_; have BK45001 := n0_; have HB := n1_; clear n0_ n1_))) | ((with_reducible refine gate_callee (f := 20) rfl ?_); refine goesL_ (some 27) rfl rfl Tryd.func20 (by kernel_rfl) rfl #[.string (a0.extract (a1 : Int).toNat (t45003 : Int).toNat)] rfl (by (try simp only [List.map_toArray, List.map_cons, List.map_nil]); first | done | rfl | (simp only [List.length_drop, List.length_take]; rfl)) ?_; (with_reducible refine (dataflowref07_Keyword.calls k (a0.extract (a1 : Int).toNat (t45003 : Int).toNat) true _ A15.out).mono ?_); rintro e w18 ⟨rfl, hb⟩; refine ⟨_, rfl, ?_⟩; have n0_ := Aside0.mk (blk_below (g := gb45001) (o := .cells #[.int .i64 0, .int .i64 0, .string (⟨#[]⟩ : ByteArray), .int .i64 0] 30 (0, 0)) (by (with_reducible repeat (first | refine blk_drewN ?_ _ | refine blk_drew ?_ | refine blk_alloc ?_ _)); exact BK45001.out) hb); have n1_ := Aside0.mk (below_step (by repeat (first | (with_reducible first | exact HB.out | apply below_alloc | apply pw_below_drewN | apply below_drew1 | refine below_set ?_ GE45001.out) | exact HB.out)) hb); clear BK45001; clear HB; have BK45001 := n0_; have HB := n1_; clear n0_ n1_; (try clear hb); (try clear hb2); (try clear hk); (try clear hi); have hcz19_0 : w18.cell? ⟨gb45001, 0, none⟩ = some (.int .i64 0) := (blk_cell BK45001.out 0).trans rfl; have hcz19_1 : w18.cell? ⟨gb45001, 1, none⟩ = some (.int .i64 0) := (blk_cell BK45001.out 1).trans rfl; have hcz19_2 : w18.cell? ⟨gb45001, 2, none⟩ = some (.string (⟨#[]⟩ : ByteArray)) := (blk_cell BK45001.out 2).trans rfl; have hcz19_3 : w18.cell? ⟨gb45001, 3, none⟩ = some (.int .i64 0) := (blk_cell BK45001.out 3).trans rfl; have hfz19_0 := blk_frozen BK45001.out 0; have hfz19_1 := blk_frozen BK45001.out 1; have hfz19_2 := blk_frozen BK45001.out 2; have hfz19_3 := blk_frozen BK45001.out 3))
                refine bodyPost_ret (results_ct rfl _ _ gb45001 30 #[.int .i64 2, .int .i64 a1, .string (a0.extract (a1 : Int).toNat (t45003 : Int).toNat), .int .i64 0] (0, 0) _ rfl (by (with_reducible repeat (first | refine blk_drewN ?_ _ | refine blk_drew ?_ | refine blk_alloc ?_ _)); refine blk_put (cs := #[.int .i64 2, .int .i64 a1, .string (a0.extract (a1 : Int).toNat (t45003 : Int).toNat), .int .i64 0]) ?_ 3 _ rfl; (with_reducible repeat (first | refine blk_drewN ?_ _ | refine blk_drew ?_ | refine blk_alloc ?_ _)); refine blk_put (cs := #[.int .i64 2, .int .i64 a1, .string (⟨#[]⟩ : ByteArray), .int .i64 0]) ?_ 2 _ rfl; (with_reducible repeat (first | refine blk_drewN ?_ _ | refine blk_drew ?_ | refine blk_alloc ?_ _)); refine blk_put (cs := #[.int .i64 2, .int .i64 0, .string (⟨#[]⟩ : ByteArray), .int .i64 0]) ?_ 1 _ rfl; (with_reducible repeat (first | refine blk_drewN ?_ _ | refine blk_drew ?_ | refine blk_alloc ?_ _)); refine blk_put (cs := #[.int .i64 0, .int .i64 0, .string (⟨#[]⟩ : ByteArray), .int .i64 0]) ?_ 0 _ rfl; (with_reducible repeat (first | refine blk_drewN ?_ _ | refine blk_drew ?_ | refine blk_alloc ?_ _)); exact BK45001.out) Tryd.underlying30 rfl (by kernel_rfl)) rfl ?_
                exact ⟨by first | rfl | (simp [errW_none, errW_some] <;> rfl) | (simp [*, errW_none, errW_some] <;> rfl), by repeat (first | (with_reducible first | exact HB.out | apply below_alloc | apply pw_below_drewN | apply below_drew1 | refine below_set ?_ GE45001.out) | exact HB.out)⟩
              · replace c16 := Bool.eq_false_iff.mpr c16
                subst c16
                have H1 : (some (1, a1, a0.extract (a1 : Int).toNat (t45003 : Int).toNat, 0, 0)) = some (r1, r2, r3, r4, r5) := by rw [if_neg (show ¬ (false = true) by decide)] at H; exact H
                clear H
                have H := H1
                clear H1
                simp only [Option.some.injEq, Prod.mk.injEq] at H
                obtain ⟨rfl, rfl, rfl, rfl, rfl⟩ := H
                go_enter Tryd.func44, Tryd.ntmps44
                go_wp2_with (first | ((with_reducible refine gate_dst (N := 4) rfl ?_); (try (refine gate_guard (by rfl) ?_; dsimp only)); refine box_event ?hg (N := 4) ?hd (cs := #[.int .i64 0, .int .i64 0, .string (⟨#[]⟩ : ByteArray), .int .i64 0]) (t := 30) ?hr ?_; (case hd => rfl); (case hg => rfl); (case hr => first | (go_simp; done) | (go_simp; rfl)); intro gb45001 hg w20 hbox hb; have n0_ := Aside0.mk (below_step (by repeat (first | (with_reducible first | exact HB.out | apply below_alloc | apply pw_below_drewN | apply below_drew1) | exact HB.out)) hb); have n1_ := Aside0.mk (hbox); have n2_ := Aside0.mk ((by rw [hg]; exact (below_size (by repeat (first | (with_reducible first | exact HB.out | apply below_alloc | apply pw_below_drewN | apply below_drew1) | exact HB.out))) : w.heap.size ≤ gb45001)); have n3_ := Aside0.mk ((by rw [hg]; exact (below_size (by repeat (first | (with_reducible first | exact HB.out | apply below_alloc | apply pw_below_drewN | apply below_drew1) | exact HB.out))) : w.heap.size ≤ gb45001)); clear HB; have HB := n0_; have BK45001 := n1_; have GW45001 := n2_; have GE45001 := n3_; clear n0_ n1_ n2_ n3_; clear hb hbox hg; have p5 : 0 ≤ (a1 : Int) := of_decide_eq_true (by first | (with_reducible assumption) | assumption); have q5 : a1 < (a0.size : Int) := of_decide_eq_true (by first | (with_reducible assumption) | assumption); have hx5 := bt_at a0 a1; replace p5 := eq_true p5; replace q5 := eq_true q5) | ((with_reducible refine gate_callee (f := 47) rfl ?_); refine goesL_ (some 15) rfl rfl Tryd.func47 (by kernel_rfl) rfl #[.int .u8 (bt a0 a1)] rfl (by (try simp only [List.map_toArray, List.map_cons, List.map_nil]); first | done | rfl | (simp only [List.length_drop, List.length_take]; rfl)) ?_; (with_reducible refine (dataflowref07_letter.calls (bt a0 a1) true _ A6.out).mono ?_); rintro e w' ⟨rfl, ⟨nd, rfl⟩⟩; refine ⟨_, rfl, ?_⟩; (try (rw [drewN_self w20]; generalize hq_ : World.drewN w20 _ = w20; have n0_ : Aside0 (w20.heap[gb45001]? = some (.cells #[.int .i64 0, .int .i64 0, .string (⟨#[]⟩ : ByteArray), .int .i64 0] 30 (0, 0))) := ⟨by rw [← hq_]; exact (by (with_reducible repeat (first | refine blk_drewN ?_ _ | refine blk_drew ?_ | refine blk_alloc ?_ _)); exact BK45001.out)⟩; have n1_ : Aside0 (Below w.heap.size w w20) := ⟨by rw [← hq_]; exact (by repeat (first | (with_reducible first | exact HB.out | apply below_alloc | apply pw_below_drewN | apply below_drew1 | refine below_set ?_ GE45001.out) | exact HB.out))⟩; clear BK45001 HB hq_; have BK45001 := n0_; have HB := n1_; clear n0_ n1_))) | ((with_reducible refine gate_callee (f := 74) rfl ?_); refine goesL_ (some 20) rfl rfl Tryd.func74 (by kernel_rfl) rfl #[.string a0, .int .i64 a1] rfl (by (try simp only [List.map_toArray, List.map_cons, List.map_nil]); first | done | rfl | (simp only [List.length_drop, List.length_take]; rfl)) ?_; (with_reducible refine (dataflowref07_end.calls k a0 a1 t45003 _ A8.out).mono ?_); rintro e w' ⟨rfl, ⟨nd, rfl⟩⟩; refine ⟨_, rfl, ?_⟩; (try (rw [drewN_self w20]; generalize hq_ : World.drewN w20 _ = w20; have n0_ : Aside0 (w20.heap[gb45001]? = some (.cells #[.int .i64 0, .int .i64 0, .string (⟨#[]⟩ : ByteArray), .int .i64 0] 30 (0, 0))) := ⟨by rw [← hq_]; exact (by (with_reducible repeat (first | refine blk_drewN ?_ _ | refine blk_drew ?_ | refine blk_alloc ?_ _)); exact BK45001.out)⟩; have n1_ : Aside0 (Below w.heap.size w w20) := ⟨by rw [← hq_]; exact (by repeat (first | (with_reducible first | exact HB.out | apply below_alloc | apply pw_below_drewN | apply below_drew1 | refine below_set ?_ GE45001.out) | exact HB.out))⟩; clear BK45001 HB hq_; have BK45001 := n0_; have HB := n1_; clear n0_ n1_))) | ((with_reducible refine gate_callee (f := 20) rfl ?_); refine goesL_ (some 27) rfl rfl Tryd.func20 (by kernel_rfl) rfl #[.string (a0.extract (a1 : Int).toNat (t45003 : Int).toNat)] rfl (by (try simp only [List.map_toArray, List.map_cons, List.map_nil]); first | done | rfl | (simp only [List.length_drop, List.length_take]; rfl)) ?_; (with_reducible refine (dataflowref07_Keyword.calls k (a0.extract (a1 : Int).toNat (t45003 : Int).toNat) false _ A15.out).mono ?_); rintro e w21 ⟨rfl, hb⟩; refine ⟨_, rfl, ?_⟩; have n0_ := Aside0.mk (blk_below (g := gb45001) (o := .cells #[.int .i64 0, .int .i64 0, .string (⟨#[]⟩ : ByteArray), .int .i64 0] 30 (0, 0)) (by (with_reducible repeat (first | refine blk_drewN ?_ _ | refine blk_drew ?_ | refine blk_alloc ?_ _)); exact BK45001.out) hb); have n1_ := Aside0.mk (below_step (by repeat (first | (with_reducible first | exact HB.out | apply below_alloc | apply pw_below_drewN | apply below_drew1 | refine below_set ?_ GE45001.out) | exact HB.out)) hb); clear BK45001; clear HB; have BK45001 := n0_; have HB := n1_; clear n0_ n1_; (try clear hb); (try clear hb2); (try clear hk); (try clear hi); have hcz22_0 : w21.cell? ⟨gb45001, 0, none⟩ = some (.int .i64 0) := (blk_cell BK45001.out 0).trans rfl; have hcz22_1 : w21.cell? ⟨gb45001, 1, none⟩ = some (.int .i64 0) := (blk_cell BK45001.out 1).trans rfl; have hcz22_2 : w21.cell? ⟨gb45001, 2, none⟩ = some (.string (⟨#[]⟩ : ByteArray)) := (blk_cell BK45001.out 2).trans rfl; have hcz22_3 : w21.cell? ⟨gb45001, 3, none⟩ = some (.int .i64 0) := (blk_cell BK45001.out 3).trans rfl; have hfz22_0 := blk_frozen BK45001.out 0; have hfz22_1 := blk_frozen BK45001.out 1; have hfz22_2 := blk_frozen BK45001.out 2; have hfz22_3 := blk_frozen BK45001.out 3))
                refine bodyPost_ret (results_ct rfl _ _ gb45001 30 #[.int .i64 1, .int .i64 a1, .string (a0.extract (a1 : Int).toNat (t45003 : Int).toNat), .int .i64 0] (0, 0) _ rfl (by (with_reducible repeat (first | refine blk_drewN ?_ _ | refine blk_drew ?_ | refine blk_alloc ?_ _)); refine blk_put (cs := #[.int .i64 1, .int .i64 a1, .string (a0.extract (a1 : Int).toNat (t45003 : Int).toNat), .int .i64 0]) ?_ 3 _ rfl; (with_reducible repeat (first | refine blk_drewN ?_ _ | refine blk_drew ?_ | refine blk_alloc ?_ _)); refine blk_put (cs := #[.int .i64 1, .int .i64 a1, .string (⟨#[]⟩ : ByteArray), .int .i64 0]) ?_ 2 _ rfl; (with_reducible repeat (first | refine blk_drewN ?_ _ | refine blk_drew ?_ | refine blk_alloc ?_ _)); refine blk_put (cs := #[.int .i64 1, .int .i64 0, .string (⟨#[]⟩ : ByteArray), .int .i64 0]) ?_ 1 _ rfl; (with_reducible repeat (first | refine blk_drewN ?_ _ | refine blk_drew ?_ | refine blk_alloc ?_ _)); refine blk_put (cs := #[.int .i64 0, .int .i64 0, .string (⟨#[]⟩ : ByteArray), .int .i64 0]) ?_ 0 _ rfl; (with_reducible repeat (first | refine blk_drewN ?_ _ | refine blk_drew ?_ | refine blk_alloc ?_ _)); exact BK45001.out) Tryd.underlying30 rfl (by kernel_rfl)) rfl ?_
                exact ⟨by first | rfl | (simp [errW_none, errW_some] <;> rfl) | (simp [*, errW_none, errW_some] <;> rfl), by repeat (first | (with_reducible first | exact HB.out | apply below_alloc | apply pw_below_drewN | apply below_drew1 | refine below_set ?_ GE45001.out) | exact HB.out)⟩
          · rw [if_neg c11] at H
            exact absurd H (by simp)
        · rw [if_neg c10] at H
          exact absurd H (by simp)
      · replace c7 := Bool.eq_false_iff.mpr c7
        subst c7
        have H1 : ((dataflowref07_digit.f (bt a0 a1)).bind fun t45005 => (if t45005 = true then ((dataflowref07_end.f k a0 a1).bind fun t45006 => ((dataflowref07_number.f k a0 a1 t45006).bind fun bt45007 => (some (bt45007.1, bt45007.2.1, bt45007.2.2.1, bt45007.2.2.2.1, bt45007.2.2.2.2)))) else (dataflowref07_one.l0 k a0 a1 (bt a0 a1) (⟨#[123, 125, 40, 41, 59, 44, 46, 60, 43, 45, 42, 58, 61]⟩ : ByteArray) 0))) = some (r1, r2, r3, r4, r5) := by rw [if_neg (show ¬ (false = true) by decide)] at H; exact H
        clear H
        have H := H1
        clear H1
        replace H := Option.bind_eq_some_iff.mp H
        obtain ⟨t45005, A230, H⟩ := H
        replace H : (if t45005 = true then ((dataflowref07_end.f k a0 a1).bind fun t45006 => ((dataflowref07_number.f k a0 a1 t45006).bind fun bt45007 => (some (bt45007.1, bt45007.2.1, bt45007.2.2.1, bt45007.2.2.2.1, bt45007.2.2.2.2)))) else (dataflowref07_one.l0 k a0 a1 (bt a0 a1) (⟨#[123, 125, 40, 41, 59, 44, 46, 60, 43, 45, 42, 58, 61]⟩ : ByteArray) 0)) = some (r1, r2, r3, r4, r5) := H
        have A23 := Aside0.mk A230
        clear A230
        by_cases c24 : t45005 = true
        · subst c24
          have H1 : ((dataflowref07_end.f k a0 a1).bind fun t45006 => ((dataflowref07_number.f k a0 a1 t45006).bind fun bt45007 => (some (bt45007.1, bt45007.2.1, bt45007.2.2.1, bt45007.2.2.2.1, bt45007.2.2.2.2)))) = some (r1, r2, r3, r4, r5) := by rw [if_pos rfl] at H; exact H
          clear H
          have H := H1
          clear H1
          replace H := Option.bind_eq_some_iff.mp H
          obtain ⟨t45006, A250, H⟩ := H
          replace H : ((dataflowref07_number.f k a0 a1 t45006).bind fun bt45007 => (some (bt45007.1, bt45007.2.1, bt45007.2.2.1, bt45007.2.2.2.1, bt45007.2.2.2.2))) = some (r1, r2, r3, r4, r5) := H
          have A25 := Aside0.mk A250
          clear A250
          replace H := Option.bind_eq_some_iff.mp H
          obtain ⟨⟨t45007, t45008, t45009, t45010, t45011⟩, A260, H⟩ := H
          replace H : (some (t45007, t45008, t45009, t45010, t45011)) = some (r1, r2, r3, r4, r5) := H
          have A26 := Aside0.mk A260
          clear A260
          simp only [Option.some.injEq, Prod.mk.injEq] at H
          obtain ⟨rfl, rfl, rfl, rfl, rfl⟩ := H
          go_enter Tryd.func44, Tryd.ntmps44
          go_wp2_with (first | ((with_reducible refine gate_dst (N := 4) rfl ?_); (try (refine gate_guard (by rfl) ?_; dsimp only)); refine box_event ?hg (N := 4) ?hd (cs := #[.int .i64 0, .int .i64 0, .string (⟨#[]⟩ : ByteArray), .int .i64 0]) (t := 30) ?hr ?_; (case hd => rfl); (case hg => rfl); (case hr => first | (go_simp; done) | (go_simp; rfl)); intro gb45001 hg w27 hbox hb; have n0_ := Aside0.mk (below_step (by repeat (first | (with_reducible first | exact HB.out | apply below_alloc | apply pw_below_drewN | apply below_drew1) | exact HB.out)) hb); have n1_ := Aside0.mk (hbox); have n2_ := Aside0.mk ((by rw [hg]; exact (below_size (by repeat (first | (with_reducible first | exact HB.out | apply below_alloc | apply pw_below_drewN | apply below_drew1) | exact HB.out))) : w.heap.size ≤ gb45001)); have n3_ := Aside0.mk ((by rw [hg]; exact (below_size (by repeat (first | (with_reducible first | exact HB.out | apply below_alloc | apply pw_below_drewN | apply below_drew1) | exact HB.out))) : w.heap.size ≤ gb45001)); clear HB; have HB := n0_; have BK45001 := n1_; have GW45001 := n2_; have GE45001 := n3_; clear n0_ n1_ n2_ n3_; clear hb hbox hg; have p5 : 0 ≤ (a1 : Int) := of_decide_eq_true (by first | (with_reducible assumption) | assumption); have q5 : a1 < (a0.size : Int) := of_decide_eq_true (by first | (with_reducible assumption) | assumption); have hx5 := bt_at a0 a1; replace p5 := eq_true p5; replace q5 := eq_true q5) | ((with_reducible refine gate_callee (f := 47) rfl ?_); refine goesL_ (some 15) rfl rfl Tryd.func47 (by kernel_rfl) rfl #[.int .u8 (bt a0 a1)] rfl (by (try simp only [List.map_toArray, List.map_cons, List.map_nil]); first | done | rfl | (simp only [List.length_drop, List.length_take]; rfl)) ?_; (with_reducible refine (dataflowref07_letter.calls (bt a0 a1) false _ A6.out).mono ?_); rintro e w' ⟨rfl, ⟨nd, rfl⟩⟩; refine ⟨_, rfl, ?_⟩; (try (rw [drewN_self w27]; generalize hq_ : World.drewN w27 _ = w27; have n0_ : Aside0 (w27.heap[gb45001]? = some (.cells #[.int .i64 0, .int .i64 0, .string (⟨#[]⟩ : ByteArray), .int .i64 0] 30 (0, 0))) := ⟨by rw [← hq_]; exact (by (with_reducible repeat (first | refine blk_drewN ?_ _ | refine blk_drew ?_ | refine blk_alloc ?_ _)); exact BK45001.out)⟩; have n1_ : Aside0 (Below w.heap.size w w27) := ⟨by rw [← hq_]; exact (by repeat (first | (with_reducible first | exact HB.out | apply below_alloc | apply pw_below_drewN | apply below_drew1 | refine below_set ?_ GE45001.out) | exact HB.out))⟩; clear BK45001 HB hq_; have BK45001 := n0_; have HB := n1_; clear n0_ n1_))) | ((with_reducible refine gate_callee (f := 75) rfl ?_); refine goesL_ (some 35) rfl rfl Tryd.func75 (by kernel_rfl) rfl #[.int .u8 (bt a0 a1)] rfl (by (try simp only [List.map_toArray, List.map_cons, List.map_nil]); first | done | rfl | (simp only [List.length_drop, List.length_take]; rfl)) ?_; (with_reducible refine (dataflowref07_digit.calls (bt a0 a1) true _ A23.out).mono ?_); rintro e w' ⟨rfl, ⟨nd, rfl⟩⟩; refine ⟨_, rfl, ?_⟩; (try (rw [drewN_self w27]; generalize hq_ : World.drewN w27 _ = w27; have n0_ : Aside0 (w27.heap[gb45001]? = some (.cells #[.int .i64 0, .int .i64 0, .string (⟨#[]⟩ : ByteArray), .int .i64 0] 30 (0, 0))) := ⟨by rw [← hq_]; exact (by (with_reducible repeat (first | refine blk_drewN ?_ _ | refine blk_drew ?_ | refine blk_alloc ?_ _)); exact BK45001.out)⟩; have n1_ : Aside0 (Below w.heap.size w w27) := ⟨by rw [← hq_]; exact (by repeat (first | (with_reducible first | exact HB.out | apply below_alloc | apply pw_below_drewN | apply below_drew1 | refine below_set ?_ GE45001.out) | exact HB.out))⟩; clear BK45001 HB hq_; have BK45001 := n0_; have HB := n1_; clear n0_ n1_))) | ((with_reducible refine gate_callee (f := 74) rfl ?_); refine goesL_ (some 40) rfl rfl Tryd.func74 (by kernel_rfl) rfl #[.string a0, .int .i64 a1] rfl (by (try simp only [List.map_toArray, List.map_cons, List.map_nil]); first | done | rfl | (simp only [List.length_drop, List.length_take]; rfl)) ?_; (with_reducible refine (dataflowref07_end.calls k a0 a1 t45006 _ A25.out).mono ?_); rintro e w' ⟨rfl, ⟨nd, rfl⟩⟩; refine ⟨_, rfl, ?_⟩; (try (rw [drewN_self w27]; generalize hq_ : World.drewN w27 _ = w27; have n0_ : Aside0 (w27.heap[gb45001]? = some (.cells #[.int .i64 0, .int .i64 0, .string (⟨#[]⟩ : ByteArray), .int .i64 0] 30 (0, 0))) := ⟨by rw [← hq_]; exact (by (with_reducible repeat (first | refine blk_drewN ?_ _ | refine blk_drew ?_ | refine blk_alloc ?_ _)); exact BK45001.out)⟩; have n1_ : Aside0 (Below w.heap.size w w27) := ⟨by rw [← hq_]; exact (by repeat (first | (with_reducible first | exact HB.out | apply below_alloc | apply pw_below_drewN | apply below_drew1 | refine below_set ?_ GE45001.out) | exact HB.out))⟩; clear BK45001 HB hq_; have BK45001 := n0_; have HB := n1_; clear n0_ n1_))) | ((with_reducible refine gate_callee (f := 76) rfl ?_); refine goesL_ (some 41) rfl rfl Tryd.func76 (by kernel_rfl) rfl #[.string a0, .int .i64 a1, .int .i64 t45006] rfl (by (try simp only [List.map_toArray, List.map_cons, List.map_nil]); first | done | rfl | (simp only [List.length_drop, List.length_take]; rfl)) ?_; (with_reducible refine (dataflowref07_number.calls k a0 a1 t45006 t45007 t45008 t45009 t45010 t45011 _ A26.out).mono ?_); rintro e w28 ⟨rfl, hb⟩; refine ⟨_, rfl, ?_⟩; have n0_ := Aside0.mk (blk_below (g := gb45001) (o := .cells #[.int .i64 0, .int .i64 0, .string (⟨#[]⟩ : ByteArray), .int .i64 0] 30 (0, 0)) (by (with_reducible repeat (first | refine blk_drewN ?_ _ | refine blk_drew ?_ | refine blk_alloc ?_ _)); exact BK45001.out) hb); have n1_ := Aside0.mk (below_step (by repeat (first | (with_reducible first | exact HB.out | apply below_alloc | apply pw_below_drewN | apply below_drew1 | refine below_set ?_ GE45001.out) | exact HB.out)) hb); clear BK45001; clear HB; have BK45001 := n0_; have HB := n1_; clear n0_ n1_; (try clear hb); (try clear hb2); (try clear hk); (try clear hi); have hcz29_0 : w28.cell? ⟨gb45001, 0, none⟩ = some (.int .i64 0) := (blk_cell BK45001.out 0).trans rfl; have hcz29_1 : w28.cell? ⟨gb45001, 1, none⟩ = some (.int .i64 0) := (blk_cell BK45001.out 1).trans rfl; have hcz29_2 : w28.cell? ⟨gb45001, 2, none⟩ = some (.string (⟨#[]⟩ : ByteArray)) := (blk_cell BK45001.out 2).trans rfl; have hcz29_3 : w28.cell? ⟨gb45001, 3, none⟩ = some (.int .i64 0) := (blk_cell BK45001.out 3).trans rfl; have hfz29_0 := blk_frozen BK45001.out 0; have hfz29_1 := blk_frozen BK45001.out 1; have hfz29_2 := blk_frozen BK45001.out 2; have hfz29_3 := blk_frozen BK45001.out 3))
          refine bodyPost_ret (results_ct rfl _ _ gb45001 30 #[.int .i64 t45007, .int .i64 t45008, .string t45009, .int .i64 t45010] (0, 0) _ rfl (by (with_reducible repeat (first | refine blk_drewN ?_ _ | refine blk_drew ?_ | refine blk_alloc ?_ _)); refine blk_put (cs := #[.int .i64 t45007, .int .i64 t45008, .string t45009, .int .i64 0]) ?_ 3 _ rfl; (with_reducible repeat (first | refine blk_drewN ?_ _ | refine blk_drew ?_ | refine blk_alloc ?_ _)); refine blk_put (cs := #[.int .i64 t45007, .int .i64 t45008, .string (⟨#[]⟩ : ByteArray), .int .i64 0]) ?_ 2 _ rfl; (with_reducible repeat (first | refine blk_drewN ?_ _ | refine blk_drew ?_ | refine blk_alloc ?_ _)); refine blk_put (cs := #[.int .i64 t45007, .int .i64 0, .string (⟨#[]⟩ : ByteArray), .int .i64 0]) ?_ 1 _ rfl; (with_reducible repeat (first | refine blk_drewN ?_ _ | refine blk_drew ?_ | refine blk_alloc ?_ _)); refine blk_put (cs := #[.int .i64 0, .int .i64 0, .string (⟨#[]⟩ : ByteArray), .int .i64 0]) ?_ 0 _ rfl; (with_reducible repeat (first | refine blk_drewN ?_ _ | refine blk_drew ?_ | refine blk_alloc ?_ _)); exact BK45001.out) Tryd.underlying30 rfl (by kernel_rfl)) rfl ?_
          exact ⟨by first | rfl | (simp [errW_none, errW_some] <;> rfl) | (simp [*, errW_none, errW_some] <;> rfl), by repeat (first | (with_reducible first | exact HB.out | apply below_alloc | apply pw_below_drewN | apply below_drew1 | refine below_set ?_ GE45001.out) | exact HB.out)⟩
        · replace c24 := Bool.eq_false_iff.mpr c24
          subst c24
          have H1 : (dataflowref07_one.l0 k a0 a1 (bt a0 a1) (⟨#[123, 125, 40, 41, 59, 44, 46, 60, 43, 45, 42, 58, 61]⟩ : ByteArray) 0) = some (r1, r2, r3, r4, r5) := by rw [if_neg (show ¬ (false = true) by decide)] at H; exact H
          clear H
          have H := H1
          clear H1
          have H' := Aside0.mk H
          clear H
          go_enter Tryd.func44, Tryd.ntmps44
          go_wp2_with (first | ((with_reducible refine gate_dst (N := 4) rfl ?_); (try (refine gate_guard (by rfl) ?_; dsimp only)); refine box_event ?hg (N := 4) ?hd (cs := #[.int .i64 0, .int .i64 0, .string (⟨#[]⟩ : ByteArray), .int .i64 0]) (t := 30) ?hr ?_; (case hd => rfl); (case hg => rfl); (case hr => first | (go_simp; done) | (go_simp; rfl)); intro gb45001 hg w30 hbox hb; have n0_ := Aside0.mk (below_step (by repeat (first | (with_reducible first | exact HB.out | apply below_alloc | apply pw_below_drewN | apply below_drew1) | exact HB.out)) hb); have n1_ := Aside0.mk (hbox); have n2_ := Aside0.mk ((by rw [hg]; exact (below_size (by repeat (first | (with_reducible first | exact HB.out | apply below_alloc | apply pw_below_drewN | apply below_drew1) | exact HB.out))) : w.heap.size ≤ gb45001)); have n3_ := Aside0.mk ((by rw [hg]; exact (below_size (by repeat (first | (with_reducible first | exact HB.out | apply below_alloc | apply pw_below_drewN | apply below_drew1) | exact HB.out))) : w.heap.size ≤ gb45001)); clear HB; have HB := n0_; have BK45001 := n1_; have GW45001 := n2_; have GE45001 := n3_; clear n0_ n1_ n2_ n3_; clear hb hbox hg; have p5 : 0 ≤ (a1 : Int) := of_decide_eq_true (by first | (with_reducible assumption) | assumption); have q5 : a1 < (a0.size : Int) := of_decide_eq_true (by first | (with_reducible assumption) | assumption); have hx5 := bt_at a0 a1; replace p5 := eq_true p5; replace q5 := eq_true q5) | ((with_reducible refine gate_callee (f := 47) rfl ?_); refine goesL_ (some 15) rfl rfl Tryd.func47 (by kernel_rfl) rfl #[.int .u8 (bt a0 a1)] rfl (by (try simp only [List.map_toArray, List.map_cons, List.map_nil]); first | done | rfl | (simp only [List.length_drop, List.length_take]; rfl)) ?_; (with_reducible refine (dataflowref07_letter.calls (bt a0 a1) false _ A6.out).mono ?_); rintro e w' ⟨rfl, ⟨nd, rfl⟩⟩; refine ⟨_, rfl, ?_⟩) | ((with_reducible refine gate_callee (f := 75) rfl ?_); refine goesL_ (some 35) rfl rfl Tryd.func75 (by kernel_rfl) rfl #[.int .u8 (bt a0 a1)] rfl (by (try simp only [List.map_toArray, List.map_cons, List.map_nil]); first | done | rfl | (simp only [List.length_drop, List.length_take]; rfl)) ?_; (with_reducible refine (dataflowref07_digit.calls (bt a0 a1) false _ A23.out).mono ?_); rintro e w' ⟨rfl, ⟨nd, rfl⟩⟩; refine ⟨_, rfl, ?_⟩))
          go_loopg [9] k (fun kq v9 w' => ∃ (x9_1 : Int) (x45002000_1 : Int) (x45002001_1 : Int) (x45002002_1 : ByteArray) (x45002003_1 : Int), v9 = .int .i64 x9_1 ∧ Aside0 (dataflowref07_one.l0 kq a0 a1 (bt a0 a1) (⟨#[123, 125, 40, 41, 59, 44, 46, 60, 43, 45, 42, 58, 61]⟩ : ByteArray) x9_1 = some (r1, r2, r3, r4, r5)) ∧ Aside0 (kq ≤ k) ∧ Aside0 (w'.heap[gb45001]? = some (.cells #[.int .i64 x45002000_1, .int .i64 x45002001_1, .string x45002002_1, .int .i64 x45002003_1] 30 (0, 0))) ∧ Aside0 (Below w.heap.size w w'))
          case atStart => exact ⟨(0), (0), (0), ((⟨#[]⟩ : ByteArray)), (0), (by first | rfl | (simp; done) | (simp [*]; done)), H', ⟨Nat.le_refl _⟩, ⟨by (with_reducible repeat (first | refine blk_drewN ?_ _ | refine blk_drew ?_ | refine blk_alloc ?_ _)); exact BK45001.out⟩, ⟨by repeat (first | (with_reducible first | exact HB.out | apply below_alloc | apply pw_below_drewN | apply below_drew1 | refine below_set ?_ GE45001.out) | exact HB.out)⟩⟩
          case round =>
            clear H'
            try clear c1
            try clear c2
            try clear p2
            try clear c3
            try clear c3b0
            try clear c4
            try clear c4b0
            try clear p5
            try clear q5
            try clear hx5
            try clear c7
            try clear c9
            try clear c9b0
            try clear c10
            try clear c10b0
            try clear c10b1
            try clear c11
            try clear c11b0
            try clear c11b1
            try clear c12
            try clear c12b0
            try clear c12b1
            try clear c16
            try clear c20
            try clear c24
            try clear hcz14_0
            try clear hcz14_1
            try clear hcz14_2
            try clear hcz14_3
            try clear hcz19_0
            try clear hcz19_1
            try clear hcz19_2
            try clear hcz19_3
            try clear hcz22_0
            try clear hcz22_1
            try clear hcz22_2
            try clear hcz22_3
            try clear hcz29_0
            try clear hcz29_1
            try clear hcz29_2
            try clear hcz29_3
            try clear hfz14_0
            try clear hfz14_1
            try clear hfz14_2
            try clear hfz14_3
            try clear hfz19_0
            try clear hfz19_1
            try clear hfz19_2
            try clear hfz19_3
            try clear hfz22_0
            try clear hfz22_1
            try clear hfz22_2
            try clear hfz22_3
            try clear hfz29_0
            try clear hfz29_1
            try clear hfz29_2
            try clear hfz29_3
            try clear p5
            try clear q5
            obtain ⟨x9_1, x45002000_1, x45002001_1, x45002002_1, x45002003_1, rfl, HA, HK1, BK45001, HB⟩ := hrel
            cases gk with
            | zero => exact absurd HA.out (by simp [dataflowref07_one.l0])
            | succ k1 =>
              have H := HA.out
              clear HA
              simp only [dataflowref07_one.l0] at H
              by_cases c31 : x9_1 < ((⟨#[123, 125, 40, 41, 59, 44, 46, 60, 43, 45, 42, 58, 61]⟩ : ByteArray).size : Int)
              · rw [if_pos c31] at H
                have c31b0 : decide (x9_1 < ((⟨#[123, 125, 40, 41, 59, 44, 46, 60, 43, 45, 42, 58, 61]⟩ : ByteArray).size : Int)) = true := decide_eq_true c31
                clear c31
                by_cases c32 : 0 ≤ x9_1
                · rw [if_pos c32] at H
                  have c32b0 : decide (0 ≤ x9_1) = true := decide_eq_true c32
                  clear c32
                  by_cases c34 : (bt (⟨#[123, 125, 40, 41, 59, 44, 46, 60, 43, 45, 42, 58, 61]⟩ : ByteArray) x9_1) = (bt a0 a1)
                  · rw [if_pos c34] at H
                    have c34b0 : ((bt (⟨#[123, 125, 40, 41, 59, 44, 46, 60, 43, 45, 42, 58, 61]⟩ : ByteArray) x9_1) == (bt a0 a1)) = true := beq_iff_eq.mpr c34
                    have c34b1 : ((bt (⟨#[123, 125, 40, 41, 59, 44, 46, 60, 43, 45, 42, 58, 61]⟩ : ByteArray) x9_1) != (bt a0 a1)) = false := bne_eq_false_iff_eq.mpr c34
                    clear c34
                    by_cases c35 : (bt a0 a1) = 58
                    · rw [if_pos c35] at H
                      have c35b0 : ((bt a0 a1) == 58) = true := beq_iff_eq.mpr c35
                      have c35b1 : ((bt a0 a1) != 58) = false := bne_eq_false_iff_eq.mpr c35
                      clear c35
                      by_cases c36 : (wrap64 (a1 + 1)) < (a0.size : Int)
                      · rw [if_pos c36] at H
                        have c36b0 : decide ((wrap64 (a1 + 1)) < (a0.size : Int)) = true := decide_eq_true c36
                        clear c36
                        obtain ⟨ji37, hji37⟩ : ∃ j_ : Int, (wrap64 (a1 + 1)) = j_ := ⟨_, rfl⟩
                        replace H : (if 0 ≤ (ji37) then (if (bt a0 (ji37)) = (bt a0 a1) then (if 0 ≤ a1 then (if a1 ≤ (wrap64 (a1 + 2)) then (if (wrap64 (a1 + 2)) ≤ (a0.size : Int) then (some (4, a1, a0.extract (a1 : Int).toNat ((wrap64 (a1 + 2)) : Int).toNat, 0, 0)) else (none)) else (none)) else (none)) else (if 0 ≤ a1 then (if a1 ≤ (ji37) then (if (ji37) ≤ (a0.size : Int) then (some (4, a1, a0.extract (a1 : Int).toNat ((ji37) : Int).toNat, 0, 0)) else (none)) else (none)) else (none))) else (none)) = some (r1, r2, r3, r4, r5) := by first | (rw [hji37] at H; exact H) | (simp only [hji37] at H ⊢; exact H)
                        (try rw [hji37] at c36b0)
                        have hji37w : (IntKind.i64.wrap (a1 + 1)) = ji37 := (i64_w _).trans hji37
                        by_cases c38 : 0 ≤ (ji37)
                        · rw [if_pos c38] at H
                          have c38b0 : decide (0 ≤ (ji37)) = true := decide_eq_true c38
                          clear c38
                          by_cases c40 : (bt a0 (ji37)) = (bt a0 a1)
                          · rw [if_pos c40] at H
                            have c40b0 : ((bt a0 (ji37)) == (bt a0 a1)) = true := beq_iff_eq.mpr c40
                            have c40b1 : ((bt a0 (ji37)) != (bt a0 a1)) = false := bne_eq_false_iff_eq.mpr c40
                            clear c40
                            by_cases c41 : 0 ≤ a1
                            · rw [if_pos c41] at H
                              have c41b0 := eq_true c41
                              have c41b1 : decide (0 ≤ a1) = true := decide_eq_true c41
                              clear c41
                              by_cases c42 : a1 ≤ (wrap64 (a1 + 2))
                              · rw [if_pos c42] at H
                                have c42b0 := eq_true c42
                                have c42b1 : decide (a1 ≤ (wrap64 (a1 + 2))) = true := decide_eq_true c42
                                by_cases c43 : (wrap64 (a1 + 2)) ≤ (a0.size : Int)
                                · rw [if_pos c43] at H
                                  have c43b0 := eq_true c43
                                  have c43b1 : decide ((wrap64 (a1 + 2)) ≤ (a0.size : Int)) = true := decide_eq_true c43
                                  simp only [Option.some.injEq, Prod.mk.injEq] at H
                                  obtain ⟨rfl, rfl, rfl, rfl, rfl⟩ := H
                                  have p33 : 0 ≤ (x9_1 : Int) := of_decide_eq_true (by first | (with_reducible assumption) | assumption)
                                  have q33 : x9_1 < (13 : Int) := of_decide_eq_true (by first | (with_reducible assumption) | assumption)
                                  have hx33 := bt_at (⟨#[123, 125, 40, 41, 59, 44, 46, 60, 43, 45, 42, 58, 61]⟩ : ByteArray) x9_1
                                  replace p33 := eq_true p33
                                  replace q33 := eq_true q33
                                  have p39 : 0 ≤ ((ji37) : Int) := of_decide_eq_true (by first | (with_reducible assumption) | assumption)
                                  have q39 : (ji37) < (a0.size : Int) := of_decide_eq_true (by first | (with_reducible assumption) | assumption)
                                  have hx39 := bt_at a0 (ji37)
                                  replace p39 := eq_true p39
                                  replace q39 := eq_true q39
                                  have hcz44_0 : wr.cell? ⟨gb45001, 0, none⟩ = some (.int .i64 x45002000_1) := (blk_cell BK45001.out 0).trans rfl
                                  have hcz44_1 : wr.cell? ⟨gb45001, 1, none⟩ = some (.int .i64 x45002001_1) := (blk_cell BK45001.out 1).trans rfl
                                  have hcz44_2 : wr.cell? ⟨gb45001, 2, none⟩ = some (.string x45002002_1) := (blk_cell BK45001.out 2).trans rfl
                                  have hcz44_3 : wr.cell? ⟨gb45001, 3, none⟩ = some (.int .i64 x45002003_1) := (blk_cell BK45001.out 3).trans rfl
                                  have hfz44_0 := blk_frozen BK45001.out 0
                                  have hfz44_1 := blk_frozen BK45001.out 1
                                  have hfz44_2 := blk_frozen BK45001.out 2
                                  have hfz44_3 := blk_frozen BK45001.out 3
                                  go_wp2
                                  refine bodyPost_ret (results_ct rfl _ _ gb45001 30 #[.int .i64 4, .int .i64 a1, .string (a0.extract (a1 : Int).toNat ((wrap64 (a1 + 2)) : Int).toNat), .int .i64 0] (0, 0) _ rfl (by (with_reducible repeat (first | refine blk_drewN ?_ _ | refine blk_drew ?_ | refine blk_alloc ?_ _)); refine blk_put (cs := #[.int .i64 4, .int .i64 a1, .string (a0.extract (a1 : Int).toNat ((wrap64 (a1 + 2)) : Int).toNat), .int .i64 x45002003_1]) ?_ 3 _ rfl; (with_reducible repeat (first | refine blk_drewN ?_ _ | refine blk_drew ?_ | refine blk_alloc ?_ _)); refine blk_put (cs := #[.int .i64 4, .int .i64 a1, .string x45002002_1, .int .i64 x45002003_1]) ?_ 2 _ rfl; (with_reducible repeat (first | refine blk_drewN ?_ _ | refine blk_drew ?_ | refine blk_alloc ?_ _)); refine blk_put (cs := #[.int .i64 4, .int .i64 x45002001_1, .string x45002002_1, .int .i64 x45002003_1]) ?_ 1 _ rfl; (with_reducible repeat (first | refine blk_drewN ?_ _ | refine blk_drew ?_ | refine blk_alloc ?_ _)); refine blk_put (cs := #[.int .i64 x45002000_1, .int .i64 x45002001_1, .string x45002002_1, .int .i64 x45002003_1]) ?_ 0 _ rfl; (with_reducible repeat (first | refine blk_drewN ?_ _ | refine blk_drew ?_ | refine blk_alloc ?_ _)); exact BK45001.out) Tryd.underlying30 rfl (by kernel_rfl)) rfl ?_
                                  exact ⟨by first | rfl | (simp [errW_none, errW_some] <;> rfl) | (simp only [← hji37]; first | rfl | (simp [errW_none, errW_some] <;> rfl)) | (simp [*, errW_none, errW_some] <;> rfl), by repeat (first | (with_reducible first | exact HB.out | apply below_alloc | apply pw_below_drewN | apply below_drew1 | refine below_set ?_ GE45001.out) | exact HB.out)⟩
                                · rw [if_neg c43] at H
                                  exact absurd H (by simp)
                              · rw [if_neg c42] at H
                                exact absurd H (by simp)
                            · rw [if_neg c41] at H
                              exact absurd H (by simp)
                          · rw [if_neg c40] at H
                            have c40b0 : ((bt a0 (ji37)) == (bt a0 a1)) = false := beq_eq_false_iff_ne.mpr c40
                            have c40b1 : ((bt a0 (ji37)) != (bt a0 a1)) = true := bne_iff_ne.mpr c40
                            by_cases c45 : 0 ≤ a1
                            · rw [if_pos c45] at H
                              have c45b0 := eq_true c45
                              have c45b1 : decide (0 ≤ a1) = true := decide_eq_true c45
                              clear c45
                              by_cases c46 : a1 ≤ (ji37)
                              · rw [if_pos c46] at H
                                have c46b0 := eq_true c46
                                have c46b1 : decide (a1 ≤ (ji37)) = true := decide_eq_true c46
                                clear c46
                                by_cases c47 : (ji37) ≤ (a0.size : Int)
                                · rw [if_pos c47] at H
                                  have c47b0 := eq_true c47
                                  have c47b1 : decide ((ji37) ≤ (a0.size : Int)) = true := decide_eq_true c47
                                  clear c47
                                  simp only [Option.some.injEq, Prod.mk.injEq] at H
                                  obtain ⟨rfl, rfl, rfl, rfl, rfl⟩ := H
                                  have p33 : 0 ≤ (x9_1 : Int) := of_decide_eq_true (by first | (with_reducible assumption) | assumption)
                                  have q33 : x9_1 < (13 : Int) := of_decide_eq_true (by first | (with_reducible assumption) | assumption)
                                  have hx33 := bt_at (⟨#[123, 125, 40, 41, 59, 44, 46, 60, 43, 45, 42, 58, 61]⟩ : ByteArray) x9_1
                                  replace p33 := eq_true p33
                                  replace q33 := eq_true q33
                                  have p39 : 0 ≤ ((ji37) : Int) := of_decide_eq_true (by first | (with_reducible assumption) | assumption)
                                  have q39 : (ji37) < (a0.size : Int) := of_decide_eq_true (by first | (with_reducible assumption) | assumption)
                                  have hx39 := bt_at a0 (ji37)
                                  replace p39 := eq_true p39
                                  replace q39 := eq_true q39
                                  have hcz48_0 : wr.cell? ⟨gb45001, 0, none⟩ = some (.int .i64 x45002000_1) := (blk_cell BK45001.out 0).trans rfl
                                  have hcz48_1 : wr.cell? ⟨gb45001, 1, none⟩ = some (.int .i64 x45002001_1) := (blk_cell BK45001.out 1).trans rfl
                                  have hcz48_2 : wr.cell? ⟨gb45001, 2, none⟩ = some (.string x45002002_1) := (blk_cell BK45001.out 2).trans rfl
                                  have hcz48_3 : wr.cell? ⟨gb45001, 3, none⟩ = some (.int .i64 x45002003_1) := (blk_cell BK45001.out 3).trans rfl
                                  have hfz48_0 := blk_frozen BK45001.out 0
                                  have hfz48_1 := blk_frozen BK45001.out 1
                                  have hfz48_2 := blk_frozen BK45001.out 2
                                  have hfz48_3 := blk_frozen BK45001.out 3
                                  go_wp2
                                  refine bodyPost_ret (results_ct rfl _ _ gb45001 30 #[.int .i64 4, .int .i64 a1, .string (a0.extract (a1 : Int).toNat ((ji37) : Int).toNat), .int .i64 0] (0, 0) _ rfl (by (with_reducible repeat (first | refine blk_drewN ?_ _ | refine blk_drew ?_ | refine blk_alloc ?_ _)); refine blk_put (cs := #[.int .i64 4, .int .i64 a1, .string (a0.extract (a1 : Int).toNat ((ji37) : Int).toNat), .int .i64 x45002003_1]) ?_ 3 _ rfl; (with_reducible repeat (first | refine blk_drewN ?_ _ | refine blk_drew ?_ | refine blk_alloc ?_ _)); refine blk_put (cs := #[.int .i64 4, .int .i64 a1, .string x45002002_1, .int .i64 x45002003_1]) ?_ 2 _ rfl; (with_reducible repeat (first | refine blk_drewN ?_ _ | refine blk_drew ?_ | refine blk_alloc ?_ _)); refine blk_put (cs := #[.int .i64 4, .int .i64 x45002001_1, .string x45002002_1, .int .i64 x45002003_1]) ?_ 1 _ rfl; (with_reducible repeat (first | refine blk_drewN ?_ _ | refine blk_drew ?_ | refine blk_alloc ?_ _)); refine blk_put (cs := #[.int .i64 x45002000_1, .int .i64 x45002001_1, .string x45002002_1, .int .i64 x45002003_1]) ?_ 0 _ rfl; (with_reducible repeat (first | refine blk_drewN ?_ _ | refine blk_drew ?_ | refine blk_alloc ?_ _)); exact BK45001.out) Tryd.underlying30 rfl (by kernel_rfl)) rfl ?_
                                  exact ⟨by first | rfl | (simp [errW_none, errW_some] <;> rfl) | (simp only [← hji37]; first | rfl | (simp [errW_none, errW_some] <;> rfl)) | (simp [*, errW_none, errW_some] <;> rfl), by repeat (first | (with_reducible first | exact HB.out | apply below_alloc | apply pw_below_drewN | apply below_drew1 | refine below_set ?_ GE45001.out) | exact HB.out)⟩
                                · rw [if_neg c47] at H
                                  exact absurd H (by simp)
                              · rw [if_neg c46] at H
                                exact absurd H (by simp)
                            · rw [if_neg c45] at H
                              exact absurd H (by simp)
                        · rw [if_neg c38] at H
                          exact absurd H (by simp)
                      · rw [if_neg c36] at H
                        have c36b0 : decide ((wrap64 (a1 + 1)) < (a0.size : Int)) = false := decide_eq_false c36
                        clear c36
                        by_cases c49 : 0 ≤ a1
                        · rw [if_pos c49] at H
                          have c49b0 := eq_true c49
                          have c49b1 : decide (0 ≤ a1) = true := decide_eq_true c49
                          clear c49
                          by_cases c50 : a1 ≤ (wrap64 (a1 + 1))
                          · rw [if_pos c50] at H
                            have c50b0 := eq_true c50
                            have c50b1 : decide (a1 ≤ (wrap64 (a1 + 1))) = true := decide_eq_true c50
                            by_cases c51 : (wrap64 (a1 + 1)) ≤ (a0.size : Int)
                            · rw [if_pos c51] at H
                              have c51b0 := eq_true c51
                              have c51b1 : decide ((wrap64 (a1 + 1)) ≤ (a0.size : Int)) = true := decide_eq_true c51
                              simp only [Option.some.injEq, Prod.mk.injEq] at H
                              obtain ⟨rfl, rfl, rfl, rfl, rfl⟩ := H
                              have p33 : 0 ≤ (x9_1 : Int) := of_decide_eq_true (by first | (with_reducible assumption) | assumption)
                              have q33 : x9_1 < (13 : Int) := of_decide_eq_true (by first | (with_reducible assumption) | assumption)
                              have hx33 := bt_at (⟨#[123, 125, 40, 41, 59, 44, 46, 60, 43, 45, 42, 58, 61]⟩ : ByteArray) x9_1
                              replace p33 := eq_true p33
                              replace q33 := eq_true q33
                              have hcz52_0 : wr.cell? ⟨gb45001, 0, none⟩ = some (.int .i64 x45002000_1) := (blk_cell BK45001.out 0).trans rfl
                              have hcz52_1 : wr.cell? ⟨gb45001, 1, none⟩ = some (.int .i64 x45002001_1) := (blk_cell BK45001.out 1).trans rfl
                              have hcz52_2 : wr.cell? ⟨gb45001, 2, none⟩ = some (.string x45002002_1) := (blk_cell BK45001.out 2).trans rfl
                              have hcz52_3 : wr.cell? ⟨gb45001, 3, none⟩ = some (.int .i64 x45002003_1) := (blk_cell BK45001.out 3).trans rfl
                              have hfz52_0 := blk_frozen BK45001.out 0
                              have hfz52_1 := blk_frozen BK45001.out 1
                              have hfz52_2 := blk_frozen BK45001.out 2
                              have hfz52_3 := blk_frozen BK45001.out 3
                              go_wp2
                              refine bodyPost_ret (results_ct rfl _ _ gb45001 30 #[.int .i64 4, .int .i64 a1, .string (a0.extract (a1 : Int).toNat ((wrap64 (a1 + 1)) : Int).toNat), .int .i64 0] (0, 0) _ rfl (by (with_reducible repeat (first | refine blk_drewN ?_ _ | refine blk_drew ?_ | refine blk_alloc ?_ _)); refine blk_put (cs := #[.int .i64 4, .int .i64 a1, .string (a0.extract (a1 : Int).toNat ((wrap64 (a1 + 1)) : Int).toNat), .int .i64 x45002003_1]) ?_ 3 _ rfl; (with_reducible repeat (first | refine blk_drewN ?_ _ | refine blk_drew ?_ | refine blk_alloc ?_ _)); refine blk_put (cs := #[.int .i64 4, .int .i64 a1, .string x45002002_1, .int .i64 x45002003_1]) ?_ 2 _ rfl; (with_reducible repeat (first | refine blk_drewN ?_ _ | refine blk_drew ?_ | refine blk_alloc ?_ _)); refine blk_put (cs := #[.int .i64 4, .int .i64 x45002001_1, .string x45002002_1, .int .i64 x45002003_1]) ?_ 1 _ rfl; (with_reducible repeat (first | refine blk_drewN ?_ _ | refine blk_drew ?_ | refine blk_alloc ?_ _)); refine blk_put (cs := #[.int .i64 x45002000_1, .int .i64 x45002001_1, .string x45002002_1, .int .i64 x45002003_1]) ?_ 0 _ rfl; (with_reducible repeat (first | refine blk_drewN ?_ _ | refine blk_drew ?_ | refine blk_alloc ?_ _)); exact BK45001.out) Tryd.underlying30 rfl (by kernel_rfl)) rfl ?_
                              exact ⟨by first | rfl | (simp [errW_none, errW_some] <;> rfl) | (simp [*, errW_none, errW_some] <;> rfl), by repeat (first | (with_reducible first | exact HB.out | apply below_alloc | apply pw_below_drewN | apply below_drew1 | refine below_set ?_ GE45001.out) | exact HB.out)⟩
                            · rw [if_neg c51] at H
                              exact absurd H (by simp)
                          · rw [if_neg c50] at H
                            exact absurd H (by simp)
                        · rw [if_neg c49] at H
                          exact absurd H (by simp)
                    · rw [if_neg c35] at H
                      have c35b0 : ((bt a0 a1) == 58) = false := beq_eq_false_iff_ne.mpr c35
                      have c35b1 : ((bt a0 a1) != 58) = true := bne_iff_ne.mpr c35
                      by_cases c53 : (bt a0 a1) = 61
                      · rw [if_pos c53] at H
                        have c53b0 : ((bt a0 a1) == 61) = true := beq_iff_eq.mpr c53
                        have c53b1 : ((bt a0 a1) != 61) = false := bne_eq_false_iff_eq.mpr c53
                        clear c53
                        by_cases c54 : (wrap64 (a1 + 1)) < (a0.size : Int)
                        · rw [if_pos c54] at H
                          have c54b0 : decide ((wrap64 (a1 + 1)) < (a0.size : Int)) = true := decide_eq_true c54
                          clear c54
                          obtain ⟨ji55, hji55⟩ : ∃ j_ : Int, (wrap64 (a1 + 1)) = j_ := ⟨_, rfl⟩
                          replace H : (if 0 ≤ (ji55) then (if (bt a0 (ji55)) = (bt a0 a1) then (if 0 ≤ a1 then (if a1 ≤ (wrap64 (a1 + 2)) then (if (wrap64 (a1 + 2)) ≤ (a0.size : Int) then (some (4, a1, a0.extract (a1 : Int).toNat ((wrap64 (a1 + 2)) : Int).toNat, 0, 0)) else (none)) else (none)) else (none)) else (if 0 ≤ a1 then (if a1 ≤ (ji55) then (if (ji55) ≤ (a0.size : Int) then (some (4, a1, a0.extract (a1 : Int).toNat ((ji55) : Int).toNat, 0, 0)) else (none)) else (none)) else (none))) else (none)) = some (r1, r2, r3, r4, r5) := by first | (rw [hji55] at H; exact H) | (simp only [hji55] at H ⊢; exact H)
                          (try rw [hji55] at c54b0)
                          have hji55w : (IntKind.i64.wrap (a1 + 1)) = ji55 := (i64_w _).trans hji55
                          by_cases c56 : 0 ≤ (ji55)
                          · rw [if_pos c56] at H
                            have c56b0 : decide (0 ≤ (ji55)) = true := decide_eq_true c56
                            clear c56
                            by_cases c58 : (bt a0 (ji55)) = (bt a0 a1)
                            · rw [if_pos c58] at H
                              have c58b0 : ((bt a0 (ji55)) == (bt a0 a1)) = true := beq_iff_eq.mpr c58
                              have c58b1 : ((bt a0 (ji55)) != (bt a0 a1)) = false := bne_eq_false_iff_eq.mpr c58
                              clear c58
                              by_cases c59 : 0 ≤ a1
                              · rw [if_pos c59] at H
                                have c59b0 := eq_true c59
                                have c59b1 : decide (0 ≤ a1) = true := decide_eq_true c59
                                clear c59
                                by_cases c60 : a1 ≤ (wrap64 (a1 + 2))
                                · rw [if_pos c60] at H
                                  have c60b0 := eq_true c60
                                  have c60b1 : decide (a1 ≤ (wrap64 (a1 + 2))) = true := decide_eq_true c60
                                  by_cases c61 : (wrap64 (a1 + 2)) ≤ (a0.size : Int)
                                  · rw [if_pos c61] at H
                                    have c61b0 := eq_true c61
                                    have c61b1 : decide ((wrap64 (a1 + 2)) ≤ (a0.size : Int)) = true := decide_eq_true c61
                                    simp only [Option.some.injEq, Prod.mk.injEq] at H
                                    obtain ⟨rfl, rfl, rfl, rfl, rfl⟩ := H
                                    have p33 : 0 ≤ (x9_1 : Int) := of_decide_eq_true (by first | (with_reducible assumption) | assumption)
                                    have q33 : x9_1 < (13 : Int) := of_decide_eq_true (by first | (with_reducible assumption) | assumption)
                                    have hx33 := bt_at (⟨#[123, 125, 40, 41, 59, 44, 46, 60, 43, 45, 42, 58, 61]⟩ : ByteArray) x9_1
                                    replace p33 := eq_true p33
                                    replace q33 := eq_true q33
                                    have p57 : 0 ≤ ((ji55) : Int) := of_decide_eq_true (by first | (with_reducible assumption) | assumption)
                                    have q57 : (ji55) < (a0.size : Int) := of_decide_eq_true (by first | (with_reducible assumption) | assumption)
                                    have hx57 := bt_at a0 (ji55)
                                    replace p57 := eq_true p57
                                    replace q57 := eq_true q57
                                    have hcz62_0 : wr.cell? ⟨gb45001, 0, none⟩ = some (.int .i64 x45002000_1) := (blk_cell BK45001.out 0).trans rfl
                                    have hcz62_1 : wr.cell? ⟨gb45001, 1, none⟩ = some (.int .i64 x45002001_1) := (blk_cell BK45001.out 1).trans rfl
                                    have hcz62_2 : wr.cell? ⟨gb45001, 2, none⟩ = some (.string x45002002_1) := (blk_cell BK45001.out 2).trans rfl
                                    have hcz62_3 : wr.cell? ⟨gb45001, 3, none⟩ = some (.int .i64 x45002003_1) := (blk_cell BK45001.out 3).trans rfl
                                    have hfz62_0 := blk_frozen BK45001.out 0
                                    have hfz62_1 := blk_frozen BK45001.out 1
                                    have hfz62_2 := blk_frozen BK45001.out 2
                                    have hfz62_3 := blk_frozen BK45001.out 3
                                    go_wp2
                                    refine bodyPost_ret (results_ct rfl _ _ gb45001 30 #[.int .i64 4, .int .i64 a1, .string (a0.extract (a1 : Int).toNat ((wrap64 (a1 + 2)) : Int).toNat), .int .i64 0] (0, 0) _ rfl (by (with_reducible repeat (first | refine blk_drewN ?_ _ | refine blk_drew ?_ | refine blk_alloc ?_ _)); refine blk_put (cs := #[.int .i64 4, .int .i64 a1, .string (a0.extract (a1 : Int).toNat ((wrap64 (a1 + 2)) : Int).toNat), .int .i64 x45002003_1]) ?_ 3 _ rfl; (with_reducible repeat (first | refine blk_drewN ?_ _ | refine blk_drew ?_ | refine blk_alloc ?_ _)); refine blk_put (cs := #[.int .i64 4, .int .i64 a1, .string x45002002_1, .int .i64 x45002003_1]) ?_ 2 _ rfl; (with_reducible repeat (first | refine blk_drewN ?_ _ | refine blk_drew ?_ | refine blk_alloc ?_ _)); refine blk_put (cs := #[.int .i64 4, .int .i64 x45002001_1, .string x45002002_1, .int .i64 x45002003_1]) ?_ 1 _ rfl; (with_reducible repeat (first | refine blk_drewN ?_ _ | refine blk_drew ?_ | refine blk_alloc ?_ _)); refine blk_put (cs := #[.int .i64 x45002000_1, .int .i64 x45002001_1, .string x45002002_1, .int .i64 x45002003_1]) ?_ 0 _ rfl; (with_reducible repeat (first | refine blk_drewN ?_ _ | refine blk_drew ?_ | refine blk_alloc ?_ _)); exact BK45001.out) Tryd.underlying30 rfl (by kernel_rfl)) rfl ?_
                                    exact ⟨by first | rfl | (simp [errW_none, errW_some] <;> rfl) | (simp only [← hji55]; first | rfl | (simp [errW_none, errW_some] <;> rfl)) | (simp [*, errW_none, errW_some] <;> rfl), by repeat (first | (with_reducible first | exact HB.out | apply below_alloc | apply pw_below_drewN | apply below_drew1 | refine below_set ?_ GE45001.out) | exact HB.out)⟩
                                  · rw [if_neg c61] at H
                                    exact absurd H (by simp)
                                · rw [if_neg c60] at H
                                  exact absurd H (by simp)
                              · rw [if_neg c59] at H
                                exact absurd H (by simp)
                            · rw [if_neg c58] at H
                              have c58b0 : ((bt a0 (ji55)) == (bt a0 a1)) = false := beq_eq_false_iff_ne.mpr c58
                              have c58b1 : ((bt a0 (ji55)) != (bt a0 a1)) = true := bne_iff_ne.mpr c58
                              by_cases c63 : 0 ≤ a1
                              · rw [if_pos c63] at H
                                have c63b0 := eq_true c63
                                have c63b1 : decide (0 ≤ a1) = true := decide_eq_true c63
                                clear c63
                                by_cases c64 : a1 ≤ (ji55)
                                · rw [if_pos c64] at H
                                  have c64b0 := eq_true c64
                                  have c64b1 : decide (a1 ≤ (ji55)) = true := decide_eq_true c64
                                  clear c64
                                  by_cases c65 : (ji55) ≤ (a0.size : Int)
                                  · rw [if_pos c65] at H
                                    have c65b0 := eq_true c65
                                    have c65b1 : decide ((ji55) ≤ (a0.size : Int)) = true := decide_eq_true c65
                                    clear c65
                                    simp only [Option.some.injEq, Prod.mk.injEq] at H
                                    obtain ⟨rfl, rfl, rfl, rfl, rfl⟩ := H
                                    have p33 : 0 ≤ (x9_1 : Int) := of_decide_eq_true (by first | (with_reducible assumption) | assumption)
                                    have q33 : x9_1 < (13 : Int) := of_decide_eq_true (by first | (with_reducible assumption) | assumption)
                                    have hx33 := bt_at (⟨#[123, 125, 40, 41, 59, 44, 46, 60, 43, 45, 42, 58, 61]⟩ : ByteArray) x9_1
                                    replace p33 := eq_true p33
                                    replace q33 := eq_true q33
                                    have p57 : 0 ≤ ((ji55) : Int) := of_decide_eq_true (by first | (with_reducible assumption) | assumption)
                                    have q57 : (ji55) < (a0.size : Int) := of_decide_eq_true (by first | (with_reducible assumption) | assumption)
                                    have hx57 := bt_at a0 (ji55)
                                    replace p57 := eq_true p57
                                    replace q57 := eq_true q57
                                    have hcz66_0 : wr.cell? ⟨gb45001, 0, none⟩ = some (.int .i64 x45002000_1) := (blk_cell BK45001.out 0).trans rfl
                                    have hcz66_1 : wr.cell? ⟨gb45001, 1, none⟩ = some (.int .i64 x45002001_1) := (blk_cell BK45001.out 1).trans rfl
                                    have hcz66_2 : wr.cell? ⟨gb45001, 2, none⟩ = some (.string x45002002_1) := (blk_cell BK45001.out 2).trans rfl
                                    have hcz66_3 : wr.cell? ⟨gb45001, 3, none⟩ = some (.int .i64 x45002003_1) := (blk_cell BK45001.out 3).trans rfl
                                    have hfz66_0 := blk_frozen BK45001.out 0
                                    have hfz66_1 := blk_frozen BK45001.out 1
                                    have hfz66_2 := blk_frozen BK45001.out 2
                                    have hfz66_3 := blk_frozen BK45001.out 3
                                    go_wp2
                                    refine bodyPost_ret (results_ct rfl _ _ gb45001 30 #[.int .i64 4, .int .i64 a1, .string (a0.extract (a1 : Int).toNat ((ji55) : Int).toNat), .int .i64 0] (0, 0) _ rfl (by (with_reducible repeat (first | refine blk_drewN ?_ _ | refine blk_drew ?_ | refine blk_alloc ?_ _)); refine blk_put (cs := #[.int .i64 4, .int .i64 a1, .string (a0.extract (a1 : Int).toNat ((ji55) : Int).toNat), .int .i64 x45002003_1]) ?_ 3 _ rfl; (with_reducible repeat (first | refine blk_drewN ?_ _ | refine blk_drew ?_ | refine blk_alloc ?_ _)); refine blk_put (cs := #[.int .i64 4, .int .i64 a1, .string x45002002_1, .int .i64 x45002003_1]) ?_ 2 _ rfl; (with_reducible repeat (first | refine blk_drewN ?_ _ | refine blk_drew ?_ | refine blk_alloc ?_ _)); refine blk_put (cs := #[.int .i64 4, .int .i64 x45002001_1, .string x45002002_1, .int .i64 x45002003_1]) ?_ 1 _ rfl; (with_reducible repeat (first | refine blk_drewN ?_ _ | refine blk_drew ?_ | refine blk_alloc ?_ _)); refine blk_put (cs := #[.int .i64 x45002000_1, .int .i64 x45002001_1, .string x45002002_1, .int .i64 x45002003_1]) ?_ 0 _ rfl; (with_reducible repeat (first | refine blk_drewN ?_ _ | refine blk_drew ?_ | refine blk_alloc ?_ _)); exact BK45001.out) Tryd.underlying30 rfl (by kernel_rfl)) rfl ?_
                                    exact ⟨by first | rfl | (simp [errW_none, errW_some] <;> rfl) | (simp only [← hji55]; first | rfl | (simp [errW_none, errW_some] <;> rfl)) | (simp [*, errW_none, errW_some] <;> rfl), by repeat (first | (with_reducible first | exact HB.out | apply below_alloc | apply pw_below_drewN | apply below_drew1 | refine below_set ?_ GE45001.out) | exact HB.out)⟩
                                  · rw [if_neg c65] at H
                                    exact absurd H (by simp)
                                · rw [if_neg c64] at H
                                  exact absurd H (by simp)
                              · rw [if_neg c63] at H
                                exact absurd H (by simp)
                          · rw [if_neg c56] at H
                            exact absurd H (by simp)
                        · rw [if_neg c54] at H
                          have c54b0 : decide ((wrap64 (a1 + 1)) < (a0.size : Int)) = false := decide_eq_false c54
                          clear c54
                          by_cases c67 : 0 ≤ a1
                          · rw [if_pos c67] at H
                            have c67b0 := eq_true c67
                            have c67b1 : decide (0 ≤ a1) = true := decide_eq_true c67
                            clear c67
                            by_cases c68 : a1 ≤ (wrap64 (a1 + 1))
                            · rw [if_pos c68] at H
                              have c68b0 := eq_true c68
                              have c68b1 : decide (a1 ≤ (wrap64 (a1 + 1))) = true := decide_eq_true c68
                              by_cases c69 : (wrap64 (a1 + 1)) ≤ (a0.size : Int)
                              · rw [if_pos c69] at H
                                have c69b0 := eq_true c69
                                have c69b1 : decide ((wrap64 (a1 + 1)) ≤ (a0.size : Int)) = true := decide_eq_true c69
                                simp only [Option.some.injEq, Prod.mk.injEq] at H
                                obtain ⟨rfl, rfl, rfl, rfl, rfl⟩ := H
                                have p33 : 0 ≤ (x9_1 : Int) := of_decide_eq_true (by first | (with_reducible assumption) | assumption)
                                have q33 : x9_1 < (13 : Int) := of_decide_eq_true (by first | (with_reducible assumption) | assumption)
                                have hx33 := bt_at (⟨#[123, 125, 40, 41, 59, 44, 46, 60, 43, 45, 42, 58, 61]⟩ : ByteArray) x9_1
                                replace p33 := eq_true p33
                                replace q33 := eq_true q33
                                have hcz70_0 : wr.cell? ⟨gb45001, 0, none⟩ = some (.int .i64 x45002000_1) := (blk_cell BK45001.out 0).trans rfl
                                have hcz70_1 : wr.cell? ⟨gb45001, 1, none⟩ = some (.int .i64 x45002001_1) := (blk_cell BK45001.out 1).trans rfl
                                have hcz70_2 : wr.cell? ⟨gb45001, 2, none⟩ = some (.string x45002002_1) := (blk_cell BK45001.out 2).trans rfl
                                have hcz70_3 : wr.cell? ⟨gb45001, 3, none⟩ = some (.int .i64 x45002003_1) := (blk_cell BK45001.out 3).trans rfl
                                have hfz70_0 := blk_frozen BK45001.out 0
                                have hfz70_1 := blk_frozen BK45001.out 1
                                have hfz70_2 := blk_frozen BK45001.out 2
                                have hfz70_3 := blk_frozen BK45001.out 3
                                go_wp2
                                refine bodyPost_ret (results_ct rfl _ _ gb45001 30 #[.int .i64 4, .int .i64 a1, .string (a0.extract (a1 : Int).toNat ((wrap64 (a1 + 1)) : Int).toNat), .int .i64 0] (0, 0) _ rfl (by (with_reducible repeat (first | refine blk_drewN ?_ _ | refine blk_drew ?_ | refine blk_alloc ?_ _)); refine blk_put (cs := #[.int .i64 4, .int .i64 a1, .string (a0.extract (a1 : Int).toNat ((wrap64 (a1 + 1)) : Int).toNat), .int .i64 x45002003_1]) ?_ 3 _ rfl; (with_reducible repeat (first | refine blk_drewN ?_ _ | refine blk_drew ?_ | refine blk_alloc ?_ _)); refine blk_put (cs := #[.int .i64 4, .int .i64 a1, .string x45002002_1, .int .i64 x45002003_1]) ?_ 2 _ rfl; (with_reducible repeat (first | refine blk_drewN ?_ _ | refine blk_drew ?_ | refine blk_alloc ?_ _)); refine blk_put (cs := #[.int .i64 4, .int .i64 x45002001_1, .string x45002002_1, .int .i64 x45002003_1]) ?_ 1 _ rfl; (with_reducible repeat (first | refine blk_drewN ?_ _ | refine blk_drew ?_ | refine blk_alloc ?_ _)); refine blk_put (cs := #[.int .i64 x45002000_1, .int .i64 x45002001_1, .string x45002002_1, .int .i64 x45002003_1]) ?_ 0 _ rfl; (with_reducible repeat (first | refine blk_drewN ?_ _ | refine blk_drew ?_ | refine blk_alloc ?_ _)); exact BK45001.out) Tryd.underlying30 rfl (by kernel_rfl)) rfl ?_
                                exact ⟨by first | rfl | (simp [errW_none, errW_some] <;> rfl) | (simp [*, errW_none, errW_some] <;> rfl), by repeat (first | (with_reducible first | exact HB.out | apply below_alloc | apply pw_below_drewN | apply below_drew1 | refine below_set ?_ GE45001.out) | exact HB.out)⟩
                              · rw [if_neg c69] at H
                                exact absurd H (by simp)
                            · rw [if_neg c68] at H
                              exact absurd H (by simp)
                          · rw [if_neg c67] at H
                            exact absurd H (by simp)
                      · rw [if_neg c53] at H
                        have c53b0 : ((bt a0 a1) == 61) = false := beq_eq_false_iff_ne.mpr c53
                        have c53b1 : ((bt a0 a1) != 61) = true := bne_iff_ne.mpr c53
                        by_cases c71 : 0 ≤ a1
                        · rw [if_pos c71] at H
                          have c71b0 := eq_true c71
                          have c71b1 : decide (0 ≤ a1) = true := decide_eq_true c71
                          clear c71
                          by_cases c72 : a1 ≤ (wrap64 (a1 + 1))
                          · rw [if_pos c72] at H
                            have c72b0 := eq_true c72
                            have c72b1 : decide (a1 ≤ (wrap64 (a1 + 1))) = true := decide_eq_true c72
                            by_cases c73 : (wrap64 (a1 + 1)) ≤ (a0.size : Int)
                            · rw [if_pos c73] at H
                              have c73b0 := eq_true c73
                              have c73b1 : decide ((wrap64 (a1 + 1)) ≤ (a0.size : Int)) = true := decide_eq_true c73
                              simp only [Option.some.injEq, Prod.mk.injEq] at H
                              obtain ⟨rfl, rfl, rfl, rfl, rfl⟩ := H
                              have p33 : 0 ≤ (x9_1 : Int) := of_decide_eq_true (by first | (with_reducible assumption) | assumption)
                              have q33 : x9_1 < (13 : Int) := of_decide_eq_true (by first | (with_reducible assumption) | assumption)
                              have hx33 := bt_at (⟨#[123, 125, 40, 41, 59, 44, 46, 60, 43, 45, 42, 58, 61]⟩ : ByteArray) x9_1
                              replace p33 := eq_true p33
                              replace q33 := eq_true q33
                              have hcz74_0 : wr.cell? ⟨gb45001, 0, none⟩ = some (.int .i64 x45002000_1) := (blk_cell BK45001.out 0).trans rfl
                              have hcz74_1 : wr.cell? ⟨gb45001, 1, none⟩ = some (.int .i64 x45002001_1) := (blk_cell BK45001.out 1).trans rfl
                              have hcz74_2 : wr.cell? ⟨gb45001, 2, none⟩ = some (.string x45002002_1) := (blk_cell BK45001.out 2).trans rfl
                              have hcz74_3 : wr.cell? ⟨gb45001, 3, none⟩ = some (.int .i64 x45002003_1) := (blk_cell BK45001.out 3).trans rfl
                              have hfz74_0 := blk_frozen BK45001.out 0
                              have hfz74_1 := blk_frozen BK45001.out 1
                              have hfz74_2 := blk_frozen BK45001.out 2
                              have hfz74_3 := blk_frozen BK45001.out 3
                              go_wp2
                              refine bodyPost_ret (results_ct rfl _ _ gb45001 30 #[.int .i64 4, .int .i64 a1, .string (a0.extract (a1 : Int).toNat ((wrap64 (a1 + 1)) : Int).toNat), .int .i64 0] (0, 0) _ rfl (by (with_reducible repeat (first | refine blk_drewN ?_ _ | refine blk_drew ?_ | refine blk_alloc ?_ _)); refine blk_put (cs := #[.int .i64 4, .int .i64 a1, .string (a0.extract (a1 : Int).toNat ((wrap64 (a1 + 1)) : Int).toNat), .int .i64 x45002003_1]) ?_ 3 _ rfl; (with_reducible repeat (first | refine blk_drewN ?_ _ | refine blk_drew ?_ | refine blk_alloc ?_ _)); refine blk_put (cs := #[.int .i64 4, .int .i64 a1, .string x45002002_1, .int .i64 x45002003_1]) ?_ 2 _ rfl; (with_reducible repeat (first | refine blk_drewN ?_ _ | refine blk_drew ?_ | refine blk_alloc ?_ _)); refine blk_put (cs := #[.int .i64 4, .int .i64 x45002001_1, .string x45002002_1, .int .i64 x45002003_1]) ?_ 1 _ rfl; (with_reducible repeat (first | refine blk_drewN ?_ _ | refine blk_drew ?_ | refine blk_alloc ?_ _)); refine blk_put (cs := #[.int .i64 x45002000_1, .int .i64 x45002001_1, .string x45002002_1, .int .i64 x45002003_1]) ?_ 0 _ rfl; (with_reducible repeat (first | refine blk_drewN ?_ _ | refine blk_drew ?_ | refine blk_alloc ?_ _)); exact BK45001.out) Tryd.underlying30 rfl (by kernel_rfl)) rfl ?_
                              exact ⟨by first | rfl | (simp [errW_none, errW_some] <;> rfl) | (simp [*, errW_none, errW_some] <;> rfl), by repeat (first | (with_reducible first | exact HB.out | apply below_alloc | apply pw_below_drewN | apply below_drew1 | refine below_set ?_ GE45001.out) | exact HB.out)⟩
                            · rw [if_neg c73] at H
                              exact absurd H (by simp)
                          · rw [if_neg c72] at H
                            exact absurd H (by simp)
                        · rw [if_neg c71] at H
                          exact absurd H (by simp)
                  · rw [if_neg c34] at H
                    have c34b0 : ((bt (⟨#[123, 125, 40, 41, 59, 44, 46, 60, 43, 45, 42, 58, 61]⟩ : ByteArray) x9_1) == (bt a0 a1)) = false := beq_eq_false_iff_ne.mpr c34
                    have c34b1 : ((bt (⟨#[123, 125, 40, 41, 59, 44, 46, 60, 43, 45, 42, 58, 61]⟩ : ByteArray) x9_1) != (bt a0 a1)) = true := bne_iff_ne.mpr c34
                    have H' := Aside0.mk H
                    clear H
                    have p33 : 0 ≤ (x9_1 : Int) := of_decide_eq_true (by first | (with_reducible assumption) | assumption)
                    have q33 : x9_1 < (13 : Int) := of_decide_eq_true (by first | (with_reducible assumption) | assumption)
                    have hx33 := bt_at (⟨#[123, 125, 40, 41, 59, 44, 46, 60, 43, 45, 42, 58, 61]⟩ : ByteArray) x9_1
                    replace p33 := eq_true p33
                    replace q33 := eq_true q33
                    go_wp2
                    go_roundg k1
                    case measure => have := HK1.out; omega
                    case rel => exact ⟨(wrap64 (x9_1 + 1)), (x45002000_1), (x45002001_1), (x45002002_1), (x45002003_1), (by first | rfl | (simp; done) | (simp [*]; done)), H', ⟨by have := HK1.out; omega⟩, ⟨by (with_reducible repeat (first | refine blk_drewN ?_ _ | refine blk_drew ?_ | refine blk_alloc ?_ _)); exact BK45001.out⟩, ⟨by repeat (first | (with_reducible first | exact HB.out | apply below_alloc | apply pw_below_drewN | apply below_drew1 | refine below_set ?_ GE45001.out) | exact HB.out)⟩⟩
                · rw [if_neg c32] at H
                  exact absurd H (by simp)
              · rw [if_neg c31] at H
                have c31b0 : decide (x9_1 < ((⟨#[123, 125, 40, 41, 59, 44, 46, 60, 43, 45, 42, 58, 61]⟩ : ByteArray).size : Int)) = false := decide_eq_false c31
                have c31b8 : decide (x9_1 < (13 : Int)) = false := decide_eq_false c31
                clear c31
                simp only [Option.some.injEq, Prod.mk.injEq] at H
                obtain ⟨rfl, rfl, rfl, rfl, rfl⟩ := H
                have hcz75_0 : wr.cell? ⟨gb45001, 0, none⟩ = some (.int .i64 x45002000_1) := (blk_cell BK45001.out 0).trans rfl
                have hcz75_1 : wr.cell? ⟨gb45001, 1, none⟩ = some (.int .i64 x45002001_1) := (blk_cell BK45001.out 1).trans rfl
                have hcz75_2 : wr.cell? ⟨gb45001, 2, none⟩ = some (.string x45002002_1) := (blk_cell BK45001.out 2).trans rfl
                have hcz75_3 : wr.cell? ⟨gb45001, 3, none⟩ = some (.int .i64 x45002003_1) := (blk_cell BK45001.out 3).trans rfl
                have hfz75_0 := blk_frozen BK45001.out 0
                have hfz75_1 := blk_frozen BK45001.out 1
                have hfz75_2 := blk_frozen BK45001.out 2
                have hfz75_3 := blk_frozen BK45001.out 3
                go_wp2
                refine bodyPost_ret (results_ct rfl _ _ gb45001 30 #[.int .i64 0, .int .i64 0, .string (⟨#[]⟩ : ByteArray), .int .i64 0] (0, 0) _ rfl (by (with_reducible repeat (first | refine blk_drewN ?_ _ | refine blk_drew ?_ | refine blk_alloc ?_ _)); refine blk_put (cs := #[.int .i64 0, .int .i64 0, .string (⟨#[]⟩ : ByteArray), .int .i64 x45002003_1]) ?_ 3 _ rfl; (with_reducible repeat (first | refine blk_drewN ?_ _ | refine blk_drew ?_ | refine blk_alloc ?_ _)); refine blk_put (cs := #[.int .i64 0, .int .i64 0, .string x45002002_1, .int .i64 x45002003_1]) ?_ 2 _ rfl; (with_reducible repeat (first | refine blk_drewN ?_ _ | refine blk_drew ?_ | refine blk_alloc ?_ _)); refine blk_put (cs := #[.int .i64 0, .int .i64 x45002001_1, .string x45002002_1, .int .i64 x45002003_1]) ?_ 1 _ rfl; (with_reducible repeat (first | refine blk_drewN ?_ _ | refine blk_drew ?_ | refine blk_alloc ?_ _)); refine blk_put (cs := #[.int .i64 x45002000_1, .int .i64 x45002001_1, .string x45002002_1, .int .i64 x45002003_1]) ?_ 0 _ rfl; (with_reducible repeat (first | refine blk_drewN ?_ _ | refine blk_drew ?_ | refine blk_alloc ?_ _)); exact BK45001.out) Tryd.underlying30 rfl (by kernel_rfl)) rfl ?_
                exact ⟨by first | rfl | (simp [errW_none, errW_some] <;> rfl) | (simp [*, errW_none, errW_some] <;> rfl), by repeat (first | (with_reducible first | exact HB.out | apply below_alloc | apply pw_below_drewN | apply below_drew1 | refine below_set ?_ GE45001.out) | exact HB.out)⟩
    · rw [if_neg c4] at H
      exact absurd H (by simp)
  · rw [if_neg c3] at H
    exact absurd H (by simp)

end Go.Proofs.YthfhbdncphkdaaaDoor.G

/- Printed by a program of this session (xprint.py, over the kit's printer): Go functions as Lean functions, each with the proof that the call does what the Lean function says. -/
import Derived.Test.YthfhbdncphkdaaaDoorG0
import Derived.Test.YthfhbdncphkdaaaDoorGf13
import Derived.Test.YthfhbdncphkdaaaDoorGf16
import Derived.Test.YthfhbdncphkdaaaDoorGf22
import Derived.Test.YthfhbdncphkdaaaDoorGf23
namespace Go.Proofs.YthfhbdncphkdaaaDoor.G
open Go.RowKit Go.Proofs.YthfhbdncphkdaaaDoorW.PrintWords Go.Proofs.YthfhbdncphkdaaaDoorW.PrintLast Go.Proofs.YthfhbdncphkdaaaDoorW.PrintMore
attribute [local go_sem] max2_int min2_int max_two min_two max_three min_three max_four min_four   -- for this text's walks alone
attribute [local go_sem] xs_gtr xs_leq xs_geq
set_option linter.unusedVariables false
set_option linter.unusedSimpArgs false

/-! ### dataflowlaw07_LexJoins: function 6 -/
mutual
def dataflowlaw07_LexJoins.j0 : Nat → List (S30) → Bool → Option (Bool)
  | 0, _, _ => none
  | k + 1, x3, x23 => if x23 = true then ((dataflowlaw07_awake.f k).bind fun t7006 => (some t7006)) else ((lex_Join.f k x3).bind fun t7007 => ((lex_Tokens.f t7007).bind fun bt7008 => ((dataflowref07_Join.f k x3).bind fun t7013 => (if t7007.toList = t7013.toList then (if bt7008.2.2 = 0 then (dataflowlaw07_LexJoins.j1 k x3 bt7008.1 ((bt7008.1.length : Int) != (x3.length : Int))) else (dataflowlaw07_LexJoins.j1 k x3 bt7008.1 true)) else (dataflowlaw07_LexJoins.j1 k x3 bt7008.1 true)))))
def dataflowlaw07_LexJoins.j1 : Nat → List (S30) → List (S30) → Bool → Option (Bool)
  | 0, _, _, _ => none
  | k + 1, x3, x7, x47 => if x47 = true then (some false) else (dataflowlaw07_LexJoins.l0 k x3 x7 0)
def dataflowlaw07_LexJoins.l0 : Nat → List (S30) → List (S30) → Int → Option (Bool)
  | 0, _, _, _ => none
  | k + 1, x3, x7, x10 => if x10 < (x3.length : Int) then (if 0 ≤ x10 then (if x10 < (x7.length : Int) then (if ((rd_T30 x3 x10).f0) = ((rd_T30 x7 x10).f0) then (if ((rd_T30 x3 x10).f2).toList = ((rd_T30 x7 x10).f2).toList then (if ((rd_T30 x3 x10).f3) = ((rd_T30 x7 x10).f3) then (dataflowlaw07_LexJoins.l0 k x3 x7 (wrap64 (x10 + 1))) else (some false)) else (some false)) else (some false)) else (none)) else (none)) else ((dataflowlaw07_awake.f k).bind fun t7020 => (some t7020))
end
def dataflowlaw07_LexJoins.f (k : Nat) (a0 : ByteArray) : Option (Bool) := (lex_Tokens.f a0).bind fun bt7001 => (if bt7001.2.2 = 0 then (dataflowlaw07_LexJoins.j0 k bt7001.1 (decide ((a0.size : Int) > 3000))) else (dataflowlaw07_LexJoins.j0 k bt7001.1 true))
theorem dataflowlaw07_LexJoins.mono_l : ∀ k, (∀ y0 y1, LeO (dataflowlaw07_LexJoins.j0 k y0 y1) (dataflowlaw07_LexJoins.j0 (k + 1) y0 y1)) ∧ (∀ y0 y1 y2, LeO (dataflowlaw07_LexJoins.j1 k y0 y1 y2) (dataflowlaw07_LexJoins.j1 (k + 1) y0 y1 y2)) ∧ (∀ y0 y1 y2, LeO (dataflowlaw07_LexJoins.l0 k y0 y1 y2) (dataflowlaw07_LexJoins.l0 (k + 1) y0 y1 y2))
  | 0 => ⟨fun _ _ r h => by simp [dataflowlaw07_LexJoins.j0] at h, fun _ _ _ r h => by simp [dataflowlaw07_LexJoins.j1] at h, fun _ _ _ r h => by simp [dataflowlaw07_LexJoins.l0] at h⟩
  | k + 1 => by
    obtain ⟨ih0, ih1, ih2⟩ := dataflowlaw07_LexJoins.mono_l k
    refine ⟨?_, ?_, ?_⟩
    · intro y0 y1
      unfold dataflowlaw07_LexJoins.j0
      repeat' first
      | (with_reducible exact ih0 _ _)
      | (with_reducible exact ih1 _ _ _)
      | (with_reducible exact ih2 _ _ _)
      | (with_reducible exact dataflowlaw07_awake.mono _)
      | (with_reducible exact dataflowref07_Join.mono _ _)
      | (with_reducible exact lex_Join.mono _ _)
      | (with_reducible exact LeO.refl _)
      | (with_reducible exact LeO.none _)
      | (with_reducible refine LeO.ite ?_ ?_)
      | (with_reducible refine LeO.bind ?_ (fun _ => ?_))
      | exact ih0 _ _
      | exact ih1 _ _ _
      | exact ih2 _ _ _
      | exact dataflowlaw07_awake.mono _
      | exact dataflowref07_Join.mono _ _
      | exact lex_Join.mono _ _
      | exact LeO.none _
      | refine LeO.ite ?_ ?_
      | refine LeO.bind ?_ (fun _ => ?_)
    · intro y0 y1 y2
      unfold dataflowlaw07_LexJoins.j1
      repeat' first
      | (with_reducible exact ih0 _ _)
      | (with_reducible exact ih1 _ _ _)
      | (with_reducible exact ih2 _ _ _)
      | (with_reducible exact dataflowlaw07_awake.mono _)
      | (with_reducible exact dataflowref07_Join.mono _ _)
      | (with_reducible exact lex_Join.mono _ _)
      | (with_reducible exact LeO.refl _)
      | (with_reducible exact LeO.none _)
      | (with_reducible refine LeO.ite ?_ ?_)
      | (with_reducible refine LeO.bind ?_ (fun _ => ?_))
      | exact ih0 _ _
      | exact ih1 _ _ _
      | exact ih2 _ _ _
      | exact dataflowlaw07_awake.mono _
      | exact dataflowref07_Join.mono _ _
      | exact lex_Join.mono _ _
      | exact LeO.none _
      | refine LeO.ite ?_ ?_
      | refine LeO.bind ?_ (fun _ => ?_)
    · intro y0 y1 y2
      unfold dataflowlaw07_LexJoins.l0
      repeat' first
      | (with_reducible exact ih0 _ _)
      | (with_reducible exact ih1 _ _ _)
      | (with_reducible exact ih2 _ _ _)
      | (with_reducible exact dataflowlaw07_awake.mono _)
      | (with_reducible exact dataflowref07_Join.mono _ _)
      | (with_reducible exact lex_Join.mono _ _)
      | (with_reducible exact LeO.refl _)
      | (with_reducible exact LeO.none _)
      | (with_reducible refine LeO.ite ?_ ?_)
      | (with_reducible refine LeO.bind ?_ (fun _ => ?_))
      | exact ih0 _ _
      | exact ih1 _ _ _
      | exact ih2 _ _ _
      | exact dataflowlaw07_awake.mono _
      | exact dataflowref07_Join.mono _ _
      | exact lex_Join.mono _ _
      | exact LeO.none _
      | refine LeO.ite ?_ ?_
      | refine LeO.bind ?_ (fun _ => ?_)
theorem dataflowlaw07_LexJoins.mono : ∀ a0 k, LeO (dataflowlaw07_LexJoins.f k a0) (dataflowlaw07_LexJoins.f (k + 1) a0) := by
  intro a0 k
  obtain ⟨ih0, ih1, ih2⟩ := dataflowlaw07_LexJoins.mono_l k
  unfold dataflowlaw07_LexJoins.f
  repeat' first
      | (with_reducible exact ih0 _ _)
      | (with_reducible exact ih1 _ _ _)
      | (with_reducible exact ih2 _ _ _)
      | (with_reducible exact dataflowlaw07_awake.mono _)
      | (with_reducible exact dataflowref07_Join.mono _ _)
      | (with_reducible exact lex_Join.mono _ _)
      | (with_reducible exact LeO.refl _)
      | (with_reducible exact LeO.none _)
      | (with_reducible refine LeO.ite ?_ ?_)
      | (with_reducible refine LeO.bind ?_ (fun _ => ?_))
      | exact ih0 _ _
      | exact ih1 _ _ _
      | exact ih2 _ _ _
      | exact dataflowlaw07_awake.mono _
      | exact dataflowref07_Join.mono _ _
      | exact lex_Join.mono _ _
      | exact LeO.none _
      | refine LeO.ite ?_ ?_
      | refine LeO.bind ?_ (fun _ => ?_)
set_option maxHeartbeats 8000000 in
set_option maxRecDepth 100000 in
theorem dataflowlaw07_LexJoins.calls (k : Nat) (a0 : ByteArray) (r : Bool) (w : World) (hgh : Gh w) (h : dataflowlaw07_LexJoins.f k a0 = some r) :
    Calls Tryd.prog 6 #[.string a0] w fun e w' => e = .returned (.bool r) ∧ Below w.heap.size w w' := by
  have HB := Aside0.mk (Below.refl w.heap.size w)
  have HGH := Aside0.mk hgh
  clear hgh
  have H : ((lex_Tokens.f a0).bind fun bt7001 => (if bt7001.2.2 = 0 then (dataflowlaw07_LexJoins.j0 k bt7001.1 (decide ((a0.size : Int) > 3000))) else (dataflowlaw07_LexJoins.j0 k bt7001.1 true))) = some r := h
  clear h
  replace H := Option.bind_eq_some_iff.mp H
  obtain ⟨⟨t7001, t7002, t7003⟩, A20, H⟩ := H
  replace H : (if t7003 = 0 then (dataflowlaw07_LexJoins.j0 k t7001 (decide ((a0.size : Int) > 3000))) else (dataflowlaw07_LexJoins.j0 k t7001 true)) = some r := H
  have A2 := Aside0.mk A20
  clear A20
  have HC3 := Aside0.mk H
  clear H
  go_enter Tryd.func6, Tryd.ntmps6
  go_upto_region 2 with (first | (go_at_call 13; (with_reducible refine (lex_Tokens.calls a0 t7001 t7002 t7003 _ ?side1 A2.out).mono ?_); (case side1 => exact Gh.below HGH.out (by repeat (first | (with_reducible first | exact HB.out | apply below_alloc | apply pw_below_drewN | apply below_drew1) | exact HB.out))); rintro e w4 ⟨v7004, rfl, ho0, hb⟩; have n0_ := Aside0.mk (Kd.R_lower ho0 (below_size (by repeat (first | (with_reducible first | exact HB.out | apply below_alloc | apply pw_below_drewN | apply below_drew1) | exact HB.out)))); have n1_ := Aside0.mk (below_step (by repeat (first | (with_reducible first | exact HB.out | apply below_alloc | apply pw_below_drewN | apply below_drew1) | exact HB.out)) hb); clear HB; have HO7005 := n0_; have HB := n1_; clear n0_ n1_; (try clear hb); (try clear hb2); (try clear hk); (try clear hi); (try clear ho0)))
  repeat (go_quiet (first | (go_at_call 13; (with_reducible refine (lex_Tokens.calls a0 t7001 t7002 t7003 _ ?side1 A2.out).mono ?_); (case side1 => exact Gh.below HGH.out (by repeat (first | (with_reducible first | exact HB.out | apply below_alloc | apply pw_below_drewN | apply below_drew1) | exact HB.out))); rintro e w4 ⟨v7004, rfl, ho0, hb⟩; have n0_ := Aside0.mk (Kd.R_lower ho0 (below_size (by repeat (first | (with_reducible first | exact HB.out | apply below_alloc | apply pw_below_drewN | apply below_drew1) | exact HB.out)))); have n1_ := Aside0.mk (below_step (by repeat (first | (with_reducible first | exact HB.out | apply below_alloc | apply pw_below_drewN | apply below_drew1) | exact HB.out)) hb); clear HB; have HO7005 := n0_; have HB := n1_; clear n0_ n1_; (try clear hb); (try clear hb2); (try clear hk); (try clear hi); (try clear ho0))); go_upto_region 2 with (first | (go_at_call 13; (with_reducible refine (lex_Tokens.calls a0 t7001 t7002 t7003 _ ?side1 A2.out).mono ?_); (case side1 => exact Gh.below HGH.out (by repeat (first | (with_reducible first | exact HB.out | apply below_alloc | apply pw_below_drewN | apply below_drew1) | exact HB.out))); rintro e w4 ⟨v7004, rfl, ho0, hb⟩; have n0_ := Aside0.mk (Kd.R_lower ho0 (below_size (by repeat (first | (with_reducible first | exact HB.out | apply below_alloc | apply pw_below_drewN | apply below_drew1) | exact HB.out)))); have n1_ := Aside0.mk (below_step (by repeat (first | (with_reducible first | exact HB.out | apply below_alloc | apply pw_below_drewN | apply below_drew1) | exact HB.out)) hb); clear HB; have HO7005 := n0_; have HB := n1_; clear n0_ n1_; (try clear hb); (try clear hb2); (try clear hk); (try clear hi); (try clear ho0))))
  (try simp only [Act.put, List.setIfInBounds_toArray, List.set_cons_zero, List.set_cons_succ])
  go_cut [23] (fun v23 wc => ∃ (kq : Nat) (x23_2 : Bool), v23 = .bool x23_2 ∧ Aside0 (dataflowlaw07_LexJoins.j0 kq t7001 x23_2 = some r) ∧ Aside0 (kq ≤ k) ∧ Aside0 (Kd.R k30 30 wc w.heap.size (fun _ => True) v7004 t7001) ∧ Aside0 (Below w.heap.size w wc))
  case first =>
    have H := HC3.out
    clear HC3
    by_cases c5 : t7003 = 0
    · rw [if_pos c5] at H
      have c5b0 : (t7003 == 0) = true := beq_iff_eq.mpr c5
      have c5b1 : (t7003 != 0) = false := bne_eq_false_iff_eq.mpr c5
      clear c5
      (first | rw [c5b0] | (simp only [i64_w, i32_w]; rw [c5b0]) | skip)
      have H' := Aside0.mk H
      clear H
      go_wp2
      repeat (go_quiet (fail); try go_wp2)
      go_meet
      case rel => exact ⟨_, (decide ((a0.size : Int) > 3000)), (by first | rfl | (simp; done) | (simp [*]; done)), H', ⟨by first | omega | exact Nat.le_refl _⟩, ⟨by (with_reducible repeat (first | apply Kd.R_alloc | apply Kd.R_drewN | apply Kd.R_drew)); exact HO7005.out⟩, ⟨by repeat (first | (with_reducible first | exact HB.out | apply below_alloc | apply pw_below_drewN | apply below_drew1) | exact HB.out)⟩⟩
    · rw [if_neg c5] at H
      have c5b0 : (t7003 == 0) = false := beq_eq_false_iff_ne.mpr c5
      have c5b1 : (t7003 != 0) = true := bne_iff_ne.mpr c5
      (first | rw [c5b0] | (simp only [i64_w, i32_w]; rw [c5b0]) | skip)
      have H' := Aside0.mk H
      clear H
      go_wp2
      repeat (go_quiet (fail); try go_wp2)
      go_meet
      case rel => exact ⟨_, (true), (by first | rfl | (simp; done) | (simp [*]; done)), H', ⟨by first | omega | exact Nat.le_refl _⟩, ⟨by (with_reducible repeat (first | apply Kd.R_alloc | apply Kd.R_drewN | apply Kd.R_drew)); exact HO7005.out⟩, ⟨by repeat (first | (with_reducible first | exact HB.out | apply below_alloc | apply pw_below_drewN | apply below_drew1) | exact HB.out)⟩⟩
  case rest =>
    clear HC3
    try clear p2
    try clear c5
    try clear c5b0
    try clear c5b1
    obtain ⟨kq, x23_2, rfl, HA, HJ2, HO_3, HB⟩ := hcut
    cases kq with
    | zero => exact absurd HA.out (by simp [dataflowlaw07_LexJoins.j0])
    | succ kj2 =>
      have H := HA.out
      clear HA
      simp only [dataflowlaw07_LexJoins.j0] at H
      by_cases c6 : x23_2 = true
      · subst c6
        have H1 : ((dataflowlaw07_awake.f kj2).bind fun t7006 => (some t7006)) = some r := by rw [if_pos rfl] at H; exact H
        clear H
        have H := H1
        clear H1
        replace H := Option.bind_eq_some_iff.mp H
        obtain ⟨t7006, A70, H⟩ := H
        replace H : (some t7006) = some r := H
        have A7 := Aside0.mk A70
        clear A70
        obtain rfl := Option.some.inj H
        go_wp2_with (first | (go_at_call 16; (with_reducible refine (dataflowlaw07_awake.calls kj2  t7006 _ ?side1 A7.out).mono ?_); (case side1 => exact Gh.below HGH.out (by repeat (first | (with_reducible first | exact HB.out | apply below_alloc | apply pw_below_drewN | apply below_drew1) | exact HB.out))); rintro e w8 ⟨rfl, hb⟩; have n0_ := Aside0.mk (Kd.R_below (by (with_reducible repeat (first | apply Kd.R_alloc | apply Kd.R_drewN | apply Kd.R_drew)); exact HO_3.out) hb); have n1_ := Aside0.mk (below_step (by repeat (first | (with_reducible first | exact HB.out | apply below_alloc | apply pw_below_drewN | apply below_drew1) | exact HB.out)) hb); clear HO_3; clear HB; have HO_3 := n0_; have HB := n1_; clear n0_ n1_; (try clear hb); (try clear hb2); (try clear hk); (try clear hi)))
        repeat (go_quiet (first | (go_at_call 16; (with_reducible refine (dataflowlaw07_awake.calls kj2  t7006 _ ?side1 A7.out).mono ?_); (case side1 => exact Gh.below HGH.out (by repeat (first | (with_reducible first | exact HB.out | apply below_alloc | apply pw_below_drewN | apply below_drew1) | exact HB.out))); rintro e w8 ⟨rfl, hb⟩; have n0_ := Aside0.mk (Kd.R_below (by (with_reducible repeat (first | apply Kd.R_alloc | apply Kd.R_drewN | apply Kd.R_drew)); exact HO_3.out) hb); have n1_ := Aside0.mk (below_step (by repeat (first | (with_reducible first | exact HB.out | apply below_alloc | apply pw_below_drewN | apply below_drew1) | exact HB.out)) hb); clear HO_3; clear HB; have HO_3 := n0_; have HB := n1_; clear n0_ n1_; (try clear hb); (try clear hb2); (try clear hk); (try clear hi))); try go_wp2_with (first | (go_at_call 16; (with_reducible refine (dataflowlaw07_awake.calls kj2  t7006 _ ?side1 A7.out).mono ?_); (case side1 => exact Gh.below HGH.out (by repeat (first | (with_reducible first | exact HB.out | apply below_alloc | apply pw_below_drewN | apply below_drew1) | exact HB.out))); rintro e w8 ⟨rfl, hb⟩; have n0_ := Aside0.mk (Kd.R_below (by (with_reducible repeat (first | apply Kd.R_alloc | apply Kd.R_drewN | apply Kd.R_drew)); exact HO_3.out) hb); have n1_ := Aside0.mk (below_step (by repeat (first | (with_reducible first | exact HB.out | apply below_alloc | apply pw_below_drewN | apply below_drew1) | exact HB.out)) hb); clear HO_3; clear HB; have HO_3 := n0_; have HB := n1_; clear n0_ n1_; (try clear hb); (try clear hb2); (try clear hk); (try clear hi))))
        go_ret
        exact ⟨by first | rfl | (simp [errW_none, errW_some] <;> rfl) | (simp [*, errW_none, errW_some] <;> rfl), by repeat (first | (with_reducible first | exact HB.out | apply below_alloc | apply pw_below_drewN | apply below_drew1) | exact HB.out)⟩
      · replace c6 := Bool.eq_false_iff.mpr c6
        subst c6
        have H1 : ((lex_Join.f kj2 t7001).bind fun t7007 => ((lex_Tokens.f t7007).bind fun bt7008 => ((dataflowref07_Join.f kj2 t7001).bind fun t7013 => (if t7007.toList = t7013.toList then (if bt7008.2.2 = 0 then (dataflowlaw07_LexJoins.j1 kj2 t7001 bt7008.1 ((bt7008.1.length : Int) != (t7001.length : Int))) else (dataflowlaw07_LexJoins.j1 kj2 t7001 bt7008.1 true)) else (dataflowlaw07_LexJoins.j1 kj2 t7001 bt7008.1 true))))) = some r := by rw [if_neg (show ¬ (false = true) by decide)] at H; exact H
        clear H
        have H := H1
        clear H1
        replace H := Option.bind_eq_some_iff.mp H
        obtain ⟨t7007, A90, H⟩ := H
        replace H : ((lex_Tokens.f t7007).bind fun bt7008 => ((dataflowref07_Join.f kj2 t7001).bind fun t7013 => (if t7007.toList = t7013.toList then (if bt7008.2.2 = 0 then (dataflowlaw07_LexJoins.j1 kj2 t7001 bt7008.1 ((bt7008.1.length : Int) != (t7001.length : Int))) else (dataflowlaw07_LexJoins.j1 kj2 t7001 bt7008.1 true)) else (dataflowlaw07_LexJoins.j1 kj2 t7001 bt7008.1 true)))) = some r := H
        have A9 := Aside0.mk A90
        clear A90
        replace H := Option.bind_eq_some_iff.mp H
        obtain ⟨⟨t7008, t7009, t7010⟩, A100, H⟩ := H
        replace H : ((dataflowref07_Join.f kj2 t7001).bind fun t7013 => (if t7007.toList = t7013.toList then (if t7010 = 0 then (dataflowlaw07_LexJoins.j1 kj2 t7001 t7008 ((t7008.length : Int) != (t7001.length : Int))) else (dataflowlaw07_LexJoins.j1 kj2 t7001 t7008 true)) else (dataflowlaw07_LexJoins.j1 kj2 t7001 t7008 true))) = some r := H
        have A10 := Aside0.mk A100
        clear A100
        have HC11 := Aside0.mk H
        clear H
        obtain ⟨Ao12, co12, eo12⟩ := Kd.R_slice HO_3.out
        subst eo12
        go_upto_region 6 with (first | (go_at_call 22; (with_reducible refine (lex_Join.calls kj2 _ _ t7001 t7007 _ ?side1 ?side2 A9.out).mono ?_); (case side1 => repeat (first | exact (Kd.R_reads' HO_3.out).2.2 | (with_reducible refine Kd.C_alloc ?_ _) | (with_reducible refine Kd.C_drewN ?_ _) | (with_reducible refine Kd.C_drew ?_))); (case side2 => exact (Kd.R_reads' HO_3.out).2.1); rintro e w13 ⟨rfl, hb⟩; have n0_ := Aside0.mk (Kd.R_below (by (with_reducible repeat (first | apply Kd.R_alloc | apply Kd.R_drewN | apply Kd.R_drew)); exact HO_3.out) hb); have n1_ := Aside0.mk (below_step (by repeat (first | (with_reducible first | exact HB.out | apply below_alloc | apply pw_below_drewN | apply below_drew1) | exact HB.out)) hb); clear HO_3; clear HB; have HO_3 := n0_; have HB := n1_; clear n0_ n1_; (try clear hb); (try clear hb2); (try clear hk); (try clear hi)) | (go_at_call 13; (with_reducible refine (lex_Tokens.calls t7007 t7008 t7009 t7010 _ ?side1 A10.out).mono ?_); (case side1 => exact Gh.below HGH.out (by repeat (first | (with_reducible first | exact HB.out | apply below_alloc | apply pw_below_drewN | apply below_drew1) | exact HB.out))); rintro e w14 ⟨v7011, rfl, ho0, hb⟩; have n0_ := Aside0.mk (Kd.R_elder' (by (with_reducible repeat (first | apply Kd.R_alloc | apply Kd.R_drewN | apply Kd.R_drew)); exact HO_3.out) (Kd.R_base ho0) hb); have n1_ := Aside0.mk (Kd.R_lower (Kd.R_new' ho0 (Kd.R_lt (by (with_reducible repeat (first | apply Kd.R_alloc | apply Kd.R_drewN | apply Kd.R_drew)); exact HO_3.out))) (below_size (by repeat (first | (with_reducible first | exact HB.out | apply below_alloc | apply pw_below_drewN | apply below_drew1) | exact HB.out)))); have n2_ := Aside0.mk (below_step (by repeat (first | (with_reducible first | exact HB.out | apply below_alloc | apply pw_below_drewN | apply below_drew1) | exact HB.out)) hb); clear HO_3; clear HB; have HO_3 := n0_; have HO7012 := n1_; have HB := n2_; clear n0_ n1_ n2_; (try clear hb); (try clear hb2); (try clear hk); (try clear hi); (try clear ho0)))
        repeat (go_quiet (first | (go_at_call 22; (with_reducible refine (lex_Join.calls kj2 _ _ t7001 t7007 _ ?side1 ?side2 A9.out).mono ?_); (case side1 => repeat (first | exact (Kd.R_reads' HO_3.out).2.2 | (with_reducible refine Kd.C_alloc ?_ _) | (with_reducible refine Kd.C_drewN ?_ _) | (with_reducible refine Kd.C_drew ?_))); (case side2 => exact (Kd.R_reads' HO_3.out).2.1); rintro e w13 ⟨rfl, hb⟩; have n0_ := Aside0.mk (Kd.R_below (by (with_reducible repeat (first | apply Kd.R_alloc | apply Kd.R_drewN | apply Kd.R_drew)); exact HO_3.out) hb); have n1_ := Aside0.mk (below_step (by repeat (first | (with_reducible first | exact HB.out | apply below_alloc | apply pw_below_drewN | apply below_drew1) | exact HB.out)) hb); clear HO_3; clear HB; have HO_3 := n0_; have HB := n1_; clear n0_ n1_; (try clear hb); (try clear hb2); (try clear hk); (try clear hi)) | (go_at_call 13; (with_reducible refine (lex_Tokens.calls t7007 t7008 t7009 t7010 _ ?side1 A10.out).mono ?_); (case side1 => exact Gh.below HGH.out (by repeat (first | (with_reducible first | exact HB.out | apply below_alloc | apply pw_below_drewN | apply below_drew1) | exact HB.out))); rintro e w14 ⟨v7011, rfl, ho0, hb⟩; have n0_ := Aside0.mk (Kd.R_elder' (by (with_reducible repeat (first | apply Kd.R_alloc | apply Kd.R_drewN | apply Kd.R_drew)); exact HO_3.out) (Kd.R_base ho0) hb); have n1_ := Aside0.mk (Kd.R_lower (Kd.R_new' ho0 (Kd.R_lt (by (with_reducible repeat (first | apply Kd.R_alloc | apply Kd.R_drewN | apply Kd.R_drew)); exact HO_3.out))) (below_size (by repeat (first | (with_reducible first | exact HB.out | apply below_alloc | apply pw_below_drewN | apply below_drew1) | exact HB.out)))); have n2_ := Aside0.mk (below_step (by repeat (first | (with_reducible first | exact HB.out | apply below_alloc | apply pw_below_drewN | apply below_drew1) | exact HB.out)) hb); clear HO_3; clear HB; have HO_3 := n0_; have HO7012 := n1_; have HB := n2_; clear n0_ n1_ n2_; (try clear hb); (try clear hb2); (try clear hk); (try clear hi); (try clear ho0))); go_upto_region 6 with (first | (go_at_call 22; (with_reducible refine (lex_Join.calls kj2 _ _ t7001 t7007 _ ?side1 ?side2 A9.out).mono ?_); (case side1 => repeat (first | exact (Kd.R_reads' HO_3.out).2.2 | (with_reducible refine Kd.C_alloc ?_ _) | (with_reducible refine Kd.C_drewN ?_ _) | (with_reducible refine Kd.C_drew ?_))); (case side2 => exact (Kd.R_reads' HO_3.out).2.1); rintro e w13 ⟨rfl, hb⟩; have n0_ := Aside0.mk (Kd.R_below (by (with_reducible repeat (first | apply Kd.R_alloc | apply Kd.R_drewN | apply Kd.R_drew)); exact HO_3.out) hb); have n1_ := Aside0.mk (below_step (by repeat (first | (with_reducible first | exact HB.out | apply below_alloc | apply pw_below_drewN | apply below_drew1) | exact HB.out)) hb); clear HO_3; clear HB; have HO_3 := n0_; have HB := n1_; clear n0_ n1_; (try clear hb); (try clear hb2); (try clear hk); (try clear hi)) | (go_at_call 13; (with_reducible refine (lex_Tokens.calls t7007 t7008 t7009 t7010 _ ?side1 A10.out).mono ?_); (case side1 => exact Gh.below HGH.out (by repeat (first | (with_reducible first | exact HB.out | apply below_alloc | apply pw_below_drewN | apply below_drew1) | exact HB.out))); rintro e w14 ⟨v7011, rfl, ho0, hb⟩; have n0_ := Aside0.mk (Kd.R_elder' (by (with_reducible repeat (first | apply Kd.R_alloc | apply Kd.R_drewN | apply Kd.R_drew)); exact HO_3.out) (Kd.R_base ho0) hb); have n1_ := Aside0.mk (Kd.R_lower (Kd.R_new' ho0 (Kd.R_lt (by (with_reducible repeat (first | apply Kd.R_alloc | apply Kd.R_drewN | apply Kd.R_drew)); exact HO_3.out))) (below_size (by repeat (first | (with_reducible first | exact HB.out | apply below_alloc | apply pw_below_drewN | apply below_drew1) | exact HB.out)))); have n2_ := Aside0.mk (below_step (by repeat (first | (with_reducible first | exact HB.out | apply below_alloc | apply pw_below_drewN | apply below_drew1) | exact HB.out)) hb); clear HO_3; clear HB; have HO_3 := n0_; have HO7012 := n1_; have HB := n2_; clear n0_ n1_ n2_; (try clear hb); (try clear hb2); (try clear hk); (try clear hi); (try clear ho0))))
        (try simp only [Act.put, List.setIfInBounds_toArray, List.set_cons_zero, List.set_cons_succ])
        go_cut [47] (fun v47 wc => ∃ (kq : Nat) (x47_10 : Bool), v47 = .bool x47_10 ∧ Aside0 (dataflowlaw07_LexJoins.j1 kq t7001 t7008 x47_10 = some r) ∧ Aside0 (kq ≤ kj2) ∧ Aside0 (Kd.R k30 30 wc w.heap.size (fun k_ => some k_ ≠ (v7011 : Value).ownBlock) (.slice Ao12 t7001.length co12) t7001) ∧ Aside0 (Kd.R k30 30 wc w.heap.size (fun k_ => some k_ ≠ ((.slice Ao12 t7001.length co12) : Value).ownBlock) v7011 t7008) ∧ Aside0 (Below w.heap.size w wc))
        case first =>
          have H := HC11.out
          clear HC11
          replace H := Option.bind_eq_some_iff.mp H
          obtain ⟨t7013, A150, H⟩ := H
          replace H : (if t7007.toList = t7013.toList then (if t7010 = 0 then (dataflowlaw07_LexJoins.j1 kj2 t7001 t7008 ((t7008.length : Int) != (t7001.length : Int))) else (dataflowlaw07_LexJoins.j1 kj2 t7001 t7008 true)) else (dataflowlaw07_LexJoins.j1 kj2 t7001 t7008 true)) = some r := H
          have A15 := Aside0.mk A150
          clear A150
          by_cases c16 : t7007.toList = t7013.toList
          · rw [if_pos c16] at H
            have c16b0 : (t7007.toList == t7013.toList) = true := beq_iff_eq.mpr c16
            have c16b1 : (t7007.toList != t7013.toList) = false := bne_eq_false_iff_eq.mpr c16
            clear c16
            (first | rw [c16b0] | (simp only [i64_w, i32_w]; rw [c16b0]) | skip)
            by_cases c17 : t7010 = 0
            · rw [if_pos c17] at H
              have c17b0 : (t7010 == 0) = true := beq_iff_eq.mpr c17
              have c17b1 : (t7010 != 0) = false := bne_eq_false_iff_eq.mpr c17
              clear c17
              have H' := Aside0.mk H
              clear H
              go_wp2_with (first | (go_at_call 23; (with_reducible refine (dataflowref07_Join.calls kj2 _ _ t7001 t7013 _ ?side1 ?side2 A15.out).mono ?_); (case side1 => repeat (first | exact (Kd.R_reads' HO_3.out).2.2 | (with_reducible refine Kd.C_alloc ?_ _) | (with_reducible refine Kd.C_drewN ?_ _) | (with_reducible refine Kd.C_drew ?_))); (case side2 => exact (Kd.R_reads' HO_3.out).2.1); rintro e w' ⟨rfl, ⟨nd, rfl⟩⟩; (try first | exact ⟨rfl, _, World.drewN_drewN _ _ _⟩ | exact ⟨rfl, _, Eq.trans (World.drewN_drewN _ _ _) (congrArg (World.drewN _) (Nat.add_assoc _ _ _))⟩); obtain ⟨Ao18, co18, eo18⟩ := Kd.R_slice HO7012.out; subst eo18))
              repeat (go_quiet (first | (go_at_call 23; (with_reducible refine (dataflowref07_Join.calls kj2 _ _ t7001 t7013 _ ?side1 ?side2 A15.out).mono ?_); (case side1 => repeat (first | exact (Kd.R_reads' HO_3.out).2.2 | (with_reducible refine Kd.C_alloc ?_ _) | (with_reducible refine Kd.C_drewN ?_ _) | (with_reducible refine Kd.C_drew ?_))); (case side2 => exact (Kd.R_reads' HO_3.out).2.1); rintro e w' ⟨rfl, ⟨nd, rfl⟩⟩; (try first | exact ⟨rfl, _, World.drewN_drewN _ _ _⟩ | exact ⟨rfl, _, Eq.trans (World.drewN_drewN _ _ _) (congrArg (World.drewN _) (Nat.add_assoc _ _ _))⟩); obtain ⟨Ao18, co18, eo18⟩ := Kd.R_slice HO7012.out; subst eo18)); try go_wp2_with (first | (go_at_call 23; (with_reducible refine (dataflowref07_Join.calls kj2 _ _ t7001 t7013 _ ?side1 ?side2 A15.out).mono ?_); (case side1 => repeat (first | exact (Kd.R_reads' HO_3.out).2.2 | (with_reducible refine Kd.C_alloc ?_ _) | (with_reducible refine Kd.C_drewN ?_ _) | (with_reducible refine Kd.C_drew ?_))); (case side2 => exact (Kd.R_reads' HO_3.out).2.1); rintro e w' ⟨rfl, ⟨nd, rfl⟩⟩; (try first | exact ⟨rfl, _, World.drewN_drewN _ _ _⟩ | exact ⟨rfl, _, Eq.trans (World.drewN_drewN _ _ _) (congrArg (World.drewN _) (Nat.add_assoc _ _ _))⟩); obtain ⟨Ao18, co18, eo18⟩ := Kd.R_slice HO7012.out; subst eo18)))
              go_meet
              case rel => exact ⟨_, (((t7008.length : Int) != (t7001.length : Int))), (by first | rfl | (simp; done) | (simp [*]; done)), H', ⟨by have := HJ2.out; first | omega | exact Nat.le_refl _⟩, ⟨by (with_reducible repeat (first | apply Kd.R_alloc | apply Kd.R_drewN | apply Kd.R_drew)); exact Kd.R_mono HO_3.out (fun _ hk => hk.2)⟩, ⟨by (with_reducible repeat (first | apply Kd.R_alloc | apply Kd.R_drewN | apply Kd.R_drew)); exact Kd.R_mono HO7012.out (fun _ hk => hk.2)⟩, ⟨by repeat (first | (with_reducible first | exact HB.out | apply below_alloc | apply pw_below_drewN | apply below_drew1) | exact HB.out)⟩⟩
            · rw [if_neg c17] at H
              have c17b0 : (t7010 == 0) = false := beq_eq_false_iff_ne.mpr c17
              have c17b1 : (t7010 != 0) = true := bne_iff_ne.mpr c17
              have H' := Aside0.mk H
              clear H
              go_wp2_with (first | (go_at_call 23; (with_reducible refine (dataflowref07_Join.calls kj2 _ _ t7001 t7013 _ ?side1 ?side2 A15.out).mono ?_); (case side1 => repeat (first | exact (Kd.R_reads' HO_3.out).2.2 | (with_reducible refine Kd.C_alloc ?_ _) | (with_reducible refine Kd.C_drewN ?_ _) | (with_reducible refine Kd.C_drew ?_))); (case side2 => exact (Kd.R_reads' HO_3.out).2.1); rintro e w' ⟨rfl, ⟨nd, rfl⟩⟩; (try first | exact ⟨rfl, _, World.drewN_drewN _ _ _⟩ | exact ⟨rfl, _, Eq.trans (World.drewN_drewN _ _ _) (congrArg (World.drewN _) (Nat.add_assoc _ _ _))⟩)))
              repeat (go_quiet (first | (go_at_call 23; (with_reducible refine (dataflowref07_Join.calls kj2 _ _ t7001 t7013 _ ?side1 ?side2 A15.out).mono ?_); (case side1 => repeat (first | exact (Kd.R_reads' HO_3.out).2.2 | (with_reducible refine Kd.C_alloc ?_ _) | (with_reducible refine Kd.C_drewN ?_ _) | (with_reducible refine Kd.C_drew ?_))); (case side2 => exact (Kd.R_reads' HO_3.out).2.1); rintro e w' ⟨rfl, ⟨nd, rfl⟩⟩; (try first | exact ⟨rfl, _, World.drewN_drewN _ _ _⟩ | exact ⟨rfl, _, Eq.trans (World.drewN_drewN _ _ _) (congrArg (World.drewN _) (Nat.add_assoc _ _ _))⟩))); try go_wp2_with (first | (go_at_call 23; (with_reducible refine (dataflowref07_Join.calls kj2 _ _ t7001 t7013 _ ?side1 ?side2 A15.out).mono ?_); (case side1 => repeat (first | exact (Kd.R_reads' HO_3.out).2.2 | (with_reducible refine Kd.C_alloc ?_ _) | (with_reducible refine Kd.C_drewN ?_ _) | (with_reducible refine Kd.C_drew ?_))); (case side2 => exact (Kd.R_reads' HO_3.out).2.1); rintro e w' ⟨rfl, ⟨nd, rfl⟩⟩; (try first | exact ⟨rfl, _, World.drewN_drewN _ _ _⟩ | exact ⟨rfl, _, Eq.trans (World.drewN_drewN _ _ _) (congrArg (World.drewN _) (Nat.add_assoc _ _ _))⟩))))
              go_meet
              case rel => exact ⟨_, (true), (by first | rfl | (simp; done) | (simp [*]; done)), H', ⟨by have := HJ2.out; first | omega | exact Nat.le_refl _⟩, ⟨by (with_reducible repeat (first | apply Kd.R_alloc | apply Kd.R_drewN | apply Kd.R_drew)); exact Kd.R_mono HO_3.out (fun _ hk => hk.2)⟩, ⟨by (with_reducible repeat (first | apply Kd.R_alloc | apply Kd.R_drewN | apply Kd.R_drew)); exact Kd.R_mono HO7012.out (fun _ hk => hk.2)⟩, ⟨by repeat (first | (with_reducible first | exact HB.out | apply below_alloc | apply pw_below_drewN | apply below_drew1) | exact HB.out)⟩⟩
          · rw [if_neg c16] at H
            have c16b0 : (t7007.toList == t7013.toList) = false := beq_eq_false_iff_ne.mpr c16
            have c16b1 : (t7007.toList != t7013.toList) = true := bne_iff_ne.mpr c16
            (first | rw [c16b0] | (simp only [i64_w, i32_w]; rw [c16b0]) | skip)
            have H' := Aside0.mk H
            clear H
            go_wp2_with (first | (go_at_call 23; (with_reducible refine (dataflowref07_Join.calls kj2 _ _ t7001 t7013 _ ?side1 ?side2 A15.out).mono ?_); (case side1 => repeat (first | exact (Kd.R_reads' HO_3.out).2.2 | (with_reducible refine Kd.C_alloc ?_ _) | (with_reducible refine Kd.C_drewN ?_ _) | (with_reducible refine Kd.C_drew ?_))); (case side2 => exact (Kd.R_reads' HO_3.out).2.1); rintro e w' ⟨rfl, ⟨nd, rfl⟩⟩; (try first | exact ⟨rfl, _, World.drewN_drewN _ _ _⟩ | exact ⟨rfl, _, Eq.trans (World.drewN_drewN _ _ _) (congrArg (World.drewN _) (Nat.add_assoc _ _ _))⟩)))
            repeat (go_quiet (first | (go_at_call 23; (with_reducible refine (dataflowref07_Join.calls kj2 _ _ t7001 t7013 _ ?side1 ?side2 A15.out).mono ?_); (case side1 => repeat (first | exact (Kd.R_reads' HO_3.out).2.2 | (with_reducible refine Kd.C_alloc ?_ _) | (with_reducible refine Kd.C_drewN ?_ _) | (with_reducible refine Kd.C_drew ?_))); (case side2 => exact (Kd.R_reads' HO_3.out).2.1); rintro e w' ⟨rfl, ⟨nd, rfl⟩⟩; (try first | exact ⟨rfl, _, World.drewN_drewN _ _ _⟩ | exact ⟨rfl, _, Eq.trans (World.drewN_drewN _ _ _) (congrArg (World.drewN _) (Nat.add_assoc _ _ _))⟩))); try go_wp2_with (first | (go_at_call 23; (with_reducible refine (dataflowref07_Join.calls kj2 _ _ t7001 t7013 _ ?side1 ?side2 A15.out).mono ?_); (case side1 => repeat (first | exact (Kd.R_reads' HO_3.out).2.2 | (with_reducible refine Kd.C_alloc ?_ _) | (with_reducible refine Kd.C_drewN ?_ _) | (with_reducible refine Kd.C_drew ?_))); (case side2 => exact (Kd.R_reads' HO_3.out).2.1); rintro e w' ⟨rfl, ⟨nd, rfl⟩⟩; (try first | exact ⟨rfl, _, World.drewN_drewN _ _ _⟩ | exact ⟨rfl, _, Eq.trans (World.drewN_drewN _ _ _) (congrArg (World.drewN _) (Nat.add_assoc _ _ _))⟩))))
            go_meet
            case rel => exact ⟨_, (true), (by first | rfl | (simp; done) | (simp [*]; done)), H', ⟨by have := HJ2.out; first | omega | exact Nat.le_refl _⟩, ⟨by (with_reducible repeat (first | apply Kd.R_alloc | apply Kd.R_drewN | apply Kd.R_drew)); exact Kd.R_mono HO_3.out (fun _ hk => hk.2)⟩, ⟨by (with_reducible repeat (first | apply Kd.R_alloc | apply Kd.R_drewN | apply Kd.R_drew)); exact Kd.R_mono HO7012.out (fun _ hk => hk.2)⟩, ⟨by repeat (first | (with_reducible first | exact HB.out | apply below_alloc | apply pw_below_drewN | apply below_drew1) | exact HB.out)⟩⟩
        case rest =>
          clear HC11
          try clear c1
          try clear p2
          try clear c5
          try clear c5b0
          try clear c5b1
          try clear c6
          try clear c16
          try clear c16b0
          try clear c16b1
          try clear c17
          try clear c17b0
          try clear c17b1
          try clear p2
          obtain ⟨kq, x47_10, rfl, HA, HJ10, HO_3, HO_7, HB⟩ := hcut
          cases kq with
          | zero => exact absurd HA.out (by simp [dataflowlaw07_LexJoins.j1])
          | succ kj10 =>
            have H := HA.out
            clear HA
            simp only [dataflowlaw07_LexJoins.j1] at H
            by_cases c19 : x47_10 = true
            · subst c19
              have H1 : (some false) = some r := by rw [if_pos rfl] at H; exact H
              clear H
              have H := H1
              clear H1
              obtain rfl := Option.some.inj H
              go_wp2
              repeat (go_quiet (fail); try go_wp2)
              go_ret
              exact ⟨by first | rfl | (simp [errW_none, errW_some] <;> rfl) | (simp [*, errW_none, errW_some] <;> rfl), by repeat (first | (with_reducible first | exact HB.out | apply below_alloc | apply pw_below_drewN | apply below_drew1) | exact HB.out)⟩
            · replace c19 := Bool.eq_false_iff.mpr c19
              subst c19
              have H1 : (dataflowlaw07_LexJoins.l0 kj10 t7001 t7008 0) = some r := by rw [if_neg (show ¬ (false = true) by decide)] at H; exact H
              clear H
              have H := H1
              clear H1
              have H' := Aside0.mk H
              clear H
              go_wp2
              repeat (go_quiet (fail); try go_wp2)
              go_loopg [10] kj10 (fun kq v10 w' => ∃ (x10_3 : Int), v10 = .int .i64 x10_3 ∧ Aside0 (dataflowlaw07_LexJoins.l0 kq t7001 t7008 x10_3 = some r) ∧ Aside0 (kq ≤ kj10) ∧ Aside0 (Kd.R k30 30 w' w.heap.size (fun k_ => some k_ ≠ (v7011 : Value).ownBlock) (.slice Ao12 t7001.length co12) t7001) ∧ Aside0 (Kd.R k30 30 w' w.heap.size (fun k_ => some k_ ≠ ((.slice Ao12 t7001.length co12) : Value).ownBlock) v7011 t7008) ∧ Aside0 (Below w.heap.size w w'))
              case atStart => exact ⟨(0), (by first | rfl | (simp; done) | (simp [*]; done)), H', ⟨Nat.le_refl _⟩, ⟨by (with_reducible repeat (first | apply Kd.R_alloc | apply Kd.R_drewN | apply Kd.R_drew)); exact HO_3.out⟩, ⟨by (with_reducible repeat (first | apply Kd.R_alloc | apply Kd.R_drewN | apply Kd.R_drew)); exact HO_7.out⟩, ⟨by repeat (first | (with_reducible first | exact HB.out | apply below_alloc | apply pw_below_drewN | apply below_drew1) | exact HB.out)⟩⟩
              case round =>
                clear H'
                try clear c1
                try clear p2
                try clear c5
                try clear c5b0
                try clear c5b1
                try clear c6
                try clear c16
                try clear c16b0
                try clear c16b1
                try clear c17
                try clear c17b0
                try clear c17b1
                try clear c19
                try clear p2
                obtain ⟨x10_3, rfl, HA, HK3, HO_3, HO_7, HB⟩ := hrel
                cases gk with
                | zero => exact absurd HA.out (by simp [dataflowlaw07_LexJoins.l0])
                | succ k3 =>
                  have H := HA.out
                  clear HA
                  simp only [dataflowlaw07_LexJoins.l0] at H
                  by_cases c20 : x10_3 < (t7001.length : Int)
                  · rw [if_pos c20] at H
                    have c20b0 : decide (x10_3 < (t7001.length : Int)) = true := decide_eq_true c20
                    clear c20
                    by_cases c21 : 0 ≤ x10_3
                    · rw [if_pos c21] at H
                      have c21b0 : decide (0 ≤ x10_3) = true := decide_eq_true c21
                      clear c21
                      by_cases c22 : x10_3 < (t7008.length : Int)
                      · rw [if_pos c22] at H
                        have c22b0 : decide (x10_3 < (t7008.length : Int)) = true := decide_eq_true c22
                        clear c22
                        by_cases c23 : ((rd_T30 t7001 x10_3).f0) = ((rd_T30 t7008 x10_3).f0)
                        · rw [if_pos c23] at H
                          have c23b0 : (((rd_T30 t7001 x10_3).f0) == ((rd_T30 t7008 x10_3).f0)) = true := beq_iff_eq.mpr c23
                          have c23b1 : (((rd_T30 t7001 x10_3).f0) != ((rd_T30 t7008 x10_3).f0)) = false := bne_eq_false_iff_eq.mpr c23
                          clear c23
                          by_cases c24 : ((rd_T30 t7001 x10_3).f2).toList = ((rd_T30 t7008 x10_3).f2).toList
                          · rw [if_pos c24] at H
                            have c24b0 : (((rd_T30 t7001 x10_3).f2).toList == ((rd_T30 t7008 x10_3).f2).toList) = true := beq_iff_eq.mpr c24
                            have c24b1 : (((rd_T30 t7001 x10_3).f2).toList != ((rd_T30 t7008 x10_3).f2).toList) = false := bne_eq_false_iff_eq.mpr c24
                            clear c24
                            by_cases c25 : ((rd_T30 t7001 x10_3).f3) = ((rd_T30 t7008 x10_3).f3)
                            · rw [if_pos c25] at H
                              have c25b0 : (((rd_T30 t7001 x10_3).f3) == ((rd_T30 t7008 x10_3).f3)) = true := beq_iff_eq.mpr c25
                              have c25b1 : (((rd_T30 t7001 x10_3).f3) != ((rd_T30 t7008 x10_3).f3)) = false := bne_eq_false_iff_eq.mpr c25
                              clear c25
                              have H' := Aside0.mk H
                              clear H
                              have p7014 : 0 ≤ (x10_3 : Int) := of_decide_eq_true (by first | (with_reducible assumption) | assumption)
                              have q7014 : x10_3 < (t7001.length : Int) := of_decide_eq_true (by first | (with_reducible assumption) | assumption)
                              obtain ⟨ad7014, e7014, hx7014_0, hx7014_1, hx7014_2, hx7014_3⟩ := at_T30 (Kd.R_reads' HO_3.out).2.2 x10_3 p7014 q7014
                              cases e7014
                              replace p7014 := eq_true p7014
                              replace q7014 := eq_true q7014
                              obtain ⟨Ao26, co26, eo26⟩ := Kd.R_slice HO_7.out
                              subst eo26
                              have p7015 : 0 ≤ (x10_3 : Int) := of_decide_eq_true (by first | (with_reducible assumption) | assumption)
                              have q7015 : x10_3 < (t7008.length : Int) := of_decide_eq_true (by first | (with_reducible assumption) | assumption)
                              obtain ⟨ad7015, e7015, hx7015_0, hx7015_1, hx7015_2, hx7015_3⟩ := at_T30 (Kd.R_reads' HO_7.out).2.2 x10_3 p7015 q7015
                              cases e7015
                              replace p7015 := eq_true p7015
                              replace q7015 := eq_true q7015
                              have p7016 : 0 ≤ (x10_3 : Int) := of_decide_eq_true (by first | (with_reducible assumption) | assumption)
                              have q7016 : x10_3 < (t7001.length : Int) := of_decide_eq_true (by first | (with_reducible assumption) | assumption)
                              obtain ⟨ad7016, e7016, hx7016_0, hx7016_1, hx7016_2, hx7016_3⟩ := at_T30 (Kd.R_reads' HO_3.out).2.2 x10_3 p7016 q7016
                              obtain rfl : ad7014 = ad7016 := (by injection e7016)
                              replace p7016 := eq_true p7016
                              replace q7016 := eq_true q7016
                              have p7017 : 0 ≤ (x10_3 : Int) := of_decide_eq_true (by first | (with_reducible assumption) | assumption)
                              have q7017 : x10_3 < (t7008.length : Int) := of_decide_eq_true (by first | (with_reducible assumption) | assumption)
                              obtain ⟨ad7017, e7017, hx7017_0, hx7017_1, hx7017_2, hx7017_3⟩ := at_T30 (Kd.R_reads' HO_7.out).2.2 x10_3 p7017 q7017
                              obtain rfl : ad7015 = ad7017 := (by injection e7017)
                              replace p7017 := eq_true p7017
                              replace q7017 := eq_true q7017
                              have p7018 : 0 ≤ (x10_3 : Int) := of_decide_eq_true (by first | (with_reducible assumption) | assumption)
                              have q7018 : x10_3 < (t7001.length : Int) := of_decide_eq_true (by first | (with_reducible assumption) | assumption)
                              obtain ⟨ad7018, e7018, hx7018_0, hx7018_1, hx7018_2, hx7018_3⟩ := at_T30 (Kd.R_reads' HO_3.out).2.2 x10_3 p7018 q7018
                              obtain rfl : ad7014 = ad7018 := (by injection e7018)
                              replace p7018 := eq_true p7018
                              replace q7018 := eq_true q7018
                              have p7019 : 0 ≤ (x10_3 : Int) := of_decide_eq_true (by first | (with_reducible assumption) | assumption)
                              have q7019 : x10_3 < (t7008.length : Int) := of_decide_eq_true (by first | (with_reducible assumption) | assumption)
                              obtain ⟨ad7019, e7019, hx7019_0, hx7019_1, hx7019_2, hx7019_3⟩ := at_T30 (Kd.R_reads' HO_7.out).2.2 x10_3 p7019 q7019
                              obtain rfl : ad7015 = ad7019 := (by injection e7019)
                              replace p7019 := eq_true p7019
                              replace q7019 := eq_true q7019
                              go_wp2
                              repeat (go_quiet (fail); try go_wp2)
                              go_roundg k3
                              case measure => have := HJ2.out; have := HJ10.out; have := HK3.out; omega
                              case rel => exact ⟨(wrap64 (x10_3 + 1)), (by first | rfl | (simp; done) | (simp [*]; done)), H', ⟨by have := HJ2.out; have := HJ10.out; have := HK3.out; omega⟩, ⟨by (with_reducible repeat (first | apply Kd.R_alloc | apply Kd.R_drewN | apply Kd.R_drew)); exact HO_3.out⟩, ⟨by (with_reducible repeat (first | apply Kd.R_alloc | apply Kd.R_drewN | apply Kd.R_drew)); exact HO_7.out⟩, ⟨by repeat (first | (with_reducible first | exact HB.out | apply below_alloc | apply pw_below_drewN | apply below_drew1) | exact HB.out)⟩⟩
                            · rw [if_neg c25] at H
                              have c25b0 : (((rd_T30 t7001 x10_3).f3) == ((rd_T30 t7008 x10_3).f3)) = false := beq_eq_false_iff_ne.mpr c25
                              have c25b1 : (((rd_T30 t7001 x10_3).f3) != ((rd_T30 t7008 x10_3).f3)) = true := bne_iff_ne.mpr c25
                              obtain rfl := Option.some.inj H
                              have p7014 : 0 ≤ (x10_3 : Int) := of_decide_eq_true (by first | (with_reducible assumption) | assumption)
                              have q7014 : x10_3 < (t7001.length : Int) := of_decide_eq_true (by first | (with_reducible assumption) | assumption)
                              obtain ⟨ad7014, e7014, hx7014_0, hx7014_1, hx7014_2, hx7014_3⟩ := at_T30 (Kd.R_reads' HO_3.out).2.2 x10_3 p7014 q7014
                              cases e7014
                              replace p7014 := eq_true p7014
                              replace q7014 := eq_true q7014
                              obtain ⟨Ao27, co27, eo27⟩ := Kd.R_slice HO_7.out
                              subst eo27
                              have p7015 : 0 ≤ (x10_3 : Int) := of_decide_eq_true (by first | (with_reducible assumption) | assumption)
                              have q7015 : x10_3 < (t7008.length : Int) := of_decide_eq_true (by first | (with_reducible assumption) | assumption)
                              obtain ⟨ad7015, e7015, hx7015_0, hx7015_1, hx7015_2, hx7015_3⟩ := at_T30 (Kd.R_reads' HO_7.out).2.2 x10_3 p7015 q7015
                              cases e7015
                              replace p7015 := eq_true p7015
                              replace q7015 := eq_true q7015
                              have p7016 : 0 ≤ (x10_3 : Int) := of_decide_eq_true (by first | (with_reducible assumption) | assumption)
                              have q7016 : x10_3 < (t7001.length : Int) := of_decide_eq_true (by first | (with_reducible assumption) | assumption)
                              obtain ⟨ad7016, e7016, hx7016_0, hx7016_1, hx7016_2, hx7016_3⟩ := at_T30 (Kd.R_reads' HO_3.out).2.2 x10_3 p7016 q7016
                              obtain rfl : ad7014 = ad7016 := (by injection e7016)
                              replace p7016 := eq_true p7016
                              replace q7016 := eq_true q7016
                              have p7017 : 0 ≤ (x10_3 : Int) := of_decide_eq_true (by first | (with_reducible assumption) | assumption)
                              have q7017 : x10_3 < (t7008.length : Int) := of_decide_eq_true (by first | (with_reducible assumption) | assumption)
                              obtain ⟨ad7017, e7017, hx7017_0, hx7017_1, hx7017_2, hx7017_3⟩ := at_T30 (Kd.R_reads' HO_7.out).2.2 x10_3 p7017 q7017
                              obtain rfl : ad7015 = ad7017 := (by injection e7017)
                              replace p7017 := eq_true p7017
                              replace q7017 := eq_true q7017
                              have p7018 : 0 ≤ (x10_3 : Int) := of_decide_eq_true (by first | (with_reducible assumption) | assumption)
                              have q7018 : x10_3 < (t7001.length : Int) := of_decide_eq_true (by first | (with_reducible assumption) | assumption)
                              obtain ⟨ad7018, e7018, hx7018_0, hx7018_1, hx7018_2, hx7018_3⟩ := at_T30 (Kd.R_reads' HO_3.out).2.2 x10_3 p7018 q7018
                              obtain rfl : ad7014 = ad7018 := (by injection e7018)
                              replace p7018 := eq_true p7018
                              replace q7018 := eq_true q7018
                              have p7019 : 0 ≤ (x10_3 : Int) := of_decide_eq_true (by first | (with_reducible assumption) | assumption)
                              have q7019 : x10_3 < (t7008.length : Int) := of_decide_eq_true (by first | (with_reducible assumption) | assumption)
                              obtain ⟨ad7019, e7019, hx7019_0, hx7019_1, hx7019_2, hx7019_3⟩ := at_T30 (Kd.R_reads' HO_7.out).2.2 x10_3 p7019 q7019
                              obtain rfl : ad7015 = ad7019 := (by injection e7019)
                              replace p7019 := eq_true p7019
                              replace q7019 := eq_true q7019
                              go_wp2
                              repeat (go_quiet (fail); try go_wp2)
                              go_ret
                              exact ⟨by first | rfl | (simp [errW_none, errW_some] <;> rfl) | (simp [*, errW_none, errW_some] <;> rfl), by repeat (first | (with_reducible first | exact HB.out | apply below_alloc | apply pw_below_drewN | apply below_drew1) | exact HB.out)⟩
                          · rw [if_neg c24] at H
                            have c24b0 : (((rd_T30 t7001 x10_3).f2).toList == ((rd_T30 t7008 x10_3).f2).toList) = false := beq_eq_false_iff_ne.mpr c24
                            have c24b1 : (((rd_T30 t7001 x10_3).f2).toList != ((rd_T30 t7008 x10_3).f2).toList) = true := bne_iff_ne.mpr c24
                            obtain rfl := Option.some.inj H
                            have p7014 : 0 ≤ (x10_3 : Int) := of_decide_eq_true (by first | (with_reducible assumption) | assumption)
                            have q7014 : x10_3 < (t7001.length : Int) := of_decide_eq_true (by first | (with_reducible assumption) | assumption)
                            obtain ⟨ad7014, e7014, hx7014_0, hx7014_1, hx7014_2, hx7014_3⟩ := at_T30 (Kd.R_reads' HO_3.out).2.2 x10_3 p7014 q7014
                            cases e7014
                            replace p7014 := eq_true p7014
                            replace q7014 := eq_true q7014
                            obtain ⟨Ao28, co28, eo28⟩ := Kd.R_slice HO_7.out
                            subst eo28
                            have p7015 : 0 ≤ (x10_3 : Int) := of_decide_eq_true (by first | (with_reducible assumption) | assumption)
                            have q7015 : x10_3 < (t7008.length : Int) := of_decide_eq_true (by first | (with_reducible assumption) | assumption)
                            obtain ⟨ad7015, e7015, hx7015_0, hx7015_1, hx7015_2, hx7015_3⟩ := at_T30 (Kd.R_reads' HO_7.out).2.2 x10_3 p7015 q7015
                            cases e7015
                            replace p7015 := eq_true p7015
                            replace q7015 := eq_true q7015
                            have p7016 : 0 ≤ (x10_3 : Int) := of_decide_eq_true (by first | (with_reducible assumption) | assumption)
                            have q7016 : x10_3 < (t7001.length : Int) := of_decide_eq_true (by first | (with_reducible assumption) | assumption)
                            obtain ⟨ad7016, e7016, hx7016_0, hx7016_1, hx7016_2, hx7016_3⟩ := at_T30 (Kd.R_reads' HO_3.out).2.2 x10_3 p7016 q7016
                            obtain rfl : ad7014 = ad7016 := (by injection e7016)
                            replace p7016 := eq_true p7016
                            replace q7016 := eq_true q7016
                            have p7017 : 0 ≤ (x10_3 : Int) := of_decide_eq_true (by first | (with_reducible assumption) | assumption)
                            have q7017 : x10_3 < (t7008.length : Int) := of_decide_eq_true (by first | (with_reducible assumption) | assumption)
                            obtain ⟨ad7017, e7017, hx7017_0, hx7017_1, hx7017_2, hx7017_3⟩ := at_T30 (Kd.R_reads' HO_7.out).2.2 x10_3 p7017 q7017
                            obtain rfl : ad7015 = ad7017 := (by injection e7017)
                            replace p7017 := eq_true p7017
                            replace q7017 := eq_true q7017
                            go_wp2
                            repeat (go_quiet (fail); try go_wp2)
                            go_ret
                            exact ⟨by first | rfl | (simp [errW_none, errW_some] <;> rfl) | (simp [*, errW_none, errW_some] <;> rfl), by repeat (first | (with_reducible first | exact HB.out | apply below_alloc | apply pw_below_drewN | apply below_drew1) | exact HB.out)⟩
                        · rw [if_neg c23] at H
                          have c23b0 : (((rd_T30 t7001 x10_3).f0) == ((rd_T30 t7008 x10_3).f0)) = false := beq_eq_false_iff_ne.mpr c23
                          have c23b1 : (((rd_T30 t7001 x10_3).f0) != ((rd_T30 t7008 x10_3).f0)) = true := bne_iff_ne.mpr c23
                          obtain rfl := Option.some.inj H
                          have p7014 : 0 ≤ (x10_3 : Int) := of_decide_eq_true (by first | (with_reducible assumption) | assumption)
                          have q7014 : x10_3 < (t7001.length : Int) := of_decide_eq_true (by first | (with_reducible assumption) | assumption)
                          obtain ⟨ad7014, e7014, hx7014_0, hx7014_1, hx7014_2, hx7014_3⟩ := at_T30 (Kd.R_reads' HO_3.out).2.2 x10_3 p7014 q7014
                          cases e7014
                          replace p7014 := eq_true p7014
                          replace q7014 := eq_true q7014
                          obtain ⟨Ao29, co29, eo29⟩ := Kd.R_slice HO_7.out
                          subst eo29
                          have p7015 : 0 ≤ (x10_3 : Int) := of_decide_eq_true (by first | (with_reducible assumption) | assumption)
                          have q7015 : x10_3 < (t7008.length : Int) := of_decide_eq_true (by first | (with_reducible assumption) | assumption)
                          obtain ⟨ad7015, e7015, hx7015_0, hx7015_1, hx7015_2, hx7015_3⟩ := at_T30 (Kd.R_reads' HO_7.out).2.2 x10_3 p7015 q7015
                          cases e7015
                          replace p7015 := eq_true p7015
                          replace q7015 := eq_true q7015
                          go_wp2
                          repeat (go_quiet (fail); try go_wp2)
                          go_ret
                          exact ⟨by first | rfl | (simp [errW_none, errW_some] <;> rfl) | (simp [*, errW_none, errW_some] <;> rfl), by repeat (first | (with_reducible first | exact HB.out | apply below_alloc | apply pw_below_drewN | apply below_drew1) | exact HB.out)⟩
                      · rw [if_neg c22] at H
                        exact absurd H (by simp)
                    · rw [if_neg c21] at H
                      exact absurd H (by simp)
                  · rw [if_neg c20] at H
                    have c20b0 : decide (x10_3 < (t7001.length : Int)) = false := decide_eq_false c20
                    clear c20
                    replace H := Option.bind_eq_some_iff.mp H
                    obtain ⟨t7020, A300, H⟩ := H
                    replace H : (some t7020) = some r := H
                    have A30 := Aside0.mk A300
                    clear A300
                    obtain rfl := Option.some.inj H
                    go_wp2_with (first | (go_at_call 16; (with_reducible refine (dataflowlaw07_awake.calls k3  t7020 _ ?side1 A30.out).mono ?_); (case side1 => exact Gh.below HGH.out (by repeat (first | (with_reducible first | exact HB.out | apply below_alloc | apply pw_below_drewN | apply below_drew1) | exact HB.out))); rintro e w31 ⟨rfl, hb⟩; have n0_ := Aside0.mk (Kd.R_below (by (with_reducible repeat (first | apply Kd.R_alloc | apply Kd.R_drewN | apply Kd.R_drew)); exact HO_3.out) hb); have n1_ := Aside0.mk (Kd.R_below (by (with_reducible repeat (first | apply Kd.R_alloc | apply Kd.R_drewN | apply Kd.R_drew)); exact HO_7.out) hb); have n2_ := Aside0.mk (below_step (by repeat (first | (with_reducible first | exact HB.out | apply below_alloc | apply pw_below_drewN | apply below_drew1) | exact HB.out)) hb); clear HO_3; clear HO_7; clear HB; have HO_3 := n0_; have HO_7 := n1_; have HB := n2_; clear n0_ n1_ n2_; (try clear hb); (try clear hb2); (try clear hk); (try clear hi)))
                    repeat (go_quiet (first | (go_at_call 16; (with_reducible refine (dataflowlaw07_awake.calls k3  t7020 _ ?side1 A30.out).mono ?_); (case side1 => exact Gh.below HGH.out (by repeat (first | (with_reducible first | exact HB.out | apply below_alloc | apply pw_below_drewN | apply below_drew1) | exact HB.out))); rintro e w31 ⟨rfl, hb⟩; have n0_ := Aside0.mk (Kd.R_below (by (with_reducible repeat (first | apply Kd.R_alloc | apply Kd.R_drewN | apply Kd.R_drew)); exact HO_3.out) hb); have n1_ := Aside0.mk (Kd.R_below (by (with_reducible repeat (first | apply Kd.R_alloc | apply Kd.R_drewN | apply Kd.R_drew)); exact HO_7.out) hb); have n2_ := Aside0.mk (below_step (by repeat (first | (with_reducible first | exact HB.out | apply below_alloc | apply pw_below_drewN | apply below_drew1) | exact HB.out)) hb); clear HO_3; clear HO_7; clear HB; have HO_3 := n0_; have HO_7 := n1_; have HB := n2_; clear n0_ n1_ n2_; (try clear hb); (try clear hb2); (try clear hk); (try clear hi))); try go_wp2_with (first | (go_at_call 16; (with_reducible refine (dataflowlaw07_awake.calls k3  t7020 _ ?side1 A30.out).mono ?_); (case side1 => exact Gh.below HGH.out (by repeat (first | (with_reducible first | exact HB.out | apply below_alloc | apply pw_below_drewN | apply below_drew1) | exact HB.out))); rintro e w31 ⟨rfl, hb⟩; have n0_ := Aside0.mk (Kd.R_below (by (with_reducible repeat (first | apply Kd.R_alloc | apply Kd.R_drewN | apply Kd.R_drew)); exact HO_3.out) hb); have n1_ := Aside0.mk (Kd.R_below (by (with_reducible repeat (first | apply Kd.R_alloc | apply Kd.R_drewN | apply Kd.R_drew)); exact HO_7.out) hb); have n2_ := Aside0.mk (below_step (by repeat (first | (with_reducible first | exact HB.out | apply below_alloc | apply pw_below_drewN | apply below_drew1) | exact HB.out)) hb); clear HO_3; clear HO_7; clear HB; have HO_3 := n0_; have HO_7 := n1_; have HB := n2_; clear n0_ n1_ n2_; (try clear hb); (try clear hb2); (try clear hk); (try clear hi))))
                    go_ret
                    exact ⟨by first | rfl | (simp [errW_none, errW_some] <;> rfl) | (simp [*, errW_none, errW_some] <;> rfl), by repeat (first | (with_reducible first | exact HB.out | apply below_alloc | apply pw_below_drewN | apply below_drew1) | exact HB.out)⟩

end Go.Proofs.YthfhbdncphkdaaaDoor.G

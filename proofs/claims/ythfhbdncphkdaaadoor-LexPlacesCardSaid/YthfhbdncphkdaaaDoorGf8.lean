/- Printed by a program of this session (xprint.py, over the kit's printer): Go functions as Lean functions, each with the proof that the call does what the Lean function says. -/
import Derived.Test.YthfhbdncphkdaaaDoorG0
import Derived.Test.YthfhbdncphkdaaaDoorGf16
import Derived.Test.YthfhbdncphkdaaaDoorGf29
import Derived.Test.YthfhbdncphkdaaaDoorGf30
namespace Go.Proofs.YthfhbdncphkdaaaDoor.G
open Go.RowKit Go.Proofs.YthfhbdncphkdaaaDoorW.PrintWords Go.Proofs.YthfhbdncphkdaaaDoorW.PrintLast Go.Proofs.YthfhbdncphkdaaaDoorW.PrintMore
attribute [local go_sem] max2_int min2_int max_two min_two max_three min_three max_four min_four   -- for this text's walks alone
attribute [local go_sem] xs_gtr xs_leq xs_geq
set_option linter.unusedVariables false
set_option linter.unusedSimpArgs false

/-! ### dataflowlaw07_LexPlaces: function 8 -/
mutual
def dataflowlaw07_LexPlaces.j0 : Nat → ByteArray → Int → Int → Int → Int → Bool → Option (Bool)
  | 0, _, _, _, _, _, _ => none
  | k + 1, x0, x1, x5, x6, x7, x40 => if x40 = true then (some false) else (if x7 = 0 then (dataflowlaw07_LexPlaces.j1 k x0 x1 x5 x6 (decide (x1 < (x0.size : Int)))) else (dataflowlaw07_LexPlaces.j1 k x0 x1 x5 x6 false))
def dataflowlaw07_LexPlaces.j1 : Nat → ByteArray → Int → Int → Int → Bool → Option (Bool)
  | 0, _, _, _, _, _ => none
  | k + 1, x0, x1, x5, x6, x48 => if x48 = true then ((lex_Position.f k x0 (wrap64 (x1 + 1))).bind fun bt9007 => (if 0 ≤ x1 then (if x1 < (x0.size : Int) then (if (bt x0 x1) = 10 then (if bt9007.1 = (wrap64 (x5 + 1)) then (if bt9007.2.1 = 1 then ((dataflowlaw07_awake.f k).bind fun t9010 => (some t9010)) else (some false)) else (some false)) else (if bt9007.1 = x5 then (if bt9007.2.1 = (wrap64 (x6 + 1)) then ((dataflowlaw07_awake.f k).bind fun t9011 => (some t9011)) else (some false)) else (some false))) else (none)) else (none))) else ((dataflowlaw07_awake.f k).bind fun t9012 => (some t9012))
end
def dataflowlaw07_LexPlaces.f (k : Nat) (a0 : ByteArray) (a1 : Int) : Option (Bool) := (lex_Position.f k a0 a1).bind fun bt9001 => ((dataflowref07_Position.f k a0 a1).bind fun bt9004 => (if bt9001.1 = bt9004.1 then (if bt9001.2.1 = bt9004.2.1 then (dataflowlaw07_LexPlaces.j0 k a0 a1 bt9001.1 bt9001.2.1 bt9001.2.2 (bt9001.2.2 != bt9004.2.2)) else (dataflowlaw07_LexPlaces.j0 k a0 a1 bt9001.1 bt9001.2.1 bt9001.2.2 true)) else (dataflowlaw07_LexPlaces.j0 k a0 a1 bt9001.1 bt9001.2.1 bt9001.2.2 true)))
theorem dataflowlaw07_LexPlaces.mono_l : ∀ k, (∀ y0 y1 y2 y3 y4 y5, LeO (dataflowlaw07_LexPlaces.j0 k y0 y1 y2 y3 y4 y5) (dataflowlaw07_LexPlaces.j0 (k + 1) y0 y1 y2 y3 y4 y5)) ∧ (∀ y0 y1 y2 y3 y4, LeO (dataflowlaw07_LexPlaces.j1 k y0 y1 y2 y3 y4) (dataflowlaw07_LexPlaces.j1 (k + 1) y0 y1 y2 y3 y4))
  | 0 => ⟨fun _ _ _ _ _ _ r h => by simp [dataflowlaw07_LexPlaces.j0] at h, fun _ _ _ _ _ r h => by simp [dataflowlaw07_LexPlaces.j1] at h⟩
  | k + 1 => by
    obtain ⟨ih0, ih1⟩ := dataflowlaw07_LexPlaces.mono_l k
    refine ⟨?_, ?_⟩
    · intro y0 y1 y2 y3 y4 y5
      unfold dataflowlaw07_LexPlaces.j0
      repeat' first
      | (with_reducible exact ih0 _ _ _ _ _ _)
      | (with_reducible exact ih1 _ _ _ _ _)
      | (with_reducible exact dataflowlaw07_awake.mono _)
      | (with_reducible exact dataflowref07_Position.mono _ _ _)
      | (with_reducible exact lex_Position.mono _ _ _)
      | (with_reducible exact LeO.refl _)
      | (with_reducible exact LeO.none _)
      | (with_reducible refine LeO.ite ?_ ?_)
      | (with_reducible refine LeO.bind ?_ (fun _ => ?_))
      | exact ih0 _ _ _ _ _ _
      | exact ih1 _ _ _ _ _
      | exact dataflowlaw07_awake.mono _
      | exact dataflowref07_Position.mono _ _ _
      | exact lex_Position.mono _ _ _
      | exact LeO.none _
      | refine LeO.ite ?_ ?_
      | refine LeO.bind ?_ (fun _ => ?_)
    · intro y0 y1 y2 y3 y4
      unfold dataflowlaw07_LexPlaces.j1
      repeat' first
      | (with_reducible exact ih0 _ _ _ _ _ _)
      | (with_reducible exact ih1 _ _ _ _ _)
      | (with_reducible exact dataflowlaw07_awake.mono _)
      | (with_reducible exact dataflowref07_Position.mono _ _ _)
      | (with_reducible exact lex_Position.mono _ _ _)
      | (with_reducible exact LeO.refl _)
      | (with_reducible exact LeO.none _)
      | (with_reducible refine LeO.ite ?_ ?_)
      | (with_reducible refine LeO.bind ?_ (fun _ => ?_))
      | exact ih0 _ _ _ _ _ _
      | exact ih1 _ _ _ _ _
      | exact dataflowlaw07_awake.mono _
      | exact dataflowref07_Position.mono _ _ _
      | exact lex_Position.mono _ _ _
      | exact LeO.none _
      | refine LeO.ite ?_ ?_
      | refine LeO.bind ?_ (fun _ => ?_)
theorem dataflowlaw07_LexPlaces.mono : ∀ a0 a1 k, LeO (dataflowlaw07_LexPlaces.f k a0 a1) (dataflowlaw07_LexPlaces.f (k + 1) a0 a1) := by
  intro a0 a1 k
  obtain ⟨ih0, ih1⟩ := dataflowlaw07_LexPlaces.mono_l k
  unfold dataflowlaw07_LexPlaces.f
  repeat' first
      | (with_reducible exact ih0 _ _ _ _ _ _)
      | (with_reducible exact ih1 _ _ _ _ _)
      | (with_reducible exact dataflowlaw07_awake.mono _)
      | (with_reducible exact dataflowref07_Position.mono _ _ _)
      | (with_reducible exact lex_Position.mono _ _ _)
      | (with_reducible exact LeO.refl _)
      | (with_reducible exact LeO.none _)
      | (with_reducible refine LeO.ite ?_ ?_)
      | (with_reducible refine LeO.bind ?_ (fun _ => ?_))
      | exact ih0 _ _ _ _ _ _
      | exact ih1 _ _ _ _ _
      | exact dataflowlaw07_awake.mono _
      | exact dataflowref07_Position.mono _ _ _
      | exact lex_Position.mono _ _ _
      | exact LeO.none _
      | refine LeO.ite ?_ ?_
      | refine LeO.bind ?_ (fun _ => ?_)
set_option maxHeartbeats 8000000 in
set_option maxRecDepth 100000 in
theorem dataflowlaw07_LexPlaces.calls (k : Nat) (a0 : ByteArray) (a1 : Int) (r : Bool) (w : World) (hgh : Gh w) (h : dataflowlaw07_LexPlaces.f k a0 a1 = some r) :
    Calls Tryd.prog 8 #[.string a0, .int .i64 a1] w fun e w' => e = .returned (.bool r) ∧ Below w.heap.size w w' := by
  have HB := Aside0.mk (Below.refl w.heap.size w)
  have HGH := Aside0.mk hgh
  clear hgh
  have H : ((lex_Position.f k a0 a1).bind fun bt9001 => ((dataflowref07_Position.f k a0 a1).bind fun bt9004 => (if bt9001.1 = bt9004.1 then (if bt9001.2.1 = bt9004.2.1 then (dataflowlaw07_LexPlaces.j0 k a0 a1 bt9001.1 bt9001.2.1 bt9001.2.2 (bt9001.2.2 != bt9004.2.2)) else (dataflowlaw07_LexPlaces.j0 k a0 a1 bt9001.1 bt9001.2.1 bt9001.2.2 true)) else (dataflowlaw07_LexPlaces.j0 k a0 a1 bt9001.1 bt9001.2.1 bt9001.2.2 true)))) = some r := h
  clear h
  replace H := Option.bind_eq_some_iff.mp H
  obtain ⟨⟨t9001, t9002, t9003⟩, A30, H⟩ := H
  replace H : ((dataflowref07_Position.f k a0 a1).bind fun bt9004 => (if t9001 = bt9004.1 then (if t9002 = bt9004.2.1 then (dataflowlaw07_LexPlaces.j0 k a0 a1 t9001 t9002 t9003 (t9003 != bt9004.2.2)) else (dataflowlaw07_LexPlaces.j0 k a0 a1 t9001 t9002 t9003 true)) else (dataflowlaw07_LexPlaces.j0 k a0 a1 t9001 t9002 t9003 true))) = some r := H
  have A3 := Aside0.mk A30
  clear A30
  replace H := Option.bind_eq_some_iff.mp H
  obtain ⟨⟨t9004, t9005, t9006⟩, A40, H⟩ := H
  replace H : (if t9001 = t9004 then (if t9002 = t9005 then (dataflowlaw07_LexPlaces.j0 k a0 a1 t9001 t9002 t9003 (t9003 != t9006)) else (dataflowlaw07_LexPlaces.j0 k a0 a1 t9001 t9002 t9003 true)) else (dataflowlaw07_LexPlaces.j0 k a0 a1 t9001 t9002 t9003 true)) = some r := H
  have A4 := Aside0.mk A40
  clear A40
  have HC5 := Aside0.mk H
  clear H
  go_enter Tryd.func8, Tryd.ntmps8
  go_upto_region 3 with (first | ((with_reducible refine gate_callee (f := 29) rfl ?_); refine goesL_ (some 17) rfl rfl Tryd.func29 (by kernel_rfl) rfl #[.string a0, .int .i64 a1] rfl (by (try simp only [List.map_toArray, List.map_cons, List.map_nil]); first | done | rfl | (simp only [List.length_drop, List.length_take]; rfl)) ?_; (with_reducible refine (lex_Position.calls k a0 a1 t9001 t9002 t9003 _ A3.out).mono ?_); rintro e w' ⟨rfl, ⟨nd, rfl⟩⟩; refine ⟨_, rfl, ?_⟩) | ((with_reducible refine gate_callee (f := 30) rfl ?_); refine goesL_ (some 24) rfl rfl Tryd.func30 (by kernel_rfl) rfl #[.string a0, .int .i64 a1] rfl (by (try simp only [List.map_toArray, List.map_cons, List.map_nil]); first | done | rfl | (simp only [List.length_drop, List.length_take]; rfl)) ?_; (with_reducible refine (dataflowref07_Position.calls k a0 a1 t9004 t9005 t9006 _ A4.out).mono ?_); rintro e w' ⟨rfl, ⟨nd, rfl⟩⟩; refine ⟨_, rfl, ?_⟩))
  (try simp only [Act.put, List.setIfInBounds_toArray, List.set_cons_zero, List.set_cons_succ])
  go_cut [40] (fun v40 wc => ∃ (kq : Nat) (x40_4 : Bool), v40 = .bool x40_4 ∧ Aside0 (dataflowlaw07_LexPlaces.j0 kq a0 a1 t9001 t9002 t9003 x40_4 = some r) ∧ Aside0 (kq ≤ k) ∧ Aside0 (Below w.heap.size w wc))
  case first =>
    have H := HC5.out
    clear HC5
    by_cases c6 : t9001 = t9004
    · rw [if_pos c6] at H
      have c6b0 : (t9001 == t9004) = true := beq_iff_eq.mpr c6
      have c6b1 : (t9001 != t9004) = false := bne_eq_false_iff_eq.mpr c6
      clear c6
      (first | rw [c6b0] | (simp only [i64_w, i32_w]; rw [c6b0]) | skip)
      by_cases c7 : t9002 = t9005
      · rw [if_pos c7] at H
        have c7b0 : (t9002 == t9005) = true := beq_iff_eq.mpr c7
        have c7b1 : (t9002 != t9005) = false := bne_eq_false_iff_eq.mpr c7
        clear c7
        have H' := Aside0.mk H
        clear H
        go_wp2
        go_meet
        case rel => exact ⟨_, ((t9003 != t9006)), (by first | rfl | (simp; done) | (simp [*]; done)), H', ⟨by first | omega | exact Nat.le_refl _⟩, ⟨by repeat (first | (with_reducible first | exact HB.out | apply below_alloc | apply pw_below_drewN | apply below_drew1) | exact HB.out)⟩⟩
      · rw [if_neg c7] at H
        have c7b0 : (t9002 == t9005) = false := beq_eq_false_iff_ne.mpr c7
        have c7b1 : (t9002 != t9005) = true := bne_iff_ne.mpr c7
        have H' := Aside0.mk H
        clear H
        go_wp2
        go_meet
        case rel => exact ⟨_, (true), (by first | rfl | (simp; done) | (simp [*]; done)), H', ⟨by first | omega | exact Nat.le_refl _⟩, ⟨by repeat (first | (with_reducible first | exact HB.out | apply below_alloc | apply pw_below_drewN | apply below_drew1) | exact HB.out)⟩⟩
    · rw [if_neg c6] at H
      have c6b0 : (t9001 == t9004) = false := beq_eq_false_iff_ne.mpr c6
      have c6b1 : (t9001 != t9004) = true := bne_iff_ne.mpr c6
      (first | rw [c6b0] | (simp only [i64_w, i32_w]; rw [c6b0]) | skip)
      have H' := Aside0.mk H
      clear H
      go_wp2
      go_meet
      case rel => exact ⟨_, (true), (by first | rfl | (simp; done) | (simp [*]; done)), H', ⟨by first | omega | exact Nat.le_refl _⟩, ⟨by repeat (first | (with_reducible first | exact HB.out | apply below_alloc | apply pw_below_drewN | apply below_drew1) | exact HB.out)⟩⟩
  case rest =>
    clear HC5
    try clear c2
    try clear p2
    try clear c3
    try clear c6
    try clear c6b0
    try clear c6b1
    try clear c7
    try clear c7b0
    try clear c7b1
    obtain ⟨kq, x40_4, rfl, HA, HJ4, HB⟩ := hcut
    cases kq with
    | zero => exact absurd HA.out (by simp [dataflowlaw07_LexPlaces.j0])
    | succ kj4 =>
      have H := HA.out
      clear HA
      simp only [dataflowlaw07_LexPlaces.j0] at H
      by_cases c8 : x40_4 = true
      · subst c8
        have H1 : (some false) = some r := by rw [if_pos rfl] at H; exact H
        clear H
        have H := H1
        clear H1
        obtain rfl := Option.some.inj H
        go_wp2
        go_ret
        exact ⟨by first | rfl | (simp [errW_none, errW_some] <;> rfl) | (simp [*, errW_none, errW_some] <;> rfl), by repeat (first | (with_reducible first | exact HB.out | apply below_alloc | apply pw_below_drewN | apply below_drew1) | exact HB.out)⟩
      · replace c8 := Bool.eq_false_iff.mpr c8
        subst c8
        have H1 : (if t9003 = 0 then (dataflowlaw07_LexPlaces.j1 kj4 a0 a1 t9001 t9002 (decide (a1 < (a0.size : Int)))) else (dataflowlaw07_LexPlaces.j1 kj4 a0 a1 t9001 t9002 false)) = some r := by rw [if_neg (show ¬ (false = true) by decide)] at H; exact H
        clear H
        have H := H1
        clear H1
        have HC9 := Aside0.mk H
        clear H
        go_upto_region 5 with (fail)
        go_cut [48] (fun v48 wc => ∃ (kq : Nat) (x48_8 : Bool), v48 = .bool x48_8 ∧ Aside0 (dataflowlaw07_LexPlaces.j1 kq a0 a1 t9001 t9002 x48_8 = some r) ∧ Aside0 (kq ≤ kj4) ∧ Aside0 (Below w.heap.size w wc))
        case first =>
          have H := HC9.out
          clear HC9
          by_cases c10 : t9003 = 0
          · rw [if_pos c10] at H
            have c10b0 : (t9003 == 0) = true := beq_iff_eq.mpr c10
            have c10b1 : (t9003 != 0) = false := bne_eq_false_iff_eq.mpr c10
            clear c10
            (first | rw [c10b0] | (simp only [i64_w, i32_w]; rw [c10b0]) | skip)
            have H' := Aside0.mk H
            clear H
            go_wp2
            go_meet
            case rel => exact ⟨_, (decide (a1 < (a0.size : Int))), (by first | rfl | (simp; done) | (simp [*]; done)), H', ⟨by have := HJ4.out; first | omega | exact Nat.le_refl _⟩, ⟨by repeat (first | (with_reducible first | exact HB.out | apply below_alloc | apply pw_below_drewN | apply below_drew1) | exact HB.out)⟩⟩
          · rw [if_neg c10] at H
            have c10b0 : (t9003 == 0) = false := beq_eq_false_iff_ne.mpr c10
            have c10b1 : (t9003 != 0) = true := bne_iff_ne.mpr c10
            (first | rw [c10b0] | (simp only [i64_w, i32_w]; rw [c10b0]) | skip)
            have H' := Aside0.mk H
            clear H
            go_wp2
            go_meet
            case rel => exact ⟨_, (false), (by first | rfl | (simp; done) | (simp [*]; done)), H', ⟨by have := HJ4.out; first | omega | exact Nat.le_refl _⟩, ⟨by repeat (first | (with_reducible first | exact HB.out | apply below_alloc | apply pw_below_drewN | apply below_drew1) | exact HB.out)⟩⟩
        case rest =>
          clear HC9
          try clear c1
          try clear c2
          try clear p2
          try clear c3
          try clear c6
          try clear c6b0
          try clear c6b1
          try clear c7
          try clear c7b0
          try clear c7b1
          try clear c8
          try clear c10
          try clear c10b0
          try clear c10b1
          try clear p2
          obtain ⟨kq, x48_8, rfl, HA, HJ8, HB⟩ := hcut
          cases kq with
          | zero => exact absurd HA.out (by simp [dataflowlaw07_LexPlaces.j1])
          | succ kj8 =>
            have H := HA.out
            clear HA
            simp only [dataflowlaw07_LexPlaces.j1] at H
            by_cases c11 : x48_8 = true
            · subst c11
              have H1 : ((lex_Position.f kj8 a0 (wrap64 (a1 + 1))).bind fun bt9007 => (if 0 ≤ a1 then (if a1 < (a0.size : Int) then (if (bt a0 a1) = 10 then (if bt9007.1 = (wrap64 (t9001 + 1)) then (if bt9007.2.1 = 1 then ((dataflowlaw07_awake.f kj8).bind fun t9010 => (some t9010)) else (some false)) else (some false)) else (if bt9007.1 = t9001 then (if bt9007.2.1 = (wrap64 (t9002 + 1)) then ((dataflowlaw07_awake.f kj8).bind fun t9011 => (some t9011)) else (some false)) else (some false))) else (none)) else (none))) = some r := by rw [if_pos rfl] at H; exact H
              clear H
              have H := H1
              clear H1
              replace H := Option.bind_eq_some_iff.mp H
              obtain ⟨⟨t9007, t9008, t9009⟩, A120, H⟩ := H
              replace H : (if 0 ≤ a1 then (if a1 < (a0.size : Int) then (if (bt a0 a1) = 10 then (if t9007 = (wrap64 (t9001 + 1)) then (if t9008 = 1 then ((dataflowlaw07_awake.f kj8).bind fun t9010 => (some t9010)) else (some false)) else (some false)) else (if t9007 = t9001 then (if t9008 = (wrap64 (t9002 + 1)) then ((dataflowlaw07_awake.f kj8).bind fun t9011 => (some t9011)) else (some false)) else (some false))) else (none)) else (none)) = some r := H
              have A12 := Aside0.mk A120
              clear A120
              by_cases c13 : 0 ≤ a1
              · rw [if_pos c13] at H
                have c13b0 : decide (0 ≤ a1) = true := decide_eq_true c13
                clear c13
                by_cases c14 : a1 < (a0.size : Int)
                · rw [if_pos c14] at H
                  have c14b0 : decide (a1 < (a0.size : Int)) = true := decide_eq_true c14
                  clear c14
                  by_cases c16 : (bt a0 a1) = 10
                  · rw [if_pos c16] at H
                    have c16b0 : ((bt a0 a1) == 10) = true := beq_iff_eq.mpr c16
                    have c16b1 : ((bt a0 a1) != 10) = false := bne_eq_false_iff_eq.mpr c16
                    clear c16
                    by_cases c17 : t9007 = (wrap64 (t9001 + 1))
                    · rw [if_pos c17] at H
                      have c17b0 : (t9007 == (wrap64 (t9001 + 1))) = true := beq_iff_eq.mpr c17
                      have c17b1 : (t9007 != (wrap64 (t9001 + 1))) = false := bne_eq_false_iff_eq.mpr c17
                      clear c17
                      by_cases c18 : t9008 = 1
                      · rw [if_pos c18] at H
                        have c18b0 : (t9008 == 1) = true := beq_iff_eq.mpr c18
                        have c18b1 : (t9008 != 1) = false := bne_eq_false_iff_eq.mpr c18
                        clear c18
                        replace H := Option.bind_eq_some_iff.mp H
                        obtain ⟨t9010, A190, H⟩ := H
                        replace H : (some t9010) = some r := H
                        have A19 := Aside0.mk A190
                        clear A190
                        obtain rfl := Option.some.inj H
                        go_wp2_with (first | ((with_reducible refine gate_callee (f := 29) rfl ?_); refine goesL_ (some 53) rfl rfl Tryd.func29 (by kernel_rfl) rfl #[.string a0, .int .i64 (wrap64 (a1 + 1))] rfl (by (try simp only [List.map_toArray, List.map_cons, List.map_nil]); first | done | rfl | (simp only [List.length_drop, List.length_take]; rfl)) ?_; (with_reducible refine (lex_Position.calls kj8 a0 (wrap64 (a1 + 1)) t9007 t9008 t9009 _ A12.out).mono ?_); rintro e w' ⟨rfl, ⟨nd, rfl⟩⟩; refine ⟨_, rfl, ?_⟩; have p15 : 0 ≤ (a1 : Int) := of_decide_eq_true (by first | (with_reducible assumption) | assumption); have q15 : a1 < (a0.size : Int) := of_decide_eq_true (by first | (with_reducible assumption) | assumption); have hx15 := bt_at a0 a1; replace p15 := eq_true p15; replace q15 := eq_true q15) | (go_at_call 16; (with_reducible refine (dataflowlaw07_awake.calls kj8  t9010 _ ?side1 A19.out).mono ?_); (case side1 => exact Gh.below HGH.out (by repeat (first | (with_reducible first | exact HB.out | apply below_alloc | apply pw_below_drewN | apply below_drew1) | exact HB.out))); rintro e w20 ⟨rfl, hb⟩; have n0_ := Aside0.mk (below_step (by repeat (first | (with_reducible first | exact HB.out | apply below_alloc | apply pw_below_drewN | apply below_drew1) | exact HB.out)) hb); clear HB; have HB := n0_; clear n0_; (try clear hb); (try clear hb2); (try clear hk); (try clear hi)))
                        go_ret
                        exact ⟨by first | rfl | (simp [errW_none, errW_some] <;> rfl) | (simp [*, errW_none, errW_some] <;> rfl), by repeat (first | (with_reducible first | exact HB.out | apply below_alloc | apply pw_below_drewN | apply below_drew1) | exact HB.out)⟩
                      · rw [if_neg c18] at H
                        have c18b0 : (t9008 == 1) = false := beq_eq_false_iff_ne.mpr c18
                        have c18b1 : (t9008 != 1) = true := bne_iff_ne.mpr c18
                        obtain rfl := Option.some.inj H
                        go_wp2_with (first | ((with_reducible refine gate_callee (f := 29) rfl ?_); refine goesL_ (some 53) rfl rfl Tryd.func29 (by kernel_rfl) rfl #[.string a0, .int .i64 (wrap64 (a1 + 1))] rfl (by (try simp only [List.map_toArray, List.map_cons, List.map_nil]); first | done | rfl | (simp only [List.length_drop, List.length_take]; rfl)) ?_; (with_reducible refine (lex_Position.calls kj8 a0 (wrap64 (a1 + 1)) t9007 t9008 t9009 _ A12.out).mono ?_); rintro e w' ⟨rfl, ⟨nd, rfl⟩⟩; refine ⟨_, rfl, ?_⟩; have p15 : 0 ≤ (a1 : Int) := of_decide_eq_true (by first | (with_reducible assumption) | assumption); have q15 : a1 < (a0.size : Int) := of_decide_eq_true (by first | (with_reducible assumption) | assumption); have hx15 := bt_at a0 a1; replace p15 := eq_true p15; replace q15 := eq_true q15))
                        go_ret
                        exact ⟨by first | rfl | (simp [errW_none, errW_some] <;> rfl) | (simp [*, errW_none, errW_some] <;> rfl), by repeat (first | (with_reducible first | exact HB.out | apply below_alloc | apply pw_below_drewN | apply below_drew1) | exact HB.out)⟩
                    · rw [if_neg c17] at H
                      have c17b0 : (t9007 == (wrap64 (t9001 + 1))) = false := beq_eq_false_iff_ne.mpr c17
                      have c17b1 : (t9007 != (wrap64 (t9001 + 1))) = true := bne_iff_ne.mpr c17
                      obtain rfl := Option.some.inj H
                      go_wp2_with (first | ((with_reducible refine gate_callee (f := 29) rfl ?_); refine goesL_ (some 53) rfl rfl Tryd.func29 (by kernel_rfl) rfl #[.string a0, .int .i64 (wrap64 (a1 + 1))] rfl (by (try simp only [List.map_toArray, List.map_cons, List.map_nil]); first | done | rfl | (simp only [List.length_drop, List.length_take]; rfl)) ?_; (with_reducible refine (lex_Position.calls kj8 a0 (wrap64 (a1 + 1)) t9007 t9008 t9009 _ A12.out).mono ?_); rintro e w' ⟨rfl, ⟨nd, rfl⟩⟩; refine ⟨_, rfl, ?_⟩; have p15 : 0 ≤ (a1 : Int) := of_decide_eq_true (by first | (with_reducible assumption) | assumption); have q15 : a1 < (a0.size : Int) := of_decide_eq_true (by first | (with_reducible assumption) | assumption); have hx15 := bt_at a0 a1; replace p15 := eq_true p15; replace q15 := eq_true q15))
                      go_ret
                      exact ⟨by first | rfl | (simp [errW_none, errW_some] <;> rfl) | (simp [*, errW_none, errW_some] <;> rfl), by repeat (first | (with_reducible first | exact HB.out | apply below_alloc | apply pw_below_drewN | apply below_drew1) | exact HB.out)⟩
                  · rw [if_neg c16] at H
                    have c16b0 : ((bt a0 a1) == 10) = false := beq_eq_false_iff_ne.mpr c16
                    have c16b1 : ((bt a0 a1) != 10) = true := bne_iff_ne.mpr c16
                    by_cases c21 : t9007 = t9001
                    · rw [if_pos c21] at H
                      have c21b0 : (t9007 == t9001) = true := beq_iff_eq.mpr c21
                      have c21b1 : (t9007 != t9001) = false := bne_eq_false_iff_eq.mpr c21
                      clear c21
                      by_cases c22 : t9008 = (wrap64 (t9002 + 1))
                      · rw [if_pos c22] at H
                        have c22b0 : (t9008 == (wrap64 (t9002 + 1))) = true := beq_iff_eq.mpr c22
                        have c22b1 : (t9008 != (wrap64 (t9002 + 1))) = false := bne_eq_false_iff_eq.mpr c22
                        clear c22
                        replace H := Option.bind_eq_some_iff.mp H
                        obtain ⟨t9011, A230, H⟩ := H
                        replace H : (some t9011) = some r := H
                        have A23 := Aside0.mk A230
                        clear A230
                        obtain rfl := Option.some.inj H
                        go_wp2_with (first | ((with_reducible refine gate_callee (f := 29) rfl ?_); refine goesL_ (some 53) rfl rfl Tryd.func29 (by kernel_rfl) rfl #[.string a0, .int .i64 (wrap64 (a1 + 1))] rfl (by (try simp only [List.map_toArray, List.map_cons, List.map_nil]); first | done | rfl | (simp only [List.length_drop, List.length_take]; rfl)) ?_; (with_reducible refine (lex_Position.calls kj8 a0 (wrap64 (a1 + 1)) t9007 t9008 t9009 _ A12.out).mono ?_); rintro e w' ⟨rfl, ⟨nd, rfl⟩⟩; refine ⟨_, rfl, ?_⟩; have p15 : 0 ≤ (a1 : Int) := of_decide_eq_true (by first | (with_reducible assumption) | assumption); have q15 : a1 < (a0.size : Int) := of_decide_eq_true (by first | (with_reducible assumption) | assumption); have hx15 := bt_at a0 a1; replace p15 := eq_true p15; replace q15 := eq_true q15) | (go_at_call 16; (with_reducible refine (dataflowlaw07_awake.calls kj8  t9011 _ ?side1 A23.out).mono ?_); (case side1 => exact Gh.below HGH.out (by repeat (first | (with_reducible first | exact HB.out | apply below_alloc | apply pw_below_drewN | apply below_drew1) | exact HB.out))); rintro e w24 ⟨rfl, hb⟩; have n0_ := Aside0.mk (below_step (by repeat (first | (with_reducible first | exact HB.out | apply below_alloc | apply pw_below_drewN | apply below_drew1) | exact HB.out)) hb); clear HB; have HB := n0_; clear n0_; (try clear hb); (try clear hb2); (try clear hk); (try clear hi)))
                        go_ret
                        exact ⟨by first | rfl | (simp [errW_none, errW_some] <;> rfl) | (simp [*, errW_none, errW_some] <;> rfl), by repeat (first | (with_reducible first | exact HB.out | apply below_alloc | apply pw_below_drewN | apply below_drew1) | exact HB.out)⟩
                      · rw [if_neg c22] at H
                        have c22b0 : (t9008 == (wrap64 (t9002 + 1))) = false := beq_eq_false_iff_ne.mpr c22
                        have c22b1 : (t9008 != (wrap64 (t9002 + 1))) = true := bne_iff_ne.mpr c22
                        obtain rfl := Option.some.inj H
                        go_wp2_with (first | ((with_reducible refine gate_callee (f := 29) rfl ?_); refine goesL_ (some 53) rfl rfl Tryd.func29 (by kernel_rfl) rfl #[.string a0, .int .i64 (wrap64 (a1 + 1))] rfl (by (try simp only [List.map_toArray, List.map_cons, List.map_nil]); first | done | rfl | (simp only [List.length_drop, List.length_take]; rfl)) ?_; (with_reducible refine (lex_Position.calls kj8 a0 (wrap64 (a1 + 1)) t9007 t9008 t9009 _ A12.out).mono ?_); rintro e w' ⟨rfl, ⟨nd, rfl⟩⟩; refine ⟨_, rfl, ?_⟩; have p15 : 0 ≤ (a1 : Int) := of_decide_eq_true (by first | (with_reducible assumption) | assumption); have q15 : a1 < (a0.size : Int) := of_decide_eq_true (by first | (with_reducible assumption) | assumption); have hx15 := bt_at a0 a1; replace p15 := eq_true p15; replace q15 := eq_true q15))
                        go_ret
                        exact ⟨by first | rfl | (simp [errW_none, errW_some] <;> rfl) | (simp [*, errW_none, errW_some] <;> rfl), by repeat (first | (with_reducible first | exact HB.out | apply below_alloc | apply pw_below_drewN | apply below_drew1) | exact HB.out)⟩
                    · rw [if_neg c21] at H
                      have c21b0 : (t9007 == t9001) = false := beq_eq_false_iff_ne.mpr c21
                      have c21b1 : (t9007 != t9001) = true := bne_iff_ne.mpr c21
                      obtain rfl := Option.some.inj H
                      go_wp2_with (first | ((with_reducible refine gate_callee (f := 29) rfl ?_); refine goesL_ (some 53) rfl rfl Tryd.func29 (by kernel_rfl) rfl #[.string a0, .int .i64 (wrap64 (a1 + 1))] rfl (by (try simp only [List.map_toArray, List.map_cons, List.map_nil]); first | done | rfl | (simp only [List.length_drop, List.length_take]; rfl)) ?_; (with_reducible refine (lex_Position.calls kj8 a0 (wrap64 (a1 + 1)) t9007 t9008 t9009 _ A12.out).mono ?_); rintro e w' ⟨rfl, ⟨nd, rfl⟩⟩; refine ⟨_, rfl, ?_⟩; have p15 : 0 ≤ (a1 : Int) := of_decide_eq_true (by first | (with_reducible assumption) | assumption); have q15 : a1 < (a0.size : Int) := of_decide_eq_true (by first | (with_reducible assumption) | assumption); have hx15 := bt_at a0 a1; replace p15 := eq_true p15; replace q15 := eq_true q15))
                      go_ret
                      exact ⟨by first | rfl | (simp [errW_none, errW_some] <;> rfl) | (simp [*, errW_none, errW_some] <;> rfl), by repeat (first | (with_reducible first | exact HB.out | apply below_alloc | apply pw_below_drewN | apply below_drew1) | exact HB.out)⟩
                · rw [if_neg c14] at H
                  exact absurd H (by simp)
              · rw [if_neg c13] at H
                exact absurd H (by simp)
            · replace c11 := Bool.eq_false_iff.mpr c11
              subst c11
              have H1 : ((dataflowlaw07_awake.f kj8).bind fun t9012 => (some t9012)) = some r := by rw [if_neg (show ¬ (false = true) by decide)] at H; exact H
              clear H
              have H := H1
              clear H1
              replace H := Option.bind_eq_some_iff.mp H
              obtain ⟨t9012, A250, H⟩ := H
              replace H : (some t9012) = some r := H
              have A25 := Aside0.mk A250
              clear A250
              obtain rfl := Option.some.inj H
              go_wp2_with (first | ((with_reducible refine gate_callee (f := 16) rfl ?_); refine goesL_ (some 84) rfl rfl Tryd.func16 (by kernel_rfl) rfl #[] rfl (by (try simp only [List.map_toArray, List.map_cons, List.map_nil]); first | done | rfl | (simp only [List.length_drop, List.length_take]; rfl)) ?_; (with_reducible refine (dataflowlaw07_awake.calls kj8  t9012 _ ?side1 A25.out).mono ?_); (case side1 => exact Gh.below HGH.out (by repeat (first | (with_reducible first | exact HB.out | apply below_alloc | apply pw_below_drewN | apply below_drew1) | exact HB.out))); rintro e w26 ⟨rfl, hb⟩; refine ⟨_, rfl, ?_⟩; have n0_ := Aside0.mk (below_step (by repeat (first | (with_reducible first | exact HB.out | apply below_alloc | apply pw_below_drewN | apply below_drew1) | exact HB.out)) hb); clear HB; have HB := n0_; clear n0_; (try clear hb); (try clear hb2); (try clear hk); (try clear hi)))
              go_ret
              exact ⟨by first | rfl | (simp [errW_none, errW_some] <;> rfl) | (simp [*, errW_none, errW_some] <;> rfl), by repeat (first | (with_reducible first | exact HB.out | apply below_alloc | apply pw_below_drewN | apply below_drew1) | exact HB.out)⟩

end Go.Proofs.YthfhbdncphkdaaaDoor.G

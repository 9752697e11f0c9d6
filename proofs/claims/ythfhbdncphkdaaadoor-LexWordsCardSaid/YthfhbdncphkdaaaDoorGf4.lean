/- Printed by a program of this session (xprint.py, over the kit's printer): Go functions as Lean functions, each with the proof that the call does what the Lean function says. -/
import Derived.Test.YthfhbdncphkdaaaDoorG0
import Derived.Test.YthfhbdncphkdaaaDoorGa
import Derived.Test.YthfhbdncphkdaaaDoorGf19
import Derived.Test.YthfhbdncphkdaaaDoorGf13
import Derived.Test.YthfhbdncphkdaaaDoorGf17
import Derived.Test.YthfhbdncphkdaaaDoorGf16
namespace Go.Proofs.YthfhbdncphkdaaaDoor.G
open Go.RowKit Go.Proofs.YthfhbdncphkdaaaDoorW.PrintWords Go.Proofs.YthfhbdncphkdaaaDoorW.PrintLast Go.Proofs.YthfhbdncphkdaaaDoorW.PrintMore
attribute [local go_sem] max2_int min2_int max_two min_two max_three min_three max_four min_four   -- for this text's walks alone
attribute [local go_sem] xs_gtr xs_leq xs_geq
set_option linter.unusedVariables false
set_option linter.unusedSimpArgs false

/-! ### dataflowlaw07_LexWords: function 4 -/
def dataflowlaw07_LexWords.j0 : Nat → ByteArray → Bool → Option (Bool)
  | 0, _, _ => none
  | k + 1, x0, x18 => if x18 = true then (some false) else ((lex_Tokens.f x0).bind fun bt5005 => (if bt5005.2.2 = 0 then (if (bt5005.1.length : Int) = 2 then (if 0 < (bt5005.1.length : Int) then ((lex_Ident.f k x0).bind fun t5011 => (if ((rd_T30 bt5005.1 0).f2).toList = x0.toList then (if (t5011 == (((rd_T30 bt5005.1 0).f0) == 1)) = true then ((lex_Keyword.f x0).bind fun t5013 => (if (t5013 == (((rd_T30 bt5005.1 0).f0) == 2)) = true then ((dataflowlaw07_awake.f k).bind fun t5015 => (some t5015)) else (some false))) else (some false)) else (if (t5011 == false) = true then ((lex_Keyword.f x0).bind fun t5016 => (if (t5016 == false) = true then ((dataflowlaw07_awake.f k).bind fun t5017 => (some t5017)) else (some false))) else (some false)))) else (none)) else ((lex_Ident.f k x0).bind fun t5018 => (if (t5018 == false) = true then ((lex_Keyword.f x0).bind fun t5019 => (if (t5019 == false) = true then ((dataflowlaw07_awake.f k).bind fun t5020 => (some t5020)) else (some false))) else (some false)))) else ((lex_Ident.f k x0).bind fun t5021 => (if (t5021 == false) = true then ((lex_Keyword.f x0).bind fun t5022 => (if (t5022 == false) = true then ((dataflowlaw07_awake.f k).bind fun t5023 => (some t5023)) else (some false))) else (some false)))))
def dataflowlaw07_LexWords.f (k : Nat) (a0 : ByteArray) : Option (Bool) := (lex_Ident.f k a0).bind fun t5001 => ((dataflowref07_Ident.f k a0).bind fun t5002 => (if (t5001 != t5002) = true then (dataflowlaw07_LexWords.j0 k a0 true) else ((lex_Keyword.f a0).bind fun t5003 => ((dataflowref07_Keyword.f k a0).bind fun t5004 => (dataflowlaw07_LexWords.j0 k a0 (t5003 != t5004))))))
theorem dataflowlaw07_LexWords.mono_l : ∀ k, (∀ y0 y1, LeO (dataflowlaw07_LexWords.j0 k y0 y1) (dataflowlaw07_LexWords.j0 (k + 1) y0 y1))
  | 0 => fun _ _ r h => by simp [dataflowlaw07_LexWords.j0] at h
  | k + 1 => by
    have ih0 := dataflowlaw07_LexWords.mono_l k
    · intro y0 y1
      unfold dataflowlaw07_LexWords.j0
      repeat' first
      | (with_reducible exact ih0 _ _)
      | (with_reducible exact dataflowlaw07_awake.mono _)
      | (with_reducible exact dataflowref07_Ident.mono _ _)
      | (with_reducible exact dataflowref07_Keyword.mono _ _)
      | (with_reducible exact lex_Ident.mono _ _)
      | (with_reducible exact LeO.refl _)
      | (with_reducible exact LeO.none _)
      | (with_reducible refine LeO.ite ?_ ?_)
      | (with_reducible refine LeO.bind ?_ (fun _ => ?_))
      | exact ih0 _ _
      | exact dataflowlaw07_awake.mono _
      | exact dataflowref07_Ident.mono _ _
      | exact dataflowref07_Keyword.mono _ _
      | exact lex_Ident.mono _ _
      | exact LeO.none _
      | refine LeO.ite ?_ ?_
      | refine LeO.bind ?_ (fun _ => ?_)
theorem dataflowlaw07_LexWords.mono : ∀ a0 k, LeO (dataflowlaw07_LexWords.f k a0) (dataflowlaw07_LexWords.f (k + 1) a0) := by
  intro a0 k
  have ih0 := dataflowlaw07_LexWords.mono_l k
  unfold dataflowlaw07_LexWords.f
  repeat' first
      | (with_reducible exact ih0 _ _)
      | (with_reducible exact dataflowlaw07_awake.mono _)
      | (with_reducible exact dataflowref07_Ident.mono _ _)
      | (with_reducible exact dataflowref07_Keyword.mono _ _)
      | (with_reducible exact lex_Ident.mono _ _)
      | (with_reducible exact LeO.refl _)
      | (with_reducible exact LeO.none _)
      | (with_reducible refine LeO.ite ?_ ?_)
      | (with_reducible refine LeO.bind ?_ (fun _ => ?_))
      | exact ih0 _ _
      | exact dataflowlaw07_awake.mono _
      | exact dataflowref07_Ident.mono _ _
      | exact dataflowref07_Keyword.mono _ _
      | exact lex_Ident.mono _ _
      | exact LeO.none _
      | refine LeO.ite ?_ ?_
      | refine LeO.bind ?_ (fun _ => ?_)
set_option maxHeartbeats 8000000 in
set_option maxRecDepth 100000 in
theorem dataflowlaw07_LexWords.calls (k : Nat) (a0 : ByteArray) (r : Bool) (w : World) (hgh : Gh w) (h : dataflowlaw07_LexWords.f k a0 = some r) :
    Calls Tryd.prog 4 #[.string a0] w fun e w' => e = .returned (.bool r) ∧ Below w.heap.size w w' := by
  have HB := Aside0.mk (Below.refl w.heap.size w)
  have HGH := Aside0.mk hgh
  clear hgh
  have H : ((lex_Ident.f k a0).bind fun t5001 => ((dataflowref07_Ident.f k a0).bind fun t5002 => (if (t5001 != t5002) = true then (dataflowlaw07_LexWords.j0 k a0 true) else ((lex_Keyword.f a0).bind fun t5003 => ((dataflowref07_Keyword.f k a0).bind fun t5004 => (dataflowlaw07_LexWords.j0 k a0 (t5003 != t5004))))))) = some r := h
  clear h
  have HC2 := Aside0.mk H
  clear H
  go_enter Tryd.func4, Tryd.ntmps4
  go_upto_region 1 with (fail)
  go_cut [18] (fun v18 wc => ∃ (kq : Nat) (x18_1 : Bool), v18 = .bool x18_1 ∧ Aside0 (dataflowlaw07_LexWords.j0 kq a0 x18_1 = some r) ∧ Aside0 (kq ≤ k) ∧ Aside0 (Below w.heap.size w wc))
  case first =>
    have H := HC2.out
    clear HC2
    replace H := Option.bind_eq_some_iff.mp H
    obtain ⟨t5001, A30, H⟩ := H
    replace H : ((dataflowref07_Ident.f k a0).bind fun t5002 => (if (t5001 != t5002) = true then (dataflowlaw07_LexWords.j0 k a0 true) else ((lex_Keyword.f a0).bind fun t5003 => ((dataflowref07_Keyword.f k a0).bind fun t5004 => (dataflowlaw07_LexWords.j0 k a0 (t5003 != t5004)))))) = some r := H
    have A3 := Aside0.mk A30
    clear A30
    replace H := Option.bind_eq_some_iff.mp H
    obtain ⟨t5002, A40, H⟩ := H
    replace H : (if (t5001 != t5002) = true then (dataflowlaw07_LexWords.j0 k a0 true) else ((lex_Keyword.f a0).bind fun t5003 => ((dataflowref07_Keyword.f k a0).bind fun t5004 => (dataflowlaw07_LexWords.j0 k a0 (t5003 != t5004))))) = some r := H
    have A4 := Aside0.mk A40
    clear A40
    by_cases c5 : (t5001 != t5002) = true
    · rw [if_pos c5] at H
      have c5b0 : (t5001 != t5002) = true := c5
      (try (have c5b1 : decide (t5001 = t5002) = false := by simpa using c5))
      (try (have c5b2 : (t5001 == t5002) = false := by simpa using c5))
      (try (have c5b3 : ¬ (t5001 = t5002) := by simpa using c5))
      clear c5
      (first | rw [c5b0] | (simp only [i64_w, i32_w]; rw [c5b0]) | skip)
      have H' := Aside0.mk H
      clear H
      go_wp2_with (first | ((with_reducible refine gate_callee (f := 17) rfl ?_); refine goesL_ (some 8) rfl rfl Tryd.func17 (by kernel_rfl) rfl #[.string a0] rfl (by (try simp only [List.map_toArray, List.map_cons, List.map_nil]); first | done | rfl | (simp only [List.length_drop, List.length_take]; rfl)) ?_; (with_reducible refine (lex_Ident.calls k a0 t5001 _ ?side1 A3.out).mono ?_); (case side1 => exact Gh.below HGH.out (by repeat (first | (with_reducible first | exact HB.out | apply below_alloc | apply pw_below_drewN | apply below_drew1) | exact HB.out))); rintro e w' ⟨rfl, ⟨nd, rfl⟩⟩; refine ⟨_, rfl, ?_⟩) | ((with_reducible refine gate_callee (f := 18) rfl ?_); refine goesL_ (some 10) rfl rfl Tryd.func18 (by kernel_rfl) rfl #[.string a0] rfl (by (try simp only [List.map_toArray, List.map_cons, List.map_nil]); first | done | rfl | (simp only [List.length_drop, List.length_take]; rfl)) ?_; (with_reducible refine (dataflowref07_Ident.calls k a0 t5002 _ A4.out).mono ?_); rintro e w6 ⟨rfl, hb⟩; refine ⟨_, rfl, ?_⟩; have n0_ := Aside0.mk (below_step (by repeat (first | (with_reducible first | exact HB.out | apply below_alloc | apply pw_below_drewN | apply below_drew1) | exact HB.out)) hb); clear HB; have HB := n0_; clear n0_; (try clear hb); (try clear hb2); (try clear hk); (try clear hi)))
      go_meet
      case rel => exact ⟨_, (true), (by first | rfl | (simp; done) | (simp [*]; done)), H', ⟨by first | omega | exact Nat.le_refl _⟩, ⟨by repeat (first | (with_reducible first | exact HB.out | apply below_alloc | apply pw_below_drewN | apply below_drew1) | exact HB.out)⟩⟩
    · rw [if_neg c5] at H
      have c5b0 : (t5001 != t5002) = false := by simpa using c5
      (try (have c5b1 : decide (t5001 = t5002) = true := by simpa using c5))
      (try (have c5b2 : (t5001 == t5002) = true := by simpa using c5))
      clear c5
      (first | rw [c5b0] | (simp only [i64_w, i32_w]; rw [c5b0]) | skip)
      replace H := Option.bind_eq_some_iff.mp H
      obtain ⟨t5003, A70, H⟩ := H
      replace H : ((dataflowref07_Keyword.f k a0).bind fun t5004 => (dataflowlaw07_LexWords.j0 k a0 (t5003 != t5004))) = some r := H
      have A7 := Aside0.mk A70
      clear A70
      replace H := Option.bind_eq_some_iff.mp H
      obtain ⟨t5004, A80, H⟩ := H
      replace H : (dataflowlaw07_LexWords.j0 k a0 (t5003 != t5004)) = some r := H
      have A8 := Aside0.mk A80
      clear A80
      have H' := Aside0.mk H
      clear H
      go_wp2_with (first | ((with_reducible refine gate_callee (f := 17) rfl ?_); refine goesL_ (some 8) rfl rfl Tryd.func17 (by kernel_rfl) rfl #[.string a0] rfl (by (try simp only [List.map_toArray, List.map_cons, List.map_nil]); first | done | rfl | (simp only [List.length_drop, List.length_take]; rfl)) ?_; (with_reducible refine (lex_Ident.calls k a0 t5001 _ ?side1 A3.out).mono ?_); (case side1 => exact Gh.below HGH.out (by repeat (first | (with_reducible first | exact HB.out | apply below_alloc | apply pw_below_drewN | apply below_drew1) | exact HB.out))); rintro e w' ⟨rfl, ⟨nd, rfl⟩⟩; refine ⟨_, rfl, ?_⟩) | ((with_reducible refine gate_callee (f := 18) rfl ?_); refine goesL_ (some 10) rfl rfl Tryd.func18 (by kernel_rfl) rfl #[.string a0] rfl (by (try simp only [List.map_toArray, List.map_cons, List.map_nil]); first | done | rfl | (simp only [List.length_drop, List.length_take]; rfl)) ?_; (with_reducible refine (dataflowref07_Ident.calls k a0 t5002 _ A4.out).mono ?_); rintro e w9 ⟨rfl, hb⟩; refine ⟨_, rfl, ?_⟩; have n0_ := Aside0.mk (below_step (by repeat (first | (with_reducible first | exact HB.out | apply below_alloc | apply pw_below_drewN | apply below_drew1) | exact HB.out)) hb); clear HB; have HB := n0_; clear n0_; (try clear hb); (try clear hb2); (try clear hk); (try clear hi)) | (go_at_call 19; (with_reducible refine (lex_Keyword.calls a0 t5003 _ ?side1 A7.out).mono ?_); (case side1 => exact Gh.below HGH.out (by repeat (first | (with_reducible first | exact HB.out | apply below_alloc | apply pw_below_drewN | apply below_drew1) | exact HB.out))); rintro e w' ⟨rfl, ⟨nd, rfl⟩⟩) | (go_at_call 20; (with_reducible refine (dataflowref07_Keyword.calls k a0 t5004 _ A8.out).mono ?_); rintro e w10 ⟨rfl, hb⟩; have n0_ := Aside0.mk (below_step (by repeat (first | (with_reducible first | exact HB.out | apply below_alloc | apply pw_below_drewN | apply below_drew1) | exact HB.out)) hb); clear HB; have HB := n0_; clear n0_; (try clear hb); (try clear hb2); (try clear hk); (try clear hi)))
      go_meet
      case rel => exact ⟨_, ((t5003 != t5004)), (by first | rfl | (simp; done) | (simp [*]; done)), H', ⟨by first | omega | exact Nat.le_refl _⟩, ⟨by repeat (first | (with_reducible first | exact HB.out | apply below_alloc | apply pw_below_drewN | apply below_drew1) | exact HB.out)⟩⟩
  case rest =>
    clear HC2
    try clear c1
    try clear p2
    try clear c4
    try clear c5
    try clear c5b0
    try clear c5b1
    try clear c5b2
    obtain ⟨kq, x18_1, rfl, HA, HJ1, HB⟩ := hcut
    cases kq with
    | zero => exact absurd HA.out (by simp [dataflowlaw07_LexWords.j0])
    | succ kj1 =>
      have H := HA.out
      clear HA
      simp only [dataflowlaw07_LexWords.j0] at H
      by_cases c11 : x18_1 = true
      · subst c11
        have H1 : (some false) = some r := by rw [if_pos rfl] at H; exact H
        clear H
        have H := H1
        clear H1
        obtain rfl := Option.some.inj H
        go_wp2
        go_ret
        exact ⟨by first | rfl | (simp [errW_none, errW_some] <;> rfl) | (simp [*, errW_none, errW_some] <;> rfl), by repeat (first | (with_reducible first | exact HB.out | apply below_alloc | apply pw_below_drewN | apply below_drew1) | exact HB.out)⟩
      · replace c11 := Bool.eq_false_iff.mpr c11
        subst c11
        have H1 : ((lex_Tokens.f a0).bind fun bt5005 => (if bt5005.2.2 = 0 then (if (bt5005.1.length : Int) = 2 then (if 0 < (bt5005.1.length : Int) then ((lex_Ident.f kj1 a0).bind fun t5011 => (if ((rd_T30 bt5005.1 0).f2).toList = a0.toList then (if (t5011 == (((rd_T30 bt5005.1 0).f0) == 1)) = true then ((lex_Keyword.f a0).bind fun t5013 => (if (t5013 == (((rd_T30 bt5005.1 0).f0) == 2)) = true then ((dataflowlaw07_awake.f kj1).bind fun t5015 => (some t5015)) else (some false))) else (some false)) else (if (t5011 == false) = true then ((lex_Keyword.f a0).bind fun t5016 => (if (t5016 == false) = true then ((dataflowlaw07_awake.f kj1).bind fun t5017 => (some t5017)) else (some false))) else (some false)))) else (none)) else ((lex_Ident.f kj1 a0).bind fun t5018 => (if (t5018 == false) = true then ((lex_Keyword.f a0).bind fun t5019 => (if (t5019 == false) = true then ((dataflowlaw07_awake.f kj1).bind fun t5020 => (some t5020)) else (some false))) else (some false)))) else ((lex_Ident.f kj1 a0).bind fun t5021 => (if (t5021 == false) = true then ((lex_Keyword.f a0).bind fun t5022 => (if (t5022 == false) = true then ((dataflowlaw07_awake.f kj1).bind fun t5023 => (some t5023)) else (some false))) else (some false))))) = some r := by rw [if_neg (show ¬ (false = true) by decide)] at H; exact H
        clear H
        have H := H1
        clear H1
        replace H := Option.bind_eq_some_iff.mp H
        obtain ⟨⟨t5005, t5006, t5007⟩, A120, H⟩ := H
        replace H : (if t5007 = 0 then (if (t5005.length : Int) = 2 then (if 0 < (t5005.length : Int) then ((lex_Ident.f kj1 a0).bind fun t5011 => (if ((rd_T30 t5005 0).f2).toList = a0.toList then (if (t5011 == (((rd_T30 t5005 0).f0) == 1)) = true then ((lex_Keyword.f a0).bind fun t5013 => (if (t5013 == (((rd_T30 t5005 0).f0) == 2)) = true then ((dataflowlaw07_awake.f kj1).bind fun t5015 => (some t5015)) else (some false))) else (some false)) else (if (t5011 == false) = true then ((lex_Keyword.f a0).bind fun t5016 => (if (t5016 == false) = true then ((dataflowlaw07_awake.f kj1).bind fun t5017 => (some t5017)) else (some false))) else (some false)))) else (none)) else ((lex_Ident.f kj1 a0).bind fun t5018 => (if (t5018 == false) = true then ((lex_Keyword.f a0).bind fun t5019 => (if (t5019 == false) = true then ((dataflowlaw07_awake.f kj1).bind fun t5020 => (some t5020)) else (some false))) else (some false)))) else ((lex_Ident.f kj1 a0).bind fun t5021 => (if (t5021 == false) = true then ((lex_Keyword.f a0).bind fun t5022 => (if (t5022 == false) = true then ((dataflowlaw07_awake.f kj1).bind fun t5023 => (some t5023)) else (some false))) else (some false)))) = some r := H
        have A12 := Aside0.mk A120
        clear A120
        by_cases c13 : t5007 = 0
        · rw [if_pos c13] at H
          have c13b0 : (t5007 == 0) = true := beq_iff_eq.mpr c13
          have c13b1 : (t5007 != 0) = false := bne_eq_false_iff_eq.mpr c13
          clear c13
          by_cases c14 : (t5005.length : Int) = 2
          · rw [if_pos c14] at H
            have c14b0 : ((t5005.length : Int) == 2) = true := beq_iff_eq.mpr c14
            have c14b1 : ((t5005.length : Int) != 2) = false := bne_eq_false_iff_eq.mpr c14
            clear c14
            by_cases c15 : 0 < (t5005.length : Int)
            · rw [if_pos c15] at H
              have c15b0 : decide (0 < (t5005.length : Int)) = true := decide_eq_true c15
              have c15b1 : decide (0 < t5005.length) = true := decide_eq_true (by omega)
              clear c15
              replace H := Option.bind_eq_some_iff.mp H
              obtain ⟨t5011, A160, H⟩ := H
              replace H : (if ((rd_T30 t5005 0).f2).toList = a0.toList then (if (t5011 == (((rd_T30 t5005 0).f0) == 1)) = true then ((lex_Keyword.f a0).bind fun t5013 => (if (t5013 == (((rd_T30 t5005 0).f0) == 2)) = true then ((dataflowlaw07_awake.f kj1).bind fun t5015 => (some t5015)) else (some false))) else (some false)) else (if (t5011 == false) = true then ((lex_Keyword.f a0).bind fun t5016 => (if (t5016 == false) = true then ((dataflowlaw07_awake.f kj1).bind fun t5017 => (some t5017)) else (some false))) else (some false))) = some r := H
              have A16 := Aside0.mk A160
              clear A160
              by_cases c17 : ((rd_T30 t5005 0).f2).toList = a0.toList
              · rw [if_pos c17] at H
                have c17b0 : (((rd_T30 t5005 0).f2).toList == a0.toList) = true := beq_iff_eq.mpr c17
                have c17b1 : (((rd_T30 t5005 0).f2).toList != a0.toList) = false := bne_eq_false_iff_eq.mpr c17
                clear c17
                by_cases c18 : (t5011 == (((rd_T30 t5005 0).f0) == 1)) = true
                · rw [if_pos c18] at H
                  have c18b0 : (t5011 == (((rd_T30 t5005 0).f0) == 1)) = true := c18
                  (try (have c18b1 : decide (t5011 = (((rd_T30 t5005 0).f0) == 1)) = true := by simpa using c18))
                  (try (have c18b2 : (t5011 == (((rd_T30 t5005 0).f0) == 1)) = true := by simpa using c18))
                  clear c18
                  replace H := Option.bind_eq_some_iff.mp H
                  obtain ⟨t5013, A190, H⟩ := H
                  replace H : (if (t5013 == (((rd_T30 t5005 0).f0) == 2)) = true then ((dataflowlaw07_awake.f kj1).bind fun t5015 => (some t5015)) else (some false)) = some r := H
                  have A19 := Aside0.mk A190
                  clear A190
                  by_cases c20 : (t5013 == (((rd_T30 t5005 0).f0) == 2)) = true
                  · rw [if_pos c20] at H
                    have c20b0 : (t5013 == (((rd_T30 t5005 0).f0) == 2)) = true := c20
                    (try (have c20b1 : decide (t5013 = (((rd_T30 t5005 0).f0) == 2)) = true := by simpa using c20))
                    (try (have c20b2 : (t5013 == (((rd_T30 t5005 0).f0) == 2)) = true := by simpa using c20))
                    clear c20
                    replace H := Option.bind_eq_some_iff.mp H
                    obtain ⟨t5015, A210, H⟩ := H
                    replace H : (some t5015) = some r := H
                    have A21 := Aside0.mk A210
                    clear A210
                    obtain rfl := Option.some.inj H
                    go_wp2_with (first | ((with_reducible refine gate_callee (f := 13) rfl ?_); refine goesL_ (some 21) rfl rfl Tryd.func13 (by kernel_rfl) rfl #[.string a0] rfl (by (try simp only [List.map_toArray, List.map_cons, List.map_nil]); first | done | rfl | (simp only [List.length_drop, List.length_take]; rfl)) ?_; (with_reducible refine (lex_Tokens.calls a0 t5005 t5006 t5007 _ ?side1 A12.out).mono ?_); (case side1 => exact Gh.below HGH.out (by repeat (first | (with_reducible first | exact HB.out | apply below_alloc | apply pw_below_drewN | apply below_drew1) | exact HB.out))); rintro e w22 ⟨v5008, rfl, ho0, hb⟩; refine ⟨_, rfl, ?_⟩; have n0_ := Aside0.mk (Kd.R_lower ho0 (below_size (by repeat (first | (with_reducible first | exact HB.out | apply below_alloc | apply pw_below_drewN | apply below_drew1) | exact HB.out)))); have n1_ := Aside0.mk (below_step (by repeat (first | (with_reducible first | exact HB.out | apply below_alloc | apply pw_below_drewN | apply below_drew1) | exact HB.out)) hb); clear HB; have HO5009 := n0_; have HB := n1_; clear n0_ n1_; (try clear hb); (try clear hb2); (try clear hk); (try clear hi); (try clear ho0); obtain ⟨Ao23, co23, eo23⟩ := Kd.R_slice HO5009.out; subst eo23; have p5010 : 0 ≤ (0 : Int) := (by omega); have q5010 : 0 < (t5005.length : Int) := of_decide_eq_true (by first | (with_reducible assumption) | assumption); obtain ⟨ad5010, e5010, hx5010_0, hx5010_1, hx5010_2, hx5010_3⟩ := at_T30 (Kd.R_reads' HO5009.out).2.2 0 p5010 q5010; cases e5010; have qi5010 : (0 < t5005.length) = True := eq_true (by omega); (try rw [show ((0 : Int)).toNat = 0 from rfl] at hx5010_0); (try rw [show 0 * 4 = 0 from rfl] at hx5010_0); (try rw [Addr.add_zero'] at hx5010_0); (try rw [show ((0 : Int)).toNat = 0 from rfl] at hx5010_1); (try rw [show 0 * 4 = 0 from rfl] at hx5010_1); (try rw [Addr.add_zero'] at hx5010_1); (try rw [show ((0 : Int)).toNat = 0 from rfl] at hx5010_2); (try rw [show 0 * 4 = 0 from rfl] at hx5010_2); (try rw [Addr.add_zero'] at hx5010_2); (try rw [show ((0 : Int)).toNat = 0 from rfl] at hx5010_3); (try rw [show 0 * 4 = 0 from rfl] at hx5010_3); (try rw [Addr.add_zero'] at hx5010_3); replace p5010 := eq_true p5010; replace q5010 := eq_true q5010) | ((with_reducible refine gate_callee (f := 17) rfl ?_); refine goesL_ (some 41) rfl rfl Tryd.func17 (by kernel_rfl) rfl #[.string a0] rfl (by (try simp only [List.map_toArray, List.map_cons, List.map_nil]); first | done | rfl | (simp only [List.length_drop, List.length_take]; rfl)) ?_; (with_reducible refine (lex_Ident.calls kj1 a0 t5011 _ ?side1 A16.out).mono ?_); (case side1 => exact Gh.below HGH.out (by repeat (first | (with_reducible first | exact HB.out | apply below_alloc | apply pw_below_drewN | apply below_drew1) | exact HB.out))); rintro e w' ⟨rfl, ⟨nd, rfl⟩⟩; refine ⟨_, rfl, ?_⟩; have p5012 : 0 ≤ (0 : Int) := (by omega); have q5012 : 0 < (t5005.length : Int) := of_decide_eq_true (by first | (with_reducible assumption) | assumption); obtain ⟨ad5012, e5012, hx5012_0, hx5012_1, hx5012_2, hx5012_3⟩ := at_T30 (Kd.R_reads' HO5009.out).2.2 0 p5012 q5012; obtain rfl : ad5010 = ad5012 := (by injection e5012); have qi5012 : (0 < t5005.length) = True := eq_true (by omega); (try rw [show ((0 : Int)).toNat = 0 from rfl] at hx5012_0); (try rw [show 0 * 4 = 0 from rfl] at hx5012_0); (try rw [Addr.add_zero'] at hx5012_0); (try rw [show ((0 : Int)).toNat = 0 from rfl] at hx5012_1); (try rw [show 0 * 4 = 0 from rfl] at hx5012_1); (try rw [Addr.add_zero'] at hx5012_1); (try rw [show ((0 : Int)).toNat = 0 from rfl] at hx5012_2); (try rw [show 0 * 4 = 0 from rfl] at hx5012_2); (try rw [Addr.add_zero'] at hx5012_2); (try rw [show ((0 : Int)).toNat = 0 from rfl] at hx5012_3); (try rw [show 0 * 4 = 0 from rfl] at hx5012_3); (try rw [Addr.add_zero'] at hx5012_3); replace p5012 := eq_true p5012; replace q5012 := eq_true q5012) | (go_at_call 19; (with_reducible refine (lex_Keyword.calls a0 t5013 _ ?side1 A19.out).mono ?_); (case side1 => exact Gh.below HGH.out (by repeat (first | (with_reducible first | exact HB.out | apply below_alloc | apply pw_below_drewN | apply below_drew1) | exact HB.out))); rintro e w' ⟨rfl, ⟨nd, rfl⟩⟩; have p5014 : 0 ≤ (0 : Int) := (by omega); have q5014 : 0 < (t5005.length : Int) := of_decide_eq_true (by first | (with_reducible assumption) | assumption); obtain ⟨ad5014, e5014, hx5014_0, hx5014_1, hx5014_2, hx5014_3⟩ := at_T30 (Kd.R_reads' HO5009.out).2.2 0 p5014 q5014; obtain rfl : ad5010 = ad5014 := (by injection e5014); have qi5014 : (0 < t5005.length) = True := eq_true (by omega); (try rw [show ((0 : Int)).toNat = 0 from rfl] at hx5014_0); (try rw [show 0 * 4 = 0 from rfl] at hx5014_0); (try rw [Addr.add_zero'] at hx5014_0); (try rw [show ((0 : Int)).toNat = 0 from rfl] at hx5014_1); (try rw [show 0 * 4 = 0 from rfl] at hx5014_1); (try rw [Addr.add_zero'] at hx5014_1); (try rw [show ((0 : Int)).toNat = 0 from rfl] at hx5014_2); (try rw [show 0 * 4 = 0 from rfl] at hx5014_2); (try rw [Addr.add_zero'] at hx5014_2); (try rw [show ((0 : Int)).toNat = 0 from rfl] at hx5014_3); (try rw [show 0 * 4 = 0 from rfl] at hx5014_3); (try rw [Addr.add_zero'] at hx5014_3); replace p5014 := eq_true p5014; replace q5014 := eq_true q5014) | (go_at_call 16; (with_reducible refine (dataflowlaw07_awake.calls kj1  t5015 _ ?side1 A21.out).mono ?_); (case side1 => exact Gh.below HGH.out (by repeat (first | (with_reducible first | exact HB.out | apply below_alloc | apply pw_below_drewN | apply below_drew1) | exact HB.out))); rintro e w24 ⟨rfl, hb⟩; have n0_ := Aside0.mk (Kd.R_below (by (with_reducible repeat (first | apply Kd.R_alloc | apply Kd.R_drewN | apply Kd.R_drew)); exact HO5009.out) hb); have n1_ := Aside0.mk (below_step (by repeat (first | (with_reducible first | exact HB.out | apply below_alloc | apply pw_below_drewN | apply below_drew1) | exact HB.out)) hb); clear HO5009; clear HB; have HO5009 := n0_; have HB := n1_; clear n0_ n1_; (try clear hb); (try clear hb2); (try clear hk); (try clear hi)))
                    go_ret
                    exact ⟨by first | rfl | (simp [errW_none, errW_some] <;> rfl) | (simp [*, errW_none, errW_some] <;> rfl), by repeat (first | (with_reducible first | exact HB.out | apply below_alloc | apply pw_below_drewN | apply below_drew1) | exact HB.out)⟩
                  · rw [if_neg c20] at H
                    have c20b0 : (t5013 == (((rd_T30 t5005 0).f0) == 2)) = false := by simpa using c20
                    (try (have c20b1 : decide (t5013 = (((rd_T30 t5005 0).f0) == 2)) = false := by simpa using c20))
                    (try (have c20b2 : (t5013 == (((rd_T30 t5005 0).f0) == 2)) = false := by simpa using c20))
                    (try (have c20b3 : ¬ (t5013 = (((rd_T30 t5005 0).f0) == 2)) := by simpa using c20))
                    clear c20
                    obtain rfl := Option.some.inj H
                    go_wp2_with (first | ((with_reducible refine gate_callee (f := 13) rfl ?_); refine goesL_ (some 21) rfl rfl Tryd.func13 (by kernel_rfl) rfl #[.string a0] rfl (by (try simp only [List.map_toArray, List.map_cons, List.map_nil]); first | done | rfl | (simp only [List.length_drop, List.length_take]; rfl)) ?_; (with_reducible refine (lex_Tokens.calls a0 t5005 t5006 t5007 _ ?side1 A12.out).mono ?_); (case side1 => exact Gh.below HGH.out (by repeat (first | (with_reducible first | exact HB.out | apply below_alloc | apply pw_below_drewN | apply below_drew1) | exact HB.out))); rintro e w25 ⟨v5008, rfl, ho0, hb⟩; refine ⟨_, rfl, ?_⟩; have n0_ := Aside0.mk (Kd.R_lower ho0 (below_size (by repeat (first | (with_reducible first | exact HB.out | apply below_alloc | apply pw_below_drewN | apply below_drew1) | exact HB.out)))); have n1_ := Aside0.mk (below_step (by repeat (first | (with_reducible first | exact HB.out | apply below_alloc | apply pw_below_drewN | apply below_drew1) | exact HB.out)) hb); clear HB; have HO5009 := n0_; have HB := n1_; clear n0_ n1_; (try clear hb); (try clear hb2); (try clear hk); (try clear hi); (try clear ho0); obtain ⟨Ao26, co26, eo26⟩ := Kd.R_slice HO5009.out; subst eo26; have p5010 : 0 ≤ (0 : Int) := (by omega); have q5010 : 0 < (t5005.length : Int) := of_decide_eq_true (by first | (with_reducible assumption) | assumption); obtain ⟨ad5010, e5010, hx5010_0, hx5010_1, hx5010_2, hx5010_3⟩ := at_T30 (Kd.R_reads' HO5009.out).2.2 0 p5010 q5010; cases e5010; have qi5010 : (0 < t5005.length) = True := eq_true (by omega); (try rw [show ((0 : Int)).toNat = 0 from rfl] at hx5010_0); (try rw [show 0 * 4 = 0 from rfl] at hx5010_0); (try rw [Addr.add_zero'] at hx5010_0); (try rw [show ((0 : Int)).toNat = 0 from rfl] at hx5010_1); (try rw [show 0 * 4 = 0 from rfl] at hx5010_1); (try rw [Addr.add_zero'] at hx5010_1); (try rw [show ((0 : Int)).toNat = 0 from rfl] at hx5010_2); (try rw [show 0 * 4 = 0 from rfl] at hx5010_2); (try rw [Addr.add_zero'] at hx5010_2); (try rw [show ((0 : Int)).toNat = 0 from rfl] at hx5010_3); (try rw [show 0 * 4 = 0 from rfl] at hx5010_3); (try rw [Addr.add_zero'] at hx5010_3); replace p5010 := eq_true p5010; replace q5010 := eq_true q5010) | ((with_reducible refine gate_callee (f := 17) rfl ?_); refine goesL_ (some 41) rfl rfl Tryd.func17 (by kernel_rfl) rfl #[.string a0] rfl (by (try simp only [List.map_toArray, List.map_cons, List.map_nil]); first | done | rfl | (simp only [List.length_drop, List.length_take]; rfl)) ?_; (with_reducible refine (lex_Ident.calls kj1 a0 t5011 _ ?side1 A16.out).mono ?_); (case side1 => exact Gh.below HGH.out (by repeat (first | (with_reducible first | exact HB.out | apply below_alloc | apply pw_below_drewN | apply below_drew1) | exact HB.out))); rintro e w' ⟨rfl, ⟨nd, rfl⟩⟩; refine ⟨_, rfl, ?_⟩; have p5012 : 0 ≤ (0 : Int) := (by omega); have q5012 : 0 < (t5005.length : Int) := of_decide_eq_true (by first | (with_reducible assumption) | assumption); obtain ⟨ad5012, e5012, hx5012_0, hx5012_1, hx5012_2, hx5012_3⟩ := at_T30 (Kd.R_reads' HO5009.out).2.2 0 p5012 q5012; obtain rfl : ad5010 = ad5012 := (by injection e5012); have qi5012 : (0 < t5005.length) = True := eq_true (by omega); (try rw [show ((0 : Int)).toNat = 0 from rfl] at hx5012_0); (try rw [show 0 * 4 = 0 from rfl] at hx5012_0); (try rw [Addr.add_zero'] at hx5012_0); (try rw [show ((0 : Int)).toNat = 0 from rfl] at hx5012_1); (try rw [show 0 * 4 = 0 from rfl] at hx5012_1); (try rw [Addr.add_zero'] at hx5012_1); (try rw [show ((0 : Int)).toNat = 0 from rfl] at hx5012_2); (try rw [show 0 * 4 = 0 from rfl] at hx5012_2); (try rw [Addr.add_zero'] at hx5012_2); (try rw [show ((0 : Int)).toNat = 0 from rfl] at hx5012_3); (try rw [show 0 * 4 = 0 from rfl] at hx5012_3); (try rw [Addr.add_zero'] at hx5012_3); replace p5012 := eq_true p5012; replace q5012 := eq_true q5012) | (go_at_call 19; (with_reducible refine (lex_Keyword.calls a0 t5013 _ ?side1 A19.out).mono ?_); (case side1 => exact Gh.below HGH.out (by repeat (first | (with_reducible first | exact HB.out | apply below_alloc | apply pw_below_drewN | apply below_drew1) | exact HB.out))); rintro e w' ⟨rfl, ⟨nd, rfl⟩⟩; have p5014 : 0 ≤ (0 : Int) := (by omega); have q5014 : 0 < (t5005.length : Int) := of_decide_eq_true (by first | (with_reducible assumption) | assumption); obtain ⟨ad5014, e5014, hx5014_0, hx5014_1, hx5014_2, hx5014_3⟩ := at_T30 (Kd.R_reads' HO5009.out).2.2 0 p5014 q5014; obtain rfl : ad5010 = ad5014 := (by injection e5014); have qi5014 : (0 < t5005.length) = True := eq_true (by omega); (try rw [show ((0 : Int)).toNat = 0 from rfl] at hx5014_0); (try rw [show 0 * 4 = 0 from rfl] at hx5014_0); (try rw [Addr.add_zero'] at hx5014_0); (try rw [show ((0 : Int)).toNat = 0 from rfl] at hx5014_1); (try rw [show 0 * 4 = 0 from rfl] at hx5014_1); (try rw [Addr.add_zero'] at hx5014_1); (try rw [show ((0 : Int)).toNat = 0 from rfl] at hx5014_2); (try rw [show 0 * 4 = 0 from rfl] at hx5014_2); (try rw [Addr.add_zero'] at hx5014_2); (try rw [show ((0 : Int)).toNat = 0 from rfl] at hx5014_3); (try rw [show 0 * 4 = 0 from rfl] at hx5014_3); (try rw [Addr.add_zero'] at hx5014_3); replace p5014 := eq_true p5014; replace q5014 := eq_true q5014))
                    go_ret
                    exact ⟨by first | rfl | (simp [errW_none, errW_some] <;> rfl) | (simp [*, errW_none, errW_some] <;> rfl), by repeat (first | (with_reducible first | exact HB.out | apply below_alloc | apply pw_below_drewN | apply below_drew1) | exact HB.out)⟩
                · rw [if_neg c18] at H
                  have c18b0 : (t5011 == (((rd_T30 t5005 0).f0) == 1)) = false := by simpa using c18
                  (try (have c18b1 : decide (t5011 = (((rd_T30 t5005 0).f0) == 1)) = false := by simpa using c18))
                  (try (have c18b2 : (t5011 == (((rd_T30 t5005 0).f0) == 1)) = false := by simpa using c18))
                  (try (have c18b3 : ¬ (t5011 = (((rd_T30 t5005 0).f0) == 1)) := by simpa using c18))
                  clear c18
                  obtain rfl := Option.some.inj H
                  go_wp2_with (first | ((with_reducible refine gate_callee (f := 13) rfl ?_); refine goesL_ (some 21) rfl rfl Tryd.func13 (by kernel_rfl) rfl #[.string a0] rfl (by (try simp only [List.map_toArray, List.map_cons, List.map_nil]); first | done | rfl | (simp only [List.length_drop, List.length_take]; rfl)) ?_; (with_reducible refine (lex_Tokens.calls a0 t5005 t5006 t5007 _ ?side1 A12.out).mono ?_); (case side1 => exact Gh.below HGH.out (by repeat (first | (with_reducible first | exact HB.out | apply below_alloc | apply pw_below_drewN | apply below_drew1) | exact HB.out))); rintro e w27 ⟨v5008, rfl, ho0, hb⟩; refine ⟨_, rfl, ?_⟩; have n0_ := Aside0.mk (Kd.R_lower ho0 (below_size (by repeat (first | (with_reducible first | exact HB.out | apply below_alloc | apply pw_below_drewN | apply below_drew1) | exact HB.out)))); have n1_ := Aside0.mk (below_step (by repeat (first | (with_reducible first | exact HB.out | apply below_alloc | apply pw_below_drewN | apply below_drew1) | exact HB.out)) hb); clear HB; have HO5009 := n0_; have HB := n1_; clear n0_ n1_; (try clear hb); (try clear hb2); (try clear hk); (try clear hi); (try clear ho0); obtain ⟨Ao28, co28, eo28⟩ := Kd.R_slice HO5009.out; subst eo28; have p5010 : 0 ≤ (0 : Int) := (by omega); have q5010 : 0 < (t5005.length : Int) := of_decide_eq_true (by first | (with_reducible assumption) | assumption); obtain ⟨ad5010, e5010, hx5010_0, hx5010_1, hx5010_2, hx5010_3⟩ := at_T30 (Kd.R_reads' HO5009.out).2.2 0 p5010 q5010; cases e5010; have qi5010 : (0 < t5005.length) = True := eq_true (by omega); (try rw [show ((0 : Int)).toNat = 0 from rfl] at hx5010_0); (try rw [show 0 * 4 = 0 from rfl] at hx5010_0); (try rw [Addr.add_zero'] at hx5010_0); (try rw [show ((0 : Int)).toNat = 0 from rfl] at hx5010_1); (try rw [show 0 * 4 = 0 from rfl] at hx5010_1); (try rw [Addr.add_zero'] at hx5010_1); (try rw [show ((0 : Int)).toNat = 0 from rfl] at hx5010_2); (try rw [show 0 * 4 = 0 from rfl] at hx5010_2); (try rw [Addr.add_zero'] at hx5010_2); (try rw [show ((0 : Int)).toNat = 0 from rfl] at hx5010_3); (try rw [show 0 * 4 = 0 from rfl] at hx5010_3); (try rw [Addr.add_zero'] at hx5010_3); replace p5010 := eq_true p5010; replace q5010 := eq_true q5010) | ((with_reducible refine gate_callee (f := 17) rfl ?_); refine goesL_ (some 41) rfl rfl Tryd.func17 (by kernel_rfl) rfl #[.string a0] rfl (by (try simp only [List.map_toArray, List.map_cons, List.map_nil]); first | done | rfl | (simp only [List.length_drop, List.length_take]; rfl)) ?_; (with_reducible refine (lex_Ident.calls kj1 a0 t5011 _ ?side1 A16.out).mono ?_); (case side1 => exact Gh.below HGH.out (by repeat (first | (with_reducible first | exact HB.out | apply below_alloc | apply pw_below_drewN | apply below_drew1) | exact HB.out))); rintro e w' ⟨rfl, ⟨nd, rfl⟩⟩; refine ⟨_, rfl, ?_⟩; have p5012 : 0 ≤ (0 : Int) := (by omega); have q5012 : 0 < (t5005.length : Int) := of_decide_eq_true (by first | (with_reducible assumption) | assumption); obtain ⟨ad5012, e5012, hx5012_0, hx5012_1, hx5012_2, hx5012_3⟩ := at_T30 (Kd.R_reads' HO5009.out).2.2 0 p5012 q5012; obtain rfl : ad5010 = ad5012 := (by injection e5012); have qi5012 : (0 < t5005.length) = True := eq_true (by omega); (try rw [show ((0 : Int)).toNat = 0 from rfl] at hx5012_0); (try rw [show 0 * 4 = 0 from rfl] at hx5012_0); (try rw [Addr.add_zero'] at hx5012_0); (try rw [show ((0 : Int)).toNat = 0 from rfl] at hx5012_1); (try rw [show 0 * 4 = 0 from rfl] at hx5012_1); (try rw [Addr.add_zero'] at hx5012_1); (try rw [show ((0 : Int)).toNat = 0 from rfl] at hx5012_2); (try rw [show 0 * 4 = 0 from rfl] at hx5012_2); (try rw [Addr.add_zero'] at hx5012_2); (try rw [show ((0 : Int)).toNat = 0 from rfl] at hx5012_3); (try rw [show 0 * 4 = 0 from rfl] at hx5012_3); (try rw [Addr.add_zero'] at hx5012_3); replace p5012 := eq_true p5012; replace q5012 := eq_true q5012))
                  go_ret
                  exact ⟨by first | rfl | (simp [errW_none, errW_some] <;> rfl) | (simp [*, errW_none, errW_some] <;> rfl), by repeat (first | (with_reducible first | exact HB.out | apply below_alloc | apply pw_below_drewN | apply below_drew1) | exact HB.out)⟩
              · rw [if_neg c17] at H
                have c17b0 : (((rd_T30 t5005 0).f2).toList == a0.toList) = false := beq_eq_false_iff_ne.mpr c17
                have c17b1 : (((rd_T30 t5005 0).f2).toList != a0.toList) = true := bne_iff_ne.mpr c17
                by_cases c29 : (t5011 == false) = true
                · rw [if_pos c29] at H
                  have c29b0 : (t5011 == false) = true := c29
                  (try (have c29b1 : decide (t5011 = false) = true := by simpa using c29))
                  (try (have c29b2 : (t5011 == false) = true := by simpa using c29))
                  clear c29
                  replace H := Option.bind_eq_some_iff.mp H
                  obtain ⟨t5016, A300, H⟩ := H
                  replace H : (if (t5016 == false) = true then ((dataflowlaw07_awake.f kj1).bind fun t5017 => (some t5017)) else (some false)) = some r := H
                  have A30 := Aside0.mk A300
                  clear A300
                  by_cases c31 : (t5016 == false) = true
                  · rw [if_pos c31] at H
                    have c31b0 : (t5016 == false) = true := c31
                    (try (have c31b1 : decide (t5016 = false) = true := by simpa using c31))
                    (try (have c31b2 : (t5016 == false) = true := by simpa using c31))
                    clear c31
                    replace H := Option.bind_eq_some_iff.mp H
                    obtain ⟨t5017, A320, H⟩ := H
                    replace H : (some t5017) = some r := H
                    have A32 := Aside0.mk A320
                    clear A320
                    obtain rfl := Option.some.inj H
                    go_wp2_with (first | ((with_reducible refine gate_callee (f := 13) rfl ?_); refine goesL_ (some 21) rfl rfl Tryd.func13 (by kernel_rfl) rfl #[.string a0] rfl (by (try simp only [List.map_toArray, List.map_cons, List.map_nil]); first | done | rfl | (simp only [List.length_drop, List.length_take]; rfl)) ?_; (with_reducible refine (lex_Tokens.calls a0 t5005 t5006 t5007 _ ?side1 A12.out).mono ?_); (case side1 => exact Gh.below HGH.out (by repeat (first | (with_reducible first | exact HB.out | apply below_alloc | apply pw_below_drewN | apply below_drew1) | exact HB.out))); rintro e w33 ⟨v5008, rfl, ho0, hb⟩; refine ⟨_, rfl, ?_⟩; have n0_ := Aside0.mk (Kd.R_lower ho0 (below_size (by repeat (first | (with_reducible first | exact HB.out | apply below_alloc | apply pw_below_drewN | apply below_drew1) | exact HB.out)))); have n1_ := Aside0.mk (below_step (by repeat (first | (with_reducible first | exact HB.out | apply below_alloc | apply pw_below_drewN | apply below_drew1) | exact HB.out)) hb); clear HB; have HO5009 := n0_; have HB := n1_; clear n0_ n1_; (try clear hb); (try clear hb2); (try clear hk); (try clear hi); (try clear ho0); obtain ⟨Ao34, co34, eo34⟩ := Kd.R_slice HO5009.out; subst eo34; have p5010 : 0 ≤ (0 : Int) := (by omega); have q5010 : 0 < (t5005.length : Int) := of_decide_eq_true (by first | (with_reducible assumption) | assumption); obtain ⟨ad5010, e5010, hx5010_0, hx5010_1, hx5010_2, hx5010_3⟩ := at_T30 (Kd.R_reads' HO5009.out).2.2 0 p5010 q5010; cases e5010; have qi5010 : (0 < t5005.length) = True := eq_true (by omega); (try rw [show ((0 : Int)).toNat = 0 from rfl] at hx5010_0); (try rw [show 0 * 4 = 0 from rfl] at hx5010_0); (try rw [Addr.add_zero'] at hx5010_0); (try rw [show ((0 : Int)).toNat = 0 from rfl] at hx5010_1); (try rw [show 0 * 4 = 0 from rfl] at hx5010_1); (try rw [Addr.add_zero'] at hx5010_1); (try rw [show ((0 : Int)).toNat = 0 from rfl] at hx5010_2); (try rw [show 0 * 4 = 0 from rfl] at hx5010_2); (try rw [Addr.add_zero'] at hx5010_2); (try rw [show ((0 : Int)).toNat = 0 from rfl] at hx5010_3); (try rw [show 0 * 4 = 0 from rfl] at hx5010_3); (try rw [Addr.add_zero'] at hx5010_3); replace p5010 := eq_true p5010; replace q5010 := eq_true q5010) | ((with_reducible refine gate_callee (f := 17) rfl ?_); refine goesL_ (some 41) rfl rfl Tryd.func17 (by kernel_rfl) rfl #[.string a0] rfl (by (try simp only [List.map_toArray, List.map_cons, List.map_nil]); first | done | rfl | (simp only [List.length_drop, List.length_take]; rfl)) ?_; (with_reducible refine (lex_Ident.calls kj1 a0 t5011 _ ?side1 A16.out).mono ?_); (case side1 => exact Gh.below HGH.out (by repeat (first | (with_reducible first | exact HB.out | apply below_alloc | apply pw_below_drewN | apply below_drew1) | exact HB.out))); rintro e w' ⟨rfl, ⟨nd, rfl⟩⟩; refine ⟨_, rfl, ?_⟩) | (go_at_call 19; (with_reducible refine (lex_Keyword.calls a0 t5016 _ ?side1 A30.out).mono ?_); (case side1 => exact Gh.below HGH.out (by repeat (first | (with_reducible first | exact HB.out | apply below_alloc | apply pw_below_drewN | apply below_drew1) | exact HB.out))); rintro e w' ⟨rfl, ⟨nd, rfl⟩⟩) | (go_at_call 16; (with_reducible refine (dataflowlaw07_awake.calls kj1  t5017 _ ?side1 A32.out).mono ?_); (case side1 => exact Gh.below HGH.out (by repeat (first | (with_reducible first | exact HB.out | apply below_alloc | apply pw_below_drewN | apply below_drew1) | exact HB.out))); rintro e w35 ⟨rfl, hb⟩; have n0_ := Aside0.mk (Kd.R_below (by (with_reducible repeat (first | apply Kd.R_alloc | apply Kd.R_drewN | apply Kd.R_drew)); exact HO5009.out) hb); have n1_ := Aside0.mk (below_step (by repeat (first | (with_reducible first | exact HB.out | apply below_alloc | apply pw_below_drewN | apply below_drew1) | exact HB.out)) hb); clear HO5009; clear HB; have HO5009 := n0_; have HB := n1_; clear n0_ n1_; (try clear hb); (try clear hb2); (try clear hk); (try clear hi)))
                    go_ret
                    exact ⟨by first | rfl | (simp [errW_none, errW_some] <;> rfl) | (simp [*, errW_none, errW_some] <;> rfl), by repeat (first | (with_reducible first | exact HB.out | apply below_alloc | apply pw_below_drewN | apply below_drew1) | exact HB.out)⟩
                  · rw [if_neg c31] at H
                    have c31b0 : (t5016 == false) = false := by simpa using c31
                    (try (have c31b1 : decide (t5016 = false) = false := by simpa using c31))
                    (try (have c31b2 : (t5016 == false) = false := by simpa using c31))
                    (try (have c31b3 : ¬ (t5016 = false) := by simpa using c31))
                    clear c31
                    obtain rfl := Option.some.inj H
                    go_wp2_with (first | ((with_reducible refine gate_callee (f := 13) rfl ?_); refine goesL_ (some 21) rfl rfl Tryd.func13 (by kernel_rfl) rfl #[.string a0] rfl (by (try simp only [List.map_toArray, List.map_cons, List.map_nil]); first | done | rfl | (simp only [List.length_drop, List.length_take]; rfl)) ?_; (with_reducible refine (lex_Tokens.calls a0 t5005 t5006 t5007 _ ?side1 A12.out).mono ?_); (case side1 => exact Gh.below HGH.out (by repeat (first | (with_reducible first | exact HB.out | apply below_alloc | apply pw_below_drewN | apply below_drew1) | exact HB.out))); rintro e w36 ⟨v5008, rfl, ho0, hb⟩; refine ⟨_, rfl, ?_⟩; have n0_ := Aside0.mk (Kd.R_lower ho0 (below_size (by repeat (first | (with_reducible first | exact HB.out | apply below_alloc | apply pw_below_drewN | apply below_drew1) | exact HB.out)))); have n1_ := Aside0.mk (below_step (by repeat (first | (with_reducible first | exact HB.out | apply below_alloc | apply pw_below_drewN | apply below_drew1) | exact HB.out)) hb); clear HB; have HO5009 := n0_; have HB := n1_; clear n0_ n1_; (try clear hb); (try clear hb2); (try clear hk); (try clear hi); (try clear ho0); obtain ⟨Ao37, co37, eo37⟩ := Kd.R_slice HO5009.out; subst eo37; have p5010 : 0 ≤ (0 : Int) := (by omega); have q5010 : 0 < (t5005.length : Int) := of_decide_eq_true (by first | (with_reducible assumption) | assumption); obtain ⟨ad5010, e5010, hx5010_0, hx5010_1, hx5010_2, hx5010_3⟩ := at_T30 (Kd.R_reads' HO5009.out).2.2 0 p5010 q5010; cases e5010; have qi5010 : (0 < t5005.length) = True := eq_true (by omega); (try rw [show ((0 : Int)).toNat = 0 from rfl] at hx5010_0); (try rw [show 0 * 4 = 0 from rfl] at hx5010_0); (try rw [Addr.add_zero'] at hx5010_0); (try rw [show ((0 : Int)).toNat = 0 from rfl] at hx5010_1); (try rw [show 0 * 4 = 0 from rfl] at hx5010_1); (try rw [Addr.add_zero'] at hx5010_1); (try rw [show ((0 : Int)).toNat = 0 from rfl] at hx5010_2); (try rw [show 0 * 4 = 0 from rfl] at hx5010_2); (try rw [Addr.add_zero'] at hx5010_2); (try rw [show ((0 : Int)).toNat = 0 from rfl] at hx5010_3); (try rw [show 0 * 4 = 0 from rfl] at hx5010_3); (try rw [Addr.add_zero'] at hx5010_3); replace p5010 := eq_true p5010; replace q5010 := eq_true q5010) | ((with_reducible refine gate_callee (f := 17) rfl ?_); refine goesL_ (some 41) rfl rfl Tryd.func17 (by kernel_rfl) rfl #[.string a0] rfl (by (try simp only [List.map_toArray, List.map_cons, List.map_nil]); first | done | rfl | (simp only [List.length_drop, List.length_take]; rfl)) ?_; (with_reducible refine (lex_Ident.calls kj1 a0 t5011 _ ?side1 A16.out).mono ?_); (case side1 => exact Gh.below HGH.out (by repeat (first | (with_reducible first | exact HB.out | apply below_alloc | apply pw_below_drewN | apply below_drew1) | exact HB.out))); rintro e w' ⟨rfl, ⟨nd, rfl⟩⟩; refine ⟨_, rfl, ?_⟩) | (go_at_call 19; (with_reducible refine (lex_Keyword.calls a0 t5016 _ ?side1 A30.out).mono ?_); (case side1 => exact Gh.below HGH.out (by repeat (first | (with_reducible first | exact HB.out | apply below_alloc | apply pw_below_drewN | apply below_drew1) | exact HB.out))); rintro e w' ⟨rfl, ⟨nd, rfl⟩⟩))
                    go_ret
                    exact ⟨by first | rfl | (simp [errW_none, errW_some] <;> rfl) | (simp [*, errW_none, errW_some] <;> rfl), by repeat (first | (with_reducible first | exact HB.out | apply below_alloc | apply pw_below_drewN | apply below_drew1) | exact HB.out)⟩
                · rw [if_neg c29] at H
                  have c29b0 : (t5011 == false) = false := by simpa using c29
                  (try (have c29b1 : decide (t5011 = false) = false := by simpa using c29))
                  (try (have c29b2 : (t5011 == false) = false := by simpa using c29))
                  (try (have c29b3 : ¬ (t5011 = false) := by simpa using c29))
                  clear c29
                  obtain rfl := Option.some.inj H
                  go_wp2_with (first | ((with_reducible refine gate_callee (f := 13) rfl ?_); refine goesL_ (some 21) rfl rfl Tryd.func13 (by kernel_rfl) rfl #[.string a0] rfl (by (try simp only [List.map_toArray, List.map_cons, List.map_nil]); first | done | rfl | (simp only [List.length_drop, List.length_take]; rfl)) ?_; (with_reducible refine (lex_Tokens.calls a0 t5005 t5006 t5007 _ ?side1 A12.out).mono ?_); (case side1 => exact Gh.below HGH.out (by repeat (first | (with_reducible first | exact HB.out | apply below_alloc | apply pw_below_drewN | apply below_drew1) | exact HB.out))); rintro e w38 ⟨v5008, rfl, ho0, hb⟩; refine ⟨_, rfl, ?_⟩; have n0_ := Aside0.mk (Kd.R_lower ho0 (below_size (by repeat (first | (with_reducible first | exact HB.out | apply below_alloc | apply pw_below_drewN | apply below_drew1) | exact HB.out)))); have n1_ := Aside0.mk (below_step (by repeat (first | (with_reducible first | exact HB.out | apply below_alloc | apply pw_below_drewN | apply below_drew1) | exact HB.out)) hb); clear HB; have HO5009 := n0_; have HB := n1_; clear n0_ n1_; (try clear hb); (try clear hb2); (try clear hk); (try clear hi); (try clear ho0); obtain ⟨Ao39, co39, eo39⟩ := Kd.R_slice HO5009.out; subst eo39; have p5010 : 0 ≤ (0 : Int) := (by omega); have q5010 : 0 < (t5005.length : Int) := of_decide_eq_true (by first | (with_reducible assumption) | assumption); obtain ⟨ad5010, e5010, hx5010_0, hx5010_1, hx5010_2, hx5010_3⟩ := at_T30 (Kd.R_reads' HO5009.out).2.2 0 p5010 q5010; cases e5010; have qi5010 : (0 < t5005.length) = True := eq_true (by omega); (try rw [show ((0 : Int)).toNat = 0 from rfl] at hx5010_0); (try rw [show 0 * 4 = 0 from rfl] at hx5010_0); (try rw [Addr.add_zero'] at hx5010_0); (try rw [show ((0 : Int)).toNat = 0 from rfl] at hx5010_1); (try rw [show 0 * 4 = 0 from rfl] at hx5010_1); (try rw [Addr.add_zero'] at hx5010_1); (try rw [show ((0 : Int)).toNat = 0 from rfl] at hx5010_2); (try rw [show 0 * 4 = 0 from rfl] at hx5010_2); (try rw [Addr.add_zero'] at hx5010_2); (try rw [show ((0 : Int)).toNat = 0 from rfl] at hx5010_3); (try rw [show 0 * 4 = 0 from rfl] at hx5010_3); (try rw [Addr.add_zero'] at hx5010_3); replace p5010 := eq_true p5010; replace q5010 := eq_true q5010) | ((with_reducible refine gate_callee (f := 17) rfl ?_); refine goesL_ (some 41) rfl rfl Tryd.func17 (by kernel_rfl) rfl #[.string a0] rfl (by (try simp only [List.map_toArray, List.map_cons, List.map_nil]); first | done | rfl | (simp only [List.length_drop, List.length_take]; rfl)) ?_; (with_reducible refine (lex_Ident.calls kj1 a0 t5011 _ ?side1 A16.out).mono ?_); (case side1 => exact Gh.below HGH.out (by repeat (first | (with_reducible first | exact HB.out | apply below_alloc | apply pw_below_drewN | apply below_drew1) | exact HB.out))); rintro e w' ⟨rfl, ⟨nd, rfl⟩⟩; refine ⟨_, rfl, ?_⟩))
                  go_ret
                  exact ⟨by first | rfl | (simp [errW_none, errW_some] <;> rfl) | (simp [*, errW_none, errW_some] <;> rfl), by repeat (first | (with_reducible first | exact HB.out | apply below_alloc | apply pw_below_drewN | apply below_drew1) | exact HB.out)⟩
            · rw [if_neg c15] at H
              exact absurd H (by simp)
          · rw [if_neg c14] at H
            have c14b0 : ((t5005.length : Int) == 2) = false := beq_eq_false_iff_ne.mpr c14
            have c14b1 : ((t5005.length : Int) != 2) = true := bne_iff_ne.mpr c14
            replace H := Option.bind_eq_some_iff.mp H
            obtain ⟨t5018, A400, H⟩ := H
            replace H : (if (t5018 == false) = true then ((lex_Keyword.f a0).bind fun t5019 => (if (t5019 == false) = true then ((dataflowlaw07_awake.f kj1).bind fun t5020 => (some t5020)) else (some false))) else (some false)) = some r := H
            have A40 := Aside0.mk A400
            clear A400
            by_cases c41 : (t5018 == false) = true
            · rw [if_pos c41] at H
              have c41b0 : (t5018 == false) = true := c41
              (try (have c41b1 : decide (t5018 = false) = true := by simpa using c41))
              (try (have c41b2 : (t5018 == false) = true := by simpa using c41))
              clear c41
              replace H := Option.bind_eq_some_iff.mp H
              obtain ⟨t5019, A420, H⟩ := H
              replace H : (if (t5019 == false) = true then ((dataflowlaw07_awake.f kj1).bind fun t5020 => (some t5020)) else (some false)) = some r := H
              have A42 := Aside0.mk A420
              clear A420
              by_cases c43 : (t5019 == false) = true
              · rw [if_pos c43] at H
                have c43b0 : (t5019 == false) = true := c43
                (try (have c43b1 : decide (t5019 = false) = true := by simpa using c43))
                (try (have c43b2 : (t5019 == false) = true := by simpa using c43))
                clear c43
                replace H := Option.bind_eq_some_iff.mp H
                obtain ⟨t5020, A440, H⟩ := H
                replace H : (some t5020) = some r := H
                have A44 := Aside0.mk A440
                clear A440
                obtain rfl := Option.some.inj H
                go_wp2_with (first | ((with_reducible refine gate_callee (f := 13) rfl ?_); refine goesL_ (some 21) rfl rfl Tryd.func13 (by kernel_rfl) rfl #[.string a0] rfl (by (try simp only [List.map_toArray, List.map_cons, List.map_nil]); first | done | rfl | (simp only [List.length_drop, List.length_take]; rfl)) ?_; (with_reducible refine (lex_Tokens.calls a0 t5005 t5006 t5007 _ ?side1 A12.out).mono ?_); (case side1 => exact Gh.below HGH.out (by repeat (first | (with_reducible first | exact HB.out | apply below_alloc | apply pw_below_drewN | apply below_drew1) | exact HB.out))); rintro e w45 ⟨v5008, rfl, ho0, hb⟩; refine ⟨_, rfl, ?_⟩; have n0_ := Aside0.mk (Kd.R_lower ho0 (below_size (by repeat (first | (with_reducible first | exact HB.out | apply below_alloc | apply pw_below_drewN | apply below_drew1) | exact HB.out)))); have n1_ := Aside0.mk (below_step (by repeat (first | (with_reducible first | exact HB.out | apply below_alloc | apply pw_below_drewN | apply below_drew1) | exact HB.out)) hb); clear HB; have HO5009 := n0_; have HB := n1_; clear n0_ n1_; (try clear hb); (try clear hb2); (try clear hk); (try clear hi); (try clear ho0); obtain ⟨Ao46, co46, eo46⟩ := Kd.R_slice HO5009.out; subst eo46) | ((with_reducible refine gate_callee (f := 17) rfl ?_); refine goesL_ (some 41) rfl rfl Tryd.func17 (by kernel_rfl) rfl #[.string a0] rfl (by (try simp only [List.map_toArray, List.map_cons, List.map_nil]); first | done | rfl | (simp only [List.length_drop, List.length_take]; rfl)) ?_; (with_reducible refine (lex_Ident.calls kj1 a0 t5018 _ ?side1 A40.out).mono ?_); (case side1 => exact Gh.below HGH.out (by repeat (first | (with_reducible first | exact HB.out | apply below_alloc | apply pw_below_drewN | apply below_drew1) | exact HB.out))); rintro e w' ⟨rfl, ⟨nd, rfl⟩⟩; refine ⟨_, rfl, ?_⟩) | (go_at_call 19; (with_reducible refine (lex_Keyword.calls a0 t5019 _ ?side1 A42.out).mono ?_); (case side1 => exact Gh.below HGH.out (by repeat (first | (with_reducible first | exact HB.out | apply below_alloc | apply pw_below_drewN | apply below_drew1) | exact HB.out))); rintro e w' ⟨rfl, ⟨nd, rfl⟩⟩) | (go_at_call 16; (with_reducible refine (dataflowlaw07_awake.calls kj1  t5020 _ ?side1 A44.out).mono ?_); (case side1 => exact Gh.below HGH.out (by repeat (first | (with_reducible first | exact HB.out | apply below_alloc | apply pw_below_drewN | apply below_drew1) | exact HB.out))); rintro e w47 ⟨rfl, hb⟩; have n0_ := Aside0.mk (Kd.R_below (by (with_reducible repeat (first | apply Kd.R_alloc | apply Kd.R_drewN | apply Kd.R_drew)); exact HO5009.out) hb); have n1_ := Aside0.mk (below_step (by repeat (first | (with_reducible first | exact HB.out | apply below_alloc | apply pw_below_drewN | apply below_drew1) | exact HB.out)) hb); clear HO5009; clear HB; have HO5009 := n0_; have HB := n1_; clear n0_ n1_; (try clear hb); (try clear hb2); (try clear hk); (try clear hi)))
                go_ret
                exact ⟨by first | rfl | (simp [errW_none, errW_some] <;> rfl) | (simp [*, errW_none, errW_some] <;> rfl), by repeat (first | (with_reducible first | exact HB.out | apply below_alloc | apply pw_below_drewN | apply below_drew1) | exact HB.out)⟩
              · rw [if_neg c43] at H
                have c43b0 : (t5019 == false) = false := by simpa using c43
                (try (have c43b1 : decide (t5019 = false) = false := by simpa using c43))
                (try (have c43b2 : (t5019 == false) = false := by simpa using c43))
                (try (have c43b3 : ¬ (t5019 = false) := by simpa using c43))
                clear c43
                obtain rfl := Option.some.inj H
                go_wp2_with (first | ((with_reducible refine gate_callee (f := 13) rfl ?_); refine goesL_ (some 21) rfl rfl Tryd.func13 (by kernel_rfl) rfl #[.string a0] rfl (by (try simp only [List.map_toArray, List.map_cons, List.map_nil]); first | done | rfl | (simp only [List.length_drop, List.length_take]; rfl)) ?_; (with_reducible refine (lex_Tokens.calls a0 t5005 t5006 t5007 _ ?side1 A12.out).mono ?_); (case side1 => exact Gh.below HGH.out (by repeat (first | (with_reducible first | exact HB.out | apply below_alloc | apply pw_below_drewN | apply below_drew1) | exact HB.out))); rintro e w48 ⟨v5008, rfl, ho0, hb⟩; refine ⟨_, rfl, ?_⟩; have n0_ := Aside0.mk (Kd.R_lower ho0 (below_size (by repeat (first | (with_reducible first | exact HB.out | apply below_alloc | apply pw_below_drewN | apply below_drew1) | exact HB.out)))); have n1_ := Aside0.mk (below_step (by repeat (first | (with_reducible first | exact HB.out | apply below_alloc | apply pw_below_drewN | apply below_drew1) | exact HB.out)) hb); clear HB; have HO5009 := n0_; have HB := n1_; clear n0_ n1_; (try clear hb); (try clear hb2); (try clear hk); (try clear hi); (try clear ho0); obtain ⟨Ao49, co49, eo49⟩ := Kd.R_slice HO5009.out; subst eo49) | ((with_reducible refine gate_callee (f := 17) rfl ?_); refine goesL_ (some 41) rfl rfl Tryd.func17 (by kernel_rfl) rfl #[.string a0] rfl (by (try simp only [List.map_toArray, List.map_cons, List.map_nil]); first | done | rfl | (simp only [List.length_drop, List.length_take]; rfl)) ?_; (with_reducible refine (lex_Ident.calls kj1 a0 t5018 _ ?side1 A40.out).mono ?_); (case side1 => exact Gh.below HGH.out (by repeat (first | (with_reducible first | exact HB.out | apply below_alloc | apply pw_below_drewN | apply below_drew1) | exact HB.out))); rintro e w' ⟨rfl, ⟨nd, rfl⟩⟩; refine ⟨_, rfl, ?_⟩) | (go_at_call 19; (with_reducible refine (lex_Keyword.calls a0 t5019 _ ?side1 A42.out).mono ?_); (case side1 => exact Gh.below HGH.out (by repeat (first | (with_reducible first | exact HB.out | apply below_alloc | apply pw_below_drewN | apply below_drew1) | exact HB.out))); rintro e w' ⟨rfl, ⟨nd, rfl⟩⟩))
                go_ret
                exact ⟨by first | rfl | (simp [errW_none, errW_some] <;> rfl) | (simp [*, errW_none, errW_some] <;> rfl), by repeat (first | (with_reducible first | exact HB.out | apply below_alloc | apply pw_below_drewN | apply below_drew1) | exact HB.out)⟩
            · rw [if_neg c41] at H
              have c41b0 : (t5018 == false) = false := by simpa using c41
              (try (have c41b1 : decide (t5018 = false) = false := by simpa using c41))
              (try (have c41b2 : (t5018 == false) = false := by simpa using c41))
              (try (have c41b3 : ¬ (t5018 = false) := by simpa using c41))
              clear c41
              obtain rfl := Option.some.inj H
              go_wp2_with (first | ((with_reducible refine gate_callee (f := 13) rfl ?_); refine goesL_ (some 21) rfl rfl Tryd.func13 (by kernel_rfl) rfl #[.string a0] rfl (by (try simp only [List.map_toArray, List.map_cons, List.map_nil]); first | done | rfl | (simp only [List.length_drop, List.length_take]; rfl)) ?_; (with_reducible refine (lex_Tokens.calls a0 t5005 t5006 t5007 _ ?side1 A12.out).mono ?_); (case side1 => exact Gh.below HGH.out (by repeat (first | (with_reducible first | exact HB.out | apply below_alloc | apply pw_below_drewN | apply below_drew1) | exact HB.out))); rintro e w50 ⟨v5008, rfl, ho0, hb⟩; refine ⟨_, rfl, ?_⟩; have n0_ := Aside0.mk (Kd.R_lower ho0 (below_size (by repeat (first | (with_reducible first | exact HB.out | apply below_alloc | apply pw_below_drewN | apply below_drew1) | exact HB.out)))); have n1_ := Aside0.mk (below_step (by repeat (first | (with_reducible first | exact HB.out | apply below_alloc | apply pw_below_drewN | apply below_drew1) | exact HB.out)) hb); clear HB; have HO5009 := n0_; have HB := n1_; clear n0_ n1_; (try clear hb); (try clear hb2); (try clear hk); (try clear hi); (try clear ho0); obtain ⟨Ao51, co51, eo51⟩ := Kd.R_slice HO5009.out; subst eo51) | ((with_reducible refine gate_callee (f := 17) rfl ?_); refine goesL_ (some 41) rfl rfl Tryd.func17 (by kernel_rfl) rfl #[.string a0] rfl (by (try simp only [List.map_toArray, List.map_cons, List.map_nil]); first | done | rfl | (simp only [List.length_drop, List.length_take]; rfl)) ?_; (with_reducible refine (lex_Ident.calls kj1 a0 t5018 _ ?side1 A40.out).mono ?_); (case side1 => exact Gh.below HGH.out (by repeat (first | (with_reducible first | exact HB.out | apply below_alloc | apply pw_below_drewN | apply below_drew1) | exact HB.out))); rintro e w' ⟨rfl, ⟨nd, rfl⟩⟩; refine ⟨_, rfl, ?_⟩))
              go_ret
              exact ⟨by first | rfl | (simp [errW_none, errW_some] <;> rfl) | (simp [*, errW_none, errW_some] <;> rfl), by repeat (first | (with_reducible first | exact HB.out | apply below_alloc | apply pw_below_drewN | apply below_drew1) | exact HB.out)⟩
        · rw [if_neg c13] at H
          have c13b0 : (t5007 == 0) = false := beq_eq_false_iff_ne.mpr c13
          have c13b1 : (t5007 != 0) = true := bne_iff_ne.mpr c13
          replace H := Option.bind_eq_some_iff.mp H
          obtain ⟨t5021, A520, H⟩ := H
          replace H : (if (t5021 == false) = true then ((lex_Keyword.f a0).bind fun t5022 => (if (t5022 == false) = true then ((dataflowlaw07_awake.f kj1).bind fun t5023 => (some t5023)) else (some false))) else (some false)) = some r := H
          have A52 := Aside0.mk A520
          clear A520
          by_cases c53 : (t5021 == false) = true
          · rw [if_pos c53] at H
            have c53b0 : (t5021 == false) = true := c53
            (try (have c53b1 : decide (t5021 = false) = true := by simpa using c53))
            (try (have c53b2 : (t5021 == false) = true := by simpa using c53))
            clear c53
            replace H := Option.bind_eq_some_iff.mp H
            obtain ⟨t5022, A540, H⟩ := H
            replace H : (if (t5022 == false) = true then ((dataflowlaw07_awake.f kj1).bind fun t5023 => (some t5023)) else (some false)) = some r := H
            have A54 := Aside0.mk A540
            clear A540
            by_cases c55 : (t5022 == false) = true
            · rw [if_pos c55] at H
              have c55b0 : (t5022 == false) = true := c55
              (try (have c55b1 : decide (t5022 = false) = true := by simpa using c55))
              (try (have c55b2 : (t5022 == false) = true := by simpa using c55))
              clear c55
              replace H := Option.bind_eq_some_iff.mp H
              obtain ⟨t5023, A560, H⟩ := H
              replace H : (some t5023) = some r := H
              have A56 := Aside0.mk A560
              clear A560
              obtain rfl := Option.some.inj H
              go_wp2_with (first | ((with_reducible refine gate_callee (f := 13) rfl ?_); refine goesL_ (some 21) rfl rfl Tryd.func13 (by kernel_rfl) rfl #[.string a0] rfl (by (try simp only [List.map_toArray, List.map_cons, List.map_nil]); first | done | rfl | (simp only [List.length_drop, List.length_take]; rfl)) ?_; (with_reducible refine (lex_Tokens.calls a0 t5005 t5006 t5007 _ ?side1 A12.out).mono ?_); (case side1 => exact Gh.below HGH.out (by repeat (first | (with_reducible first | exact HB.out | apply below_alloc | apply pw_below_drewN | apply below_drew1) | exact HB.out))); rintro e w57 ⟨v5008, rfl, ho0, hb⟩; refine ⟨_, rfl, ?_⟩; have n0_ := Aside0.mk (Kd.R_lower ho0 (below_size (by repeat (first | (with_reducible first | exact HB.out | apply below_alloc | apply pw_below_drewN | apply below_drew1) | exact HB.out)))); have n1_ := Aside0.mk (below_step (by repeat (first | (with_reducible first | exact HB.out | apply below_alloc | apply pw_below_drewN | apply below_drew1) | exact HB.out)) hb); clear HB; have HO5009 := n0_; have HB := n1_; clear n0_ n1_; (try clear hb); (try clear hb2); (try clear hk); (try clear hi); (try clear ho0)) | ((with_reducible refine gate_callee (f := 17) rfl ?_); refine goesL_ (some 41) rfl rfl Tryd.func17 (by kernel_rfl) rfl #[.string a0] rfl (by (try simp only [List.map_toArray, List.map_cons, List.map_nil]); first | done | rfl | (simp only [List.length_drop, List.length_take]; rfl)) ?_; (with_reducible refine (lex_Ident.calls kj1 a0 t5021 _ ?side1 A52.out).mono ?_); (case side1 => exact Gh.below HGH.out (by repeat (first | (with_reducible first | exact HB.out | apply below_alloc | apply pw_below_drewN | apply below_drew1) | exact HB.out))); rintro e w' ⟨rfl, ⟨nd, rfl⟩⟩; refine ⟨_, rfl, ?_⟩) | (go_at_call 19; (with_reducible refine (lex_Keyword.calls a0 t5022 _ ?side1 A54.out).mono ?_); (case side1 => exact Gh.below HGH.out (by repeat (first | (with_reducible first | exact HB.out | apply below_alloc | apply pw_below_drewN | apply below_drew1) | exact HB.out))); rintro e w' ⟨rfl, ⟨nd, rfl⟩⟩) | (go_at_call 16; (with_reducible refine (dataflowlaw07_awake.calls kj1  t5023 _ ?side1 A56.out).mono ?_); (case side1 => exact Gh.below HGH.out (by repeat (first | (with_reducible first | exact HB.out | apply below_alloc | apply pw_below_drewN | apply below_drew1) | exact HB.out))); rintro e w58 ⟨rfl, hb⟩; have n0_ := Aside0.mk (Kd.R_below (by (with_reducible repeat (first | apply Kd.R_alloc | apply Kd.R_drewN | apply Kd.R_drew)); exact HO5009.out) hb); have n1_ := Aside0.mk (below_step (by repeat (first | (with_reducible first | exact HB.out | apply below_alloc | apply pw_below_drewN | apply below_drew1) | exact HB.out)) hb); clear HO5009; clear HB; have HO5009 := n0_; have HB := n1_; clear n0_ n1_; (try clear hb); (try clear hb2); (try clear hk); (try clear hi)))
              go_ret
              exact ⟨by first | rfl | (simp [errW_none, errW_some] <;> rfl) | (simp [*, errW_none, errW_some] <;> rfl), by repeat (first | (with_reducible first | exact HB.out | apply below_alloc | apply pw_below_drewN | apply below_drew1) | exact HB.out)⟩
            · rw [if_neg c55] at H
              have c55b0 : (t5022 == false) = false := by simpa using c55
              (try (have c55b1 : decide (t5022 = false) = false := by simpa using c55))
              (try (have c55b2 : (t5022 == false) = false := by simpa using c55))
              (try (have c55b3 : ¬ (t5022 = false) := by simpa using c55))
              clear c55
              obtain rfl := Option.some.inj H
              go_wp2_with (first | ((with_reducible refine gate_callee (f := 13) rfl ?_); refine goesL_ (some 21) rfl rfl Tryd.func13 (by kernel_rfl) rfl #[.string a0] rfl (by (try simp only [List.map_toArray, List.map_cons, List.map_nil]); first | done | rfl | (simp only [List.length_drop, List.length_take]; rfl)) ?_; (with_reducible refine (lex_Tokens.calls a0 t5005 t5006 t5007 _ ?side1 A12.out).mono ?_); (case side1 => exact Gh.below HGH.out (by repeat (first | (with_reducible first | exact HB.out | apply below_alloc | apply pw_below_drewN | apply below_drew1) | exact HB.out))); rintro e w59 ⟨v5008, rfl, ho0, hb⟩; refine ⟨_, rfl, ?_⟩; have n0_ := Aside0.mk (Kd.R_lower ho0 (below_size (by repeat (first | (with_reducible first | exact HB.out | apply below_alloc | apply pw_below_drewN | apply below_drew1) | exact HB.out)))); have n1_ := Aside0.mk (below_step (by repeat (first | (with_reducible first | exact HB.out | apply below_alloc | apply pw_below_drewN | apply below_drew1) | exact HB.out)) hb); clear HB; have HO5009 := n0_; have HB := n1_; clear n0_ n1_; (try clear hb); (try clear hb2); (try clear hk); (try clear hi); (try clear ho0)) | ((with_reducible refine gate_callee (f := 17) rfl ?_); refine goesL_ (some 41) rfl rfl Tryd.func17 (by kernel_rfl) rfl #[.string a0] rfl (by (try simp only [List.map_toArray, List.map_cons, List.map_nil]); first | done | rfl | (simp only [List.length_drop, List.length_take]; rfl)) ?_; (with_reducible refine (lex_Ident.calls kj1 a0 t5021 _ ?side1 A52.out).mono ?_); (case side1 => exact Gh.below HGH.out (by repeat (first | (with_reducible first | exact HB.out | apply below_alloc | apply pw_below_drewN | apply below_drew1) | exact HB.out))); rintro e w' ⟨rfl, ⟨nd, rfl⟩⟩; refine ⟨_, rfl, ?_⟩) | (go_at_call 19; (with_reducible refine (lex_Keyword.calls a0 t5022 _ ?side1 A54.out).mono ?_); (case side1 => exact Gh.below HGH.out (by repeat (first | (with_reducible first | exact HB.out | apply below_alloc | apply pw_below_drewN | apply below_drew1) | exact HB.out))); rintro e w' ⟨rfl, ⟨nd, rfl⟩⟩))
              go_ret
              exact ⟨by first | rfl | (simp [errW_none, errW_some] <;> rfl) | (simp [*, errW_none, errW_some] <;> rfl), by repeat (first | (with_reducible first | exact HB.out | apply below_alloc | apply pw_below_drewN | apply below_drew1) | exact HB.out)⟩
          · rw [if_neg c53] at H
            have c53b0 : (t5021 == false) = false := by simpa using c53
            (try (have c53b1 : decide (t5021 = false) = false := by simpa using c53))
            (try (have c53b2 : (t5021 == false) = false := by simpa using c53))
            (try (have c53b3 : ¬ (t5021 = false) := by simpa using c53))
            clear c53
            obtain rfl := Option.some.inj H
            go_wp2_with (first | ((with_reducible refine gate_callee (f := 13) rfl ?_); refine goesL_ (some 21) rfl rfl Tryd.func13 (by kernel_rfl) rfl #[.string a0] rfl (by (try simp only [List.map_toArray, List.map_cons, List.map_nil]); first | done | rfl | (simp only [List.length_drop, List.length_take]; rfl)) ?_; (with_reducible refine (lex_Tokens.calls a0 t5005 t5006 t5007 _ ?side1 A12.out).mono ?_); (case side1 => exact Gh.below HGH.out (by repeat (first | (with_reducible first | exact HB.out | apply below_alloc | apply pw_below_drewN | apply below_drew1) | exact HB.out))); rintro e w60 ⟨v5008, rfl, ho0, hb⟩; refine ⟨_, rfl, ?_⟩; have n0_ := Aside0.mk (Kd.R_lower ho0 (below_size (by repeat (first | (with_reducible first | exact HB.out | apply below_alloc | apply pw_below_drewN | apply below_drew1) | exact HB.out)))); have n1_ := Aside0.mk (below_step (by repeat (first | (with_reducible first | exact HB.out | apply below_alloc | apply pw_below_drewN | apply below_drew1) | exact HB.out)) hb); clear HB; have HO5009 := n0_; have HB := n1_; clear n0_ n1_; (try clear hb); (try clear hb2); (try clear hk); (try clear hi); (try clear ho0)) | ((with_reducible refine gate_callee (f := 17) rfl ?_); refine goesL_ (some 41) rfl rfl Tryd.func17 (by kernel_rfl) rfl #[.string a0] rfl (by (try simp only [List.map_toArray, List.map_cons, List.map_nil]); first | done | rfl | (simp only [List.length_drop, List.length_take]; rfl)) ?_; (with_reducible refine (lex_Ident.calls kj1 a0 t5021 _ ?side1 A52.out).mono ?_); (case side1 => exact Gh.below HGH.out (by repeat (first | (with_reducible first | exact HB.out | apply below_alloc | apply pw_below_drewN | apply below_drew1) | exact HB.out))); rintro e w' ⟨rfl, ⟨nd, rfl⟩⟩; refine ⟨_, rfl, ?_⟩))
            go_ret
            exact ⟨by first | rfl | (simp [errW_none, errW_some] <;> rfl) | (simp [*, errW_none, errW_some] <;> rfl), by repeat (first | (with_reducible first | exact HB.out | apply below_alloc | apply pw_below_drewN | apply below_drew1) | exact HB.out)⟩

end Go.Proofs.YthfhbdncphkdaaaDoor.G

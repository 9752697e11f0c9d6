/- Printed by a program of this session (xprint.py, over the kit's printer): Go functions as Lean functions, each with the proof that the call does what the Lean function says. -/
import Derived.Test.YthfhbdncphkdaaaDoorH0
import Derived.Test.YthfhbdncphkdaaaDoorHa
import Derived.Test.YthfhbdncphkdaaaDoorHb
namespace Go.Proofs.YthfhbdncphkdaaaDoor.H
open Go.RowKit Go.Proofs.YthfhbdncphkdaaaDoorW.PrintWords Go.Proofs.YthfhbdncphkdaaaDoorW.PrintLast Go.Proofs.YthfhbdncphkdaaaDoorW.PrintMore
attribute [local go_sem] max2_int min2_int max_two min_two max_three min_three max_four min_four   -- for this text's walks alone
attribute [local go_sem] xs_gtr xs_leq xs_geq
set_option linter.unusedVariables false
set_option linter.unusedSimpArgs false

-- BUNDLE c
/-! ### protocol_in: function 51 -/
def protocol_in.f (a0_0 : ByteArray) (l0_1 : List ByteArray) (a0_2 : Int) (a0_3 : Int) (l0_4 : List (S64)) (a1 : Int) : Option (Bool) := if a1 ≥ 0 then (some (decide (a1 < (l0_1.length : Int)))) else (some false)
set_option maxHeartbeats 8000000 in
set_option maxRecDepth 100000 in
theorem protocol_in.calls (a0_0 : ByteArray) (A0_1 : Option Addr) (c0_1 : Nat) (l0_1 : List ByteArray) (a0_2 : Int) (a0_3 : Int) (A0_4 : Option Addr) (c0_4 : Nat) (l0_4 : List (S64)) (a1 : Int) (r : Bool) (w : World) (hr0_1 : Kd.C Kd.string w A0_1 l0_1.length l0_1) (hc0_1 : l0_1.length ≤ c0_1) (hr0_4 : Kd.C k64 w A0_4 l0_4.length l0_4) (hc0_4 : l0_4.length ≤ c0_4) (h : protocol_in.f a0_0 l0_1 a0_2 a0_3 l0_4 a1 = some r) :
    Calls Tryd.prog 51 #[.agg #[.string a0_0, .slice A0_1 l0_1.length c0_1, .int .i64 a0_2, .int .i64 a0_3, .slice A0_4 l0_4.length c0_4], .int .i64 a1] w fun e w' => e = .returned (.bool r) ∧ Below w.heap.size w w' := by
  have hu35 := Tryd.underlying35
  have HR0_1 := Aside0.mk hr0_1
  have HC0_1 := Aside0.mk hc0_1
  clear hr0_1 hc0_1
  have HR0_4 := Aside0.mk hr0_4
  have HC0_4 := Aside0.mk hc0_4
  clear hr0_4 hc0_4
  have HB := Aside0.mk (Below.refl w.heap.size w)
  have H : (if a1 ≥ 0 then (some (decide (a1 < (l0_1.length : Int)))) else (some false)) = some r := h
  clear h
  by_cases c3 : a1 ≥ 0
  · rw [if_pos c3] at H
    have c3b0 : decide (0 ≤ a1) = true := decide_eq_true c3
    clear c3
    obtain rfl := Option.some.inj H
    go_enter Tryd.func51, Tryd.ntmps51
    go_wp2_with (first | ((with_reducible refine gate_dst (N := 2) rfl ?_); (try (refine gate_guard (by rfl) ?_; dsimp only)); refine box_event ?hg (N := 2) ?hd (cs := #[.string a0_0, .slice A0_1 l0_1.length c0_1, .int .i64 a0_2, .int .i64 a0_3, .slice A0_4 l0_4.length c0_4]) (t := 35) ?hr ?_; (case hd => rfl); (case hg => rfl); (case hr => first | (go_simp; done) | (go_simp; rfl)); intro gb52001 hg w4 hbox hb; have n0_ := Aside0.mk (below_step (by repeat (first | (with_reducible first | exact HB.out | apply below_alloc | apply pw_below_drewN | apply below_drew1) | exact HB.out)) hb); have n1_ := Aside0.mk (hbox); have n2_ := Aside0.mk ((by rw [hg]; exact (below_size (by repeat (first | (with_reducible first | exact HB.out | apply below_alloc | apply pw_below_drewN | apply below_drew1) | exact HB.out))) : w.heap.size ≤ gb52001)); have n3_ := Aside0.mk ((by rw [hg]; exact (below_size (by repeat (first | (with_reducible first | exact HB.out | apply below_alloc | apply pw_below_drewN | apply below_drew1) | exact HB.out))) : w.heap.size ≤ gb52001)); clear HB; have HB := n0_; have BK52001 := n1_; have GW52001 := n2_; have GE52001 := n3_; clear n0_ n1_ n2_ n3_; clear hb hbox hg; have hcz5_0 : w4.cell? ⟨gb52001, 0, none⟩ = some (.string a0_0) := (blk_cell BK52001.out 0).trans rfl; have hcz5_1 : w4.cell? ⟨gb52001, 1, none⟩ = some (.slice A0_1 l0_1.length c0_1) := (blk_cell BK52001.out 1).trans rfl; have hcz5_2 : w4.cell? ⟨gb52001, 2, none⟩ = some (.int .i64 a0_2) := (blk_cell BK52001.out 2).trans rfl; have hcz5_3 : w4.cell? ⟨gb52001, 3, none⟩ = some (.int .i64 a0_3) := (blk_cell BK52001.out 3).trans rfl; have hcz5_4 : w4.cell? ⟨gb52001, 4, none⟩ = some (.slice A0_4 l0_4.length c0_4) := (blk_cell BK52001.out 4).trans rfl; have hfz5_0 := blk_frozen BK52001.out 0; have hfz5_1 := blk_frozen BK52001.out 1; have hfz5_2 := blk_frozen BK52001.out 2; have hfz5_3 := blk_frozen BK52001.out 3; have hfz5_4 := blk_frozen BK52001.out 4))
    go_ret
    exact ⟨by first | rfl | (simp [errW_none, errW_some] <;> rfl) | (simp [*, errW_none, errW_some] <;> rfl), by repeat (first | (with_reducible first | exact HB.out | apply below_alloc | apply pw_below_drewN | apply below_drew1 | refine below_set ?_ GE52001.out) | exact HB.out)⟩
  · rw [if_neg c3] at H
    have c3b0 : decide (0 ≤ a1) = false := decide_eq_false c3
    clear c3
    obtain rfl := Option.some.inj H
    go_enter Tryd.func51, Tryd.ntmps51
    go_wp2_with (first | ((with_reducible refine gate_dst (N := 2) rfl ?_); (try (refine gate_guard (by rfl) ?_; dsimp only)); refine box_event ?hg (N := 2) ?hd (cs := #[.string a0_0, .slice A0_1 l0_1.length c0_1, .int .i64 a0_2, .int .i64 a0_3, .slice A0_4 l0_4.length c0_4]) (t := 35) ?hr ?_; (case hd => rfl); (case hg => rfl); (case hr => first | (go_simp; done) | (go_simp; rfl)); intro gb52001 hg w6 hbox hb; have n0_ := Aside0.mk (below_step (by repeat (first | (with_reducible first | exact HB.out | apply below_alloc | apply pw_below_drewN | apply below_drew1) | exact HB.out)) hb); have n1_ := Aside0.mk (hbox); have n2_ := Aside0.mk ((by rw [hg]; exact (below_size (by repeat (first | (with_reducible first | exact HB.out | apply below_alloc | apply pw_below_drewN | apply below_drew1) | exact HB.out))) : w.heap.size ≤ gb52001)); have n3_ := Aside0.mk ((by rw [hg]; exact (below_size (by repeat (first | (with_reducible first | exact HB.out | apply below_alloc | apply pw_below_drewN | apply below_drew1) | exact HB.out))) : w.heap.size ≤ gb52001)); clear HB; have HB := n0_; have BK52001 := n1_; have GW52001 := n2_; have GE52001 := n3_; clear n0_ n1_ n2_ n3_; clear hb hbox hg))
    go_ret
    exact ⟨by first | rfl | (simp [errW_none, errW_some] <;> rfl) | (simp [*, errW_none, errW_some] <;> rfl), by repeat (first | (with_reducible first | exact HB.out | apply below_alloc | apply pw_below_drewN | apply below_drew1 | refine below_set ?_ GE52001.out) | exact HB.out)⟩

/-! ### protocol_checkStates: function 55 -/
def protocol_checkStates.l0 : Nat → List ByteArray → List ByteArray → Int → Int → Option (Int)
  | 0, _, _, _, _ => none
  | k + 1, x0, x5, x6, x7 => if x7 < x6 then (if 0 ≤ x7 then (if x7 < (x5.length : Int) then ((lex_Ident.f k (rdOf ByteArray.empty x5 x7)).bind fun t56002 => (if t56002 = true then (if x7 ≤ (x0.length : Int) then ((slices_Contains_string_string.f k (x0.take (x7 : Int).toNat) (rdOf ByteArray.empty x5 x7)).bind fun t56004 => (if t56004 = true then (some 7) else (protocol_checkStates.l0 k x0 x5 x6 (wrap64 (x7 + 1))))) else (none)) else (some 5))) else (none)) else (none)) else (some 0)
def protocol_checkStates.f (k : Nat) (l0 : List ByteArray) : Option (Int) := protocol_checkStates.l0 k l0 l0 (l0.length : Int) 0
theorem protocol_checkStates.mono_l : ∀ k, (∀ y0 y1 y2 y3, LeO (protocol_checkStates.l0 k y0 y1 y2 y3) (protocol_checkStates.l0 (k + 1) y0 y1 y2 y3))
  | 0 => fun _ _ _ _ r h => by simp [protocol_checkStates.l0] at h
  | k + 1 => by
    have ih0 := protocol_checkStates.mono_l k
    · intro y0 y1 y2 y3
      unfold protocol_checkStates.l0
      repeat' first
      | (with_reducible exact ih0 _ _ _ _)
      | (with_reducible exact lex_Ident.mono _ _)
      | (with_reducible exact slices_Contains_string_string.mono _ _ _)
      | (with_reducible exact LeO.refl _)
      | (with_reducible exact LeO.none _)
      | (with_reducible refine LeO.ite ?_ ?_)
      | (with_reducible refine LeO.bind ?_ (fun _ => ?_))
      | exact ih0 _ _ _ _
      | exact lex_Ident.mono _ _
      | exact slices_Contains_string_string.mono _ _ _
      | exact LeO.none _
      | refine LeO.ite ?_ ?_
      | refine LeO.bind ?_ (fun _ => ?_)
theorem protocol_checkStates.mono : ∀ a0 k, LeO (protocol_checkStates.f k a0) (protocol_checkStates.f (k + 1) a0) := by
  intro a0 k
  have ih0 := protocol_checkStates.mono_l k
  unfold protocol_checkStates.f
  repeat' first
      | (with_reducible exact ih0 _ _ _ _)
      | (with_reducible exact lex_Ident.mono _ _)
      | (with_reducible exact slices_Contains_string_string.mono _ _ _)
      | (with_reducible exact LeO.refl _)
      | (with_reducible exact LeO.none _)
      | (with_reducible refine LeO.ite ?_ ?_)
      | (with_reducible refine LeO.bind ?_ (fun _ => ?_))
      | exact ih0 _ _ _ _
      | exact lex_Ident.mono _ _
      | exact slices_Contains_string_string.mono _ _ _
      | exact LeO.none _
      | refine LeO.ite ?_ ?_
      | refine LeO.bind ?_ (fun _ => ?_)
set_option maxHeartbeats 8000000 in
set_option maxRecDepth 100000 in
theorem protocol_checkStates.calls (k : Nat) (A0 : Option Addr) (c0 : Nat) (l0 : List ByteArray) (r : Int) (w : World) (hr0 : Kd.C Kd.string w A0 l0.length l0) (hc0 : l0.length ≤ c0) (hgh : Gh w) (h : protocol_checkStates.f k l0 = some r) :
    Calls Tryd.prog 55 #[.slice A0 l0.length c0] w fun e w' => e = .returned (.int .i64 r) ∧ Drawn0 w w' := by
  have HR0 := Aside0.mk hr0
  have HC0 := Aside0.mk hc0
  clear hr0 hc0
  have HGH := Aside0.mk hgh
  clear hgh
  have H : (protocol_checkStates.l0 k l0 l0 (l0.length : Int) 0) = some r := h
  clear h
  have H' := Aside0.mk H
  clear H
  go_enter Tryd.func55, Tryd.ntmps55
  go_wp2
  go_loopg [7] k (fun kq v7 w' => ∃ (x7_1 : Int), v7 = .int .i64 x7_1 ∧ Aside0 (protocol_checkStates.l0 kq l0 l0 (l0.length : Int) x7_1 = some r) ∧ Aside0 (kq ≤ k) ∧ Drawn0 w w')
  case atStart => exact ⟨(0), (by first | rfl | (simp; done) | (simp [*]; done)), H', ⟨Nat.le_refl _⟩, by repeat (first | exact Drawn0.refl _ | apply Drawn0.step)⟩
  case round =>
    clear H'
    obtain ⟨x7_1, rfl, HA, HK1, ⟨m1, rfl⟩⟩ := hrel
    cases gk with
    | zero => exact absurd HA.out (by simp [protocol_checkStates.l0])
    | succ k1 =>
      have H := HA.out
      clear HA
      simp only [protocol_checkStates.l0] at H
      by_cases c2 : x7_1 < (l0.length : Int)
      · rw [if_pos c2] at H
        have c2b0 : decide (x7_1 < (l0.length : Int)) = true := decide_eq_true c2
        clear c2
        by_cases c3 : 0 ≤ x7_1
        · rw [if_pos c3] at H
          have c3b0 : decide (0 ≤ x7_1) = true := decide_eq_true c3
          clear c3
          by_cases c4 : x7_1 < (l0.length : Int)
          · rw [if_pos c4] at H
            have c4b0 : decide (x7_1 < (l0.length : Int)) = true := decide_eq_true c4
            clear c4
            replace H := Option.bind_eq_some_iff.mp H
            obtain ⟨t56002, A50, H⟩ := H
            replace H : (if t56002 = true then (if x7_1 ≤ (l0.length : Int) then ((slices_Contains_string_string.f k1 (l0.take (x7_1 : Int).toNat) (rdOf ByteArray.empty l0 x7_1)).bind fun t56004 => (if t56004 = true then (some 7) else (protocol_checkStates.l0 k1 l0 l0 (l0.length : Int) (wrap64 (x7_1 + 1))))) else (none)) else (some 5)) = some r := H
            have A5 := Aside0.mk A50
            clear A50
            by_cases c6 : t56002 = true
            · subst c6
              have H1 : (if x7_1 ≤ (l0.length : Int) then ((slices_Contains_string_string.f k1 (l0.take (x7_1 : Int).toNat) (rdOf ByteArray.empty l0 x7_1)).bind fun t56004 => (if t56004 = true then (some 7) else (protocol_checkStates.l0 k1 l0 l0 (l0.length : Int) (wrap64 (x7_1 + 1))))) else (none)) = some r := by rw [if_pos rfl] at H; exact H
              clear H
              have H := H1
              clear H1
              have c7b0 := eq_true (of_decide_eq_true (by first | (with_reducible assumption) | assumption) : 0 ≤ x7_1)
              by_cases c8 : x7_1 ≤ (l0.length : Int)
              · rw [if_pos c8] at H
                have c8b0 := eq_true c8
                have c8b1 : decide (x7_1 ≤ (l0.length : Int)) = true := decide_eq_true c8
                clear c8
                replace H := Option.bind_eq_some_iff.mp H
                obtain ⟨t56004, A90, H⟩ := H
                replace H : (if t56004 = true then (some 7) else (protocol_checkStates.l0 k1 l0 l0 (l0.length : Int) (wrap64 (x7_1 + 1)))) = some r := H
                have A9 := Aside0.mk A90
                clear A90
                by_cases c10 : t56004 = true
                · subst c10
                  have H1 : (some 7) = some r := by rw [if_pos rfl] at H; exact H
                  clear H
                  have H := H1
                  clear H1
                  obtain rfl := Option.some.inj H
                  have p56001 : 0 ≤ (x7_1 : Int) := of_decide_eq_true (by first | (with_reducible assumption) | assumption)
                  have q56001 : x7_1 < (l0.length : Int) := of_decide_eq_true (by first | (with_reducible assumption) | assumption)
                  obtain ⟨ad56001, e56001, hx56001_0⟩ := Kd.at_string HR0.out x7_1 p56001 q56001
                  cases e56001
                  replace p56001 := eq_true p56001
                  replace q56001 := eq_true q56001
                  go_wp2_with (first | ((with_reducible refine gate_callee (f := 17) rfl ?_); refine goesL_ (some 14) rfl rfl Tryd.func17 (by kernel_rfl) rfl #[.string (rdOf ByteArray.empty l0 x7_1)] rfl (by (try simp only [List.map_toArray, List.map_cons, List.map_nil]); first | done | rfl | (simp only [List.length_drop, List.length_take]; rfl)) ?_; (with_reducible refine (lex_Ident.calls k1 (rdOf ByteArray.empty l0 x7_1) true _ ?side1 A5.out).mono ?_); (case side1 => repeat (first | exact HGH.out | (with_reducible refine Gh.drewN ?_ _) | (with_reducible refine Gh.drew ?_) | (with_reducible refine Gh.alloc ?_ _))); rintro e w' ⟨rfl, ⟨nd, rfl⟩⟩; refine ⟨_, rfl, ?_⟩; obtain ⟨i011, hi011, _, hsz11, _⟩ := info_parts info9; obtain ⟨hcut11, hA11, hC11⟩ := print_take_of (P := Tryd.prog) Value.string (⟨#[]⟩ : ByteArray) 32 9 .i64 Tryd.underlying32 hi011 hsz11 (some ad56001) c0 l0 x7_1 (of_decide_eq_true (by first | (with_reducible assumption) | assumption)) (of_decide_eq_true (by first | (with_reducible assumption) | assumption)) HC0.out; have HR56003 := Aside0.mk (Kd.C_of_reads (h1 := fun _ => rfl) (hA11 _ (Kd.reads_of_C HR0.out))); have HC56003 := Aside0.mk hC11; clear hA11 hC11 hi011 hsz11) | ((with_reducible refine gate_callee (f := 64) rfl ?_); refine goesL_ (some 21) rfl rfl Tryd.func64 (by kernel_rfl) rfl #[.slice (some ad56001) (l0.take (x7_1 : Int).toNat).length c0, .string (rdOf ByteArray.empty l0 x7_1)] rfl (by (try simp only [List.map_toArray, List.map_cons, List.map_nil]); first | done | (rw [show (l0.take (x7_1 : Int).toNat).length = x7_1.toNat from (by rw [List.length_take]; have h_ : (x7_1 : Int) ≤ (l0.length : Int) := of_decide_eq_true (by first | (with_reducible assumption) | assumption); omega)] <;> rfl) | rfl | (simp only [List.length_drop, List.length_take]; rfl)) ?_; (with_reducible refine (slices_Contains_string_string.calls k1 _ _ (l0.take (x7_1 : Int).toNat) (rdOf ByteArray.empty l0 x7_1) true _ ?side1 ?side2 A9.out).mono ?_); (case side1 => repeat (first | exact HR56003.out | (with_reducible refine Kd.C_alloc ?_ _) | (with_reducible refine Kd.C_drewN ?_ _) | (with_reducible refine Kd.C_drew ?_))); (case side2 => exact HC56003.out); rintro e w' ⟨rfl, ⟨nd, rfl⟩⟩; refine ⟨_, rfl, ?_⟩))
                  go_ret
                  exact ⟨by first | rfl | (simp; done) | (simp [*]; done), by repeat (first | exact Drawn0.refl _ | apply Drawn0.step)⟩
                · replace c10 := Bool.eq_false_iff.mpr c10
                  subst c10
                  have H1 : (protocol_checkStates.l0 k1 l0 l0 (l0.length : Int) (wrap64 (x7_1 + 1))) = some r := by rw [if_neg (show ¬ (false = true) by decide)] at H; exact H
                  clear H
                  have H := H1
                  clear H1
                  have H' := Aside0.mk H
                  clear H
                  have p56001 : 0 ≤ (x7_1 : Int) := of_decide_eq_true (by first | (with_reducible assumption) | assumption)
                  have q56001 : x7_1 < (l0.length : Int) := of_decide_eq_true (by first | (with_reducible assumption) | assumption)
                  obtain ⟨ad56001, e56001, hx56001_0⟩ := Kd.at_string HR0.out x7_1 p56001 q56001
                  cases e56001
                  replace p56001 := eq_true p56001
                  replace q56001 := eq_true q56001
                  go_wp2_with (first | ((with_reducible refine gate_callee (f := 17) rfl ?_); refine goesL_ (some 14) rfl rfl Tryd.func17 (by kernel_rfl) rfl #[.string (rdOf ByteArray.empty l0 x7_1)] rfl (by (try simp only [List.map_toArray, List.map_cons, List.map_nil]); first | done | rfl | (simp only [List.length_drop, List.length_take]; rfl)) ?_; (with_reducible refine (lex_Ident.calls k1 (rdOf ByteArray.empty l0 x7_1) true _ ?side1 A5.out).mono ?_); (case side1 => repeat (first | exact HGH.out | (with_reducible refine Gh.drewN ?_ _) | (with_reducible refine Gh.drew ?_) | (with_reducible refine Gh.alloc ?_ _))); rintro e w' ⟨rfl, ⟨nd, rfl⟩⟩; refine ⟨_, rfl, ?_⟩; obtain ⟨i012, hi012, _, hsz12, _⟩ := info_parts info9; obtain ⟨hcut12, hA12, hC12⟩ := print_take_of (P := Tryd.prog) Value.string (⟨#[]⟩ : ByteArray) 32 9 .i64 Tryd.underlying32 hi012 hsz12 (some ad56001) c0 l0 x7_1 (of_decide_eq_true (by first | (with_reducible assumption) | assumption)) (of_decide_eq_true (by first | (with_reducible assumption) | assumption)) HC0.out; have HR56003 := Aside0.mk (Kd.C_of_reads (h1 := fun _ => rfl) (hA12 _ (Kd.reads_of_C HR0.out))); have HC56003 := Aside0.mk hC12; clear hA12 hC12 hi012 hsz12) | ((with_reducible refine gate_callee (f := 64) rfl ?_); refine goesL_ (some 21) rfl rfl Tryd.func64 (by kernel_rfl) rfl #[.slice (some ad56001) (l0.take (x7_1 : Int).toNat).length c0, .string (rdOf ByteArray.empty l0 x7_1)] rfl (by (try simp only [List.map_toArray, List.map_cons, List.map_nil]); first | done | (rw [show (l0.take (x7_1 : Int).toNat).length = x7_1.toNat from (by rw [List.length_take]; have h_ : (x7_1 : Int) ≤ (l0.length : Int) := of_decide_eq_true (by first | (with_reducible assumption) | assumption); omega)] <;> rfl) | rfl | (simp only [List.length_drop, List.length_take]; rfl)) ?_; (with_reducible refine (slices_Contains_string_string.calls k1 _ _ (l0.take (x7_1 : Int).toNat) (rdOf ByteArray.empty l0 x7_1) false _ ?side1 ?side2 A9.out).mono ?_); (case side1 => repeat (first | exact HR56003.out | (with_reducible refine Kd.C_alloc ?_ _) | (with_reducible refine Kd.C_drewN ?_ _) | (with_reducible refine Kd.C_drew ?_))); (case side2 => exact HC56003.out); rintro e w' ⟨rfl, ⟨nd, rfl⟩⟩; refine ⟨_, rfl, ?_⟩))
                  go_roundg k1
                  case measure => have := HK1.out; omega
                  case rel => exact ⟨(wrap64 (x7_1 + 1)), (by first | rfl | (simp; done) | (simp [*]; done)), H', ⟨by have := HK1.out; omega⟩, by repeat (first | exact Drawn0.refl _ | apply Drawn0.step)⟩
              · rw [if_neg c8] at H
                exact absurd H (by simp)
            · replace c6 := Bool.eq_false_iff.mpr c6
              subst c6
              have H1 : (some 5) = some r := by rw [if_neg (show ¬ (false = true) by decide)] at H; exact H
              clear H
              have H := H1
              clear H1
              obtain rfl := Option.some.inj H
              have p56001 : 0 ≤ (x7_1 : Int) := of_decide_eq_true (by first | (with_reducible assumption) | assumption)
              have q56001 : x7_1 < (l0.length : Int) := of_decide_eq_true (by first | (with_reducible assumption) | assumption)
              obtain ⟨ad56001, e56001, hx56001_0⟩ := Kd.at_string HR0.out x7_1 p56001 q56001
              cases e56001
              replace p56001 := eq_true p56001
              replace q56001 := eq_true q56001
              go_wp2_with (first | ((with_reducible refine gate_callee (f := 17) rfl ?_); refine goesL_ (some 14) rfl rfl Tryd.func17 (by kernel_rfl) rfl #[.string (rdOf ByteArray.empty l0 x7_1)] rfl (by (try simp only [List.map_toArray, List.map_cons, List.map_nil]); first | done | rfl | (simp only [List.length_drop, List.length_take]; rfl)) ?_; (with_reducible refine (lex_Ident.calls k1 (rdOf ByteArray.empty l0 x7_1) false _ ?side1 A5.out).mono ?_); (case side1 => repeat (first | exact HGH.out | (with_reducible refine Gh.drewN ?_ _) | (with_reducible refine Gh.drew ?_) | (with_reducible refine Gh.alloc ?_ _))); rintro e w' ⟨rfl, ⟨nd, rfl⟩⟩; refine ⟨_, rfl, ?_⟩))
              go_ret
              exact ⟨by first | rfl | (simp; done) | (simp [*]; done), by repeat (first | exact Drawn0.refl _ | apply Drawn0.step)⟩
          · rw [if_neg c4] at H
            exact absurd H (by simp)
        · rw [if_neg c3] at H
          exact absurd H (by simp)
      · rw [if_neg c2] at H
        have c2b0 : decide (x7_1 < (l0.length : Int)) = false := decide_eq_false c2
        clear c2
        obtain rfl := Option.some.inj H
        go_wp2
        go_ret
        exact ⟨by first | rfl | (simp; done) | (simp [*]; done), by repeat (first | exact Drawn0.refl _ | apply Drawn0.step)⟩

/-! ### protocol_checkMoves: function 56 -/
mutual
def protocol_checkMoves.l0 : Nat → List (S64) → Int → Int → ByteArray → List ByteArray → Int → Int → List (S64) → Option (Int)
  | 0, _, _, _, _, _, _, _, _ => none
  | k + 1, x6, x7, x8, x57002000, x57002001, x57002002, x57002003, x57002004 => if x8 < x7 then (if 0 ≤ x8 then (if x8 < (x6.length : Int) then ((protocol_in.f x57002000 x57002001 x57002002 x57002003 x57002004 ((rd_T64 x6 x8).f0)).bind fun t57004 => (if t57004 = true then ((protocol_in.f x57002000 x57002001 x57002002 x57002003 x57002004 ((rd_T64 x6 x8).f2)).bind fun t57005 => (protocol_checkMoves.j1 k x8 x6 x7 x8 (!t57005) x57002000 x57002001 x57002002 x57002003 x57002004 ((rd_T64 x6 x8).f0) ((rd_T64 x6 x8).f1) ((rd_T64 x6 x8).f2))) else (protocol_checkMoves.j1 k x8 x6 x7 x8 true x57002000 x57002001 x57002002 x57002003 x57002004 ((rd_T64 x6 x8).f0) ((rd_T64 x6 x8).f1) ((rd_T64 x6 x8).f2)))) else (none)) else (none)) else (some 0)
def protocol_checkMoves.j1 : Nat → Int → List (S64) → Int → Int → Bool → ByteArray → List ByteArray → Int → Int → List (S64) → Int → ByteArray → Int → Option (Int)
  | 0, _, _, _, _, _, _, _, _, _, _, _, _, _ => none
  | k + 1, x3, x6, x7, x8, x13, x57002000, x57002001, x57002002, x57002003, x57002004, x57004000, x57004001, x57004002 => if x13 = true then (some 4) else ((lex_Ident.f k x57004001).bind fun t57006 => (if t57006 = true then (if x57004000 = x57002003 then (some 22) else (if x3 > 0 then (if 0 ≤ (wrap64 (x3 - 1)) then (if (wrap64 (x3 - 1)) < (x57002004.length : Int) then ((protocol_compare.f k ((rd_T64 x57002004 (wrap64 (x3 - 1))).f0) ((rd_T64 x57002004 (wrap64 (x3 - 1))).f1) ((rd_T64 x57002004 (wrap64 (x3 - 1))).f2) x57004000 x57004001 x57004002).bind fun t57008 => (if t57008 ≥ 0 then (some 13) else (protocol_checkMoves.l0 k x6 x7 (wrap64 (x8 + 1)) x57002000 x57002001 x57002002 x57002003 x57002004))) else (none)) else (none)) else (protocol_checkMoves.l0 k x6 x7 (wrap64 (x8 + 1)) x57002000 x57002001 x57002002 x57002003 x57002004))) else (some 5)))
end
def protocol_checkMoves.f (k : Nat) (a0_0 : ByteArray) (l0_1 : List ByteArray) (a0_2 : Int) (a0_3 : Int) (l0_4 : List (S64)) : Option (Int) := protocol_checkMoves.l0 k l0_4 (l0_4.length : Int) 0 a0_0 l0_1 a0_2 a0_3 l0_4
theorem protocol_checkMoves.mono_l : ∀ k, (∀ y0 y1 y2 y3 y4 y5 y6 y7, LeO (protocol_checkMoves.l0 k y0 y1 y2 y3 y4 y5 y6 y7) (protocol_checkMoves.l0 (k + 1) y0 y1 y2 y3 y4 y5 y6 y7)) ∧ (∀ y0 y1 y2 y3 y4 y5 y6 y7 y8 y9 y10 y11 y12, LeO (protocol_checkMoves.j1 k y0 y1 y2 y3 y4 y5 y6 y7 y8 y9 y10 y11 y12) (protocol_checkMoves.j1 (k + 1) y0 y1 y2 y3 y4 y5 y6 y7 y8 y9 y10 y11 y12))
  | 0 => ⟨fun _ _ _ _ _ _ _ _ r h => by simp [protocol_checkMoves.l0] at h, fun _ _ _ _ _ _ _ _ _ _ _ _ _ r h => by simp [protocol_checkMoves.j1] at h⟩
  | k + 1 => by
    obtain ⟨ih0, ih1⟩ := protocol_checkMoves.mono_l k
    refine ⟨?_, ?_⟩
    · intro y0 y1 y2 y3 y4 y5 y6 y7
      unfold protocol_checkMoves.l0
      repeat' first
      | (with_reducible exact ih0 _ _ _ _ _ _ _ _)
      | (with_reducible exact ih1 _ _ _ _ _ _ _ _ _ _ _ _ _)
      | (with_reducible exact lex_Ident.mono _ _)
      | (with_reducible exact protocol_compare.mono _ _ _ _ _ _ _)
      | (with_reducible exact LeO.refl _)
      | (with_reducible exact LeO.none _)
      | (with_reducible refine LeO.ite ?_ ?_)
      | (with_reducible refine LeO.bind ?_ (fun _ => ?_))
      | exact ih0 _ _ _ _ _ _ _ _
      | exact ih1 _ _ _ _ _ _ _ _ _ _ _ _ _
      | exact lex_Ident.mono _ _
      | exact protocol_compare.mono _ _ _ _ _ _ _
      | exact LeO.none _
      | refine LeO.ite ?_ ?_
      | refine LeO.bind ?_ (fun _ => ?_)
    · intro y0 y1 y2 y3 y4 y5 y6 y7 y8 y9 y10 y11 y12
      unfold protocol_checkMoves.j1
      repeat' first
      | (with_reducible exact ih0 _ _ _ _ _ _ _ _)
      | (with_reducible exact ih1 _ _ _ _ _ _ _ _ _ _ _ _ _)
      | (with_reducible exact lex_Ident.mono _ _)
      | (with_reducible exact protocol_compare.mono _ _ _ _ _ _ _)
      | (with_reducible exact LeO.refl _)
      | (with_reducible exact LeO.none _)
      | (with_reducible refine LeO.ite ?_ ?_)
      | (with_reducible refine LeO.bind ?_ (fun _ => ?_))
      | exact ih0 _ _ _ _ _ _ _ _
      | exact ih1 _ _ _ _ _ _ _ _ _ _ _ _ _
      | exact lex_Ident.mono _ _
      | exact protocol_compare.mono _ _ _ _ _ _ _
      | exact LeO.none _
      | refine LeO.ite ?_ ?_
      | refine LeO.bind ?_ (fun _ => ?_)
theorem protocol_checkMoves.mono : ∀ a0 a1 a2 a3 a4 k, LeO (protocol_checkMoves.f k a0 a1 a2 a3 a4) (protocol_checkMoves.f (k + 1) a0 a1 a2 a3 a4) := by
  intro a0 a1 a2 a3 a4 k
  obtain ⟨ih0, ih1⟩ := protocol_checkMoves.mono_l k
  unfold protocol_checkMoves.f
  repeat' first
      | (with_reducible exact ih0 _ _ _ _ _ _ _ _)
      | (with_reducible exact ih1 _ _ _ _ _ _ _ _ _ _ _ _ _)
      | (with_reducible exact lex_Ident.mono _ _)
      | (with_reducible exact protocol_compare.mono _ _ _ _ _ _ _)
      | (with_reducible exact LeO.refl _)
      | (with_reducible exact LeO.none _)
      | (with_reducible refine LeO.ite ?_ ?_)
      | (with_reducible refine LeO.bind ?_ (fun _ => ?_))
      | exact ih0 _ _ _ _ _ _ _ _
      | exact ih1 _ _ _ _ _ _ _ _ _ _ _ _ _
      | exact lex_Ident.mono _ _
      | exact protocol_compare.mono _ _ _ _ _ _ _
      | exact LeO.none _
      | refine LeO.ite ?_ ?_
      | refine LeO.bind ?_ (fun _ => ?_)
def protocol_checkMoves.T10 : Bool × List (List Nat × List Nat) := (true, [([], []), ([0], [0]), ([1], [1]), ([2], [2]), ([3, 2], [2, 3]), ([2], [2]), ([5, 2], [2, 5]), ([4, 6, 2], [2, 4, 6]), ([7, 2], [2, 7]), ([2], [2]), ([8, 9, 2, 2], [2, 8, 9]), ([10, 2], [2, 10]), ([2, 11], [2, 11]), ([12, 10], [12])])
def protocol_checkMoves.B10 : List Nat := [0, 1, 3, 7, 15, 7, 39, 127, 255, 7, 1023, 2047, 4095, 8191]
theorem protocol_checkMoves.tab10 : rtab .any (opsOf Tryd.f56 10) = protocol_checkMoves.T10 := by kernel_rfl
theorem protocol_checkMoves.bits10 : waitsOk protocol_checkMoves.T10.2 protocol_checkMoves.B10 = true := by kernel_rfl
set_option maxHeartbeats 8000000 in
set_option maxRecDepth 100000 in
theorem protocol_checkMoves.calls (k : Nat) (a0_0 : ByteArray) (A0_1 : Option Addr) (c0_1 : Nat) (l0_1 : List ByteArray) (a0_2 : Int) (a0_3 : Int) (A0_4 : Option Addr) (c0_4 : Nat) (l0_4 : List (S64)) (r : Int) (w : World) (hr0_1 : Kd.C Kd.string w A0_1 l0_1.length l0_1) (hc0_1 : l0_1.length ≤ c0_1) (hr0_4 : Kd.C k64 w A0_4 l0_4.length l0_4) (hc0_4 : l0_4.length ≤ c0_4) (hgh : Gh w) (h : protocol_checkMoves.f k a0_0 l0_1 a0_2 a0_3 l0_4 = some r) :
    Calls Tryd.prog 56 #[.agg #[.string a0_0, .slice A0_1 l0_1.length c0_1, .int .i64 a0_2, .int .i64 a0_3, .slice A0_4 l0_4.length c0_4]] w fun e w' => e = .returned (.int .i64 r) ∧ Below w.heap.size w w' := by
  have hu35 := Tryd.underlying35
  have hu64 := Tryd.underlying64
  have HR0_1 := Aside0.mk hr0_1
  have HC0_1 := Aside0.mk hc0_1
  clear hr0_1 hc0_1
  have HR0_4 := Aside0.mk hr0_4
  have HC0_4 := Aside0.mk hc0_4
  clear hr0_4 hc0_4
  have HB := Aside0.mk (Below.refl w.heap.size w)
  have HGH := Aside0.mk hgh
  clear hgh
  have H : (protocol_checkMoves.l0 k l0_4 (l0_4.length : Int) 0 a0_0 l0_1 a0_2 a0_3 l0_4) = some r := h
  clear h
  have H' := Aside0.mk H
  clear H
  go_enter Tryd.func56, Tryd.ntmps56
  go_wp2_with (first | ((with_reducible refine gate_dst (N := 1) rfl ?_); refine box_event ?hg (N := 1) ?hd (cs := #[.string a0_0, .slice A0_1 l0_1.length c0_1, .int .i64 a0_2, .int .i64 a0_3, .slice A0_4 l0_4.length c0_4]) (t := 35) ?hr ?_; (case hd => rfl); (case hg => rfl); (case hr => first | (go_simp; done) | (go_simp; rfl)); intro gb57001 hg w2 hbox hb; have n0_ := Aside0.mk (below_step (by repeat (first | (with_reducible first | exact HB.out | apply below_alloc | apply pw_below_drewN | apply below_drew1) | exact HB.out)) hb); have n1_ := Aside0.mk (hbox); have n2_ := Aside0.mk ((by rw [hg]; exact (below_size (by repeat (first | (with_reducible first | exact HB.out | apply below_alloc | apply pw_below_drewN | apply below_drew1) | exact HB.out))) : w.heap.size ≤ gb57001)); have n3_ := Aside0.mk ((by rw [hg]; exact (below_size (by repeat (first | (with_reducible first | exact HB.out | apply below_alloc | apply pw_below_drewN | apply below_drew1) | exact HB.out))) : w.heap.size ≤ gb57001)); clear HB; have HB := n0_; have BK57001 := n1_; have GW57001 := n2_; have GE57001 := n3_; clear n0_ n1_ n2_ n3_; clear hb hbox hg; have hcz3_0 : w2.cell? ⟨gb57001, 0, none⟩ = some (.string a0_0) := (blk_cell BK57001.out 0).trans rfl; have hcz3_1 : w2.cell? ⟨gb57001, 1, none⟩ = some (.slice A0_1 l0_1.length c0_1) := (blk_cell BK57001.out 1).trans rfl; have hcz3_2 : w2.cell? ⟨gb57001, 2, none⟩ = some (.int .i64 a0_2) := (blk_cell BK57001.out 2).trans rfl; have hcz3_3 : w2.cell? ⟨gb57001, 3, none⟩ = some (.int .i64 a0_3) := (blk_cell BK57001.out 3).trans rfl; have hcz3_4 : w2.cell? ⟨gb57001, 4, none⟩ = some (.slice A0_4 l0_4.length c0_4) := (blk_cell BK57001.out 4).trans rfl; have hfz3_0 := blk_frozen BK57001.out 0; have hfz3_1 := blk_frozen BK57001.out 1; have hfz3_2 := blk_frozen BK57001.out 2; have hfz3_3 := blk_frozen BK57001.out 3; have hfz3_4 := blk_frozen BK57001.out 4))
  go_loopg [8] k (fun kq v8 w' => ∃ (x8_1 : Int), v8 = .int .i64 x8_1 ∧ Aside0 (protocol_checkMoves.l0 kq l0_4 (l0_4.length : Int) x8_1 a0_0 l0_1 a0_2 a0_3 l0_4 = some r) ∧ Aside0 (kq ≤ k) ∧ Aside0 (w'.heap[gb57001]? = some (.cells #[.string a0_0, (.slice A0_1 l0_1.length c0_1), .int .i64 a0_2, .int .i64 a0_3, (.slice A0_4 l0_4.length c0_4)] 35 (0, 0))) ∧ Aside0 (Below w.heap.size w w'))
  case atStart => exact ⟨(0), (by first | rfl | (simp; done) | (simp [*]; done)), H', ⟨Nat.le_refl _⟩, ⟨by (with_reducible repeat (first | refine blk_drewN ?_ _ | refine blk_drew ?_ | refine blk_alloc ?_ _)); exact BK57001.out⟩, ⟨by repeat (first | (with_reducible first | exact HB.out | apply below_alloc | apply pw_below_drewN | apply below_drew1 | refine below_set ?_ GE57001.out) | exact HB.out)⟩⟩
  case round =>
    clear H'
    try clear p2
    try clear hcz3_0
    try clear hcz3_1
    try clear hcz3_2
    try clear hcz3_3
    try clear hcz3_4
    try clear hfz3_0
    try clear hfz3_1
    try clear hfz3_2
    try clear hfz3_3
    try clear hfz3_4
    obtain ⟨x8_1, rfl, HA, HK1, BK57001, HB⟩ := hrel
    cases gk with
    | zero => exact absurd HA.out (by simp [protocol_checkMoves.l0])
    | succ k1 =>
      have H := HA.out
      clear HA
      simp only [protocol_checkMoves.l0] at H
      by_cases c4 : x8_1 < (l0_4.length : Int)
      · rw [if_pos c4] at H
        have c4b0 : decide (x8_1 < (l0_4.length : Int)) = true := decide_eq_true c4
        clear c4
        by_cases c5 : 0 ≤ x8_1
        · rw [if_pos c5] at H
          have c5b0 : decide (0 ≤ x8_1) = true := decide_eq_true c5
          clear c5
          by_cases c6 : x8_1 < (l0_4.length : Int)
          · rw [if_pos c6] at H
            have c6b0 : decide (x8_1 < (l0_4.length : Int)) = true := decide_eq_true c6
            clear c6
            have HC7 := Aside0.mk H
            clear H
            have p57002 : 0 ≤ (x8_1 : Int) := of_decide_eq_true (by first | (with_reducible assumption) | assumption)
            have q57002 : x8_1 < (l0_4.length : Int) := of_decide_eq_true (by first | (with_reducible assumption) | assumption)
            obtain ⟨ad57002, e57002, hx57002_0, hx57002_1, hx57002_2⟩ := at_T64 HR0_4.out x8_1 p57002 q57002
            cases e57002
            replace hx57002_0 := (HB.out.cell (World.block_lt_of_cell? w _ hx57002_0)).trans hx57002_0
            replace hx57002_1 := (HB.out.cell (World.block_lt_of_cell? w _ hx57002_1)).trans hx57002_1
            replace hx57002_2 := (HB.out.cell (World.block_lt_of_cell? w _ hx57002_2)).trans hx57002_2
            replace p57002 := eq_true p57002
            replace q57002 := eq_true q57002
            go_upto_region 4 with (first | ((with_reducible refine gate_dst (N := 4) rfl ?_); refine box_event ?hg (N := 4) ?hd (cs := #[.int .i64 0, .string (⟨#[]⟩ : ByteArray), .int .i64 0]) (t := 64) ?hr ?_; (case hd => rfl); (case hg => rfl); (case hr => first | (go_simp; done) | (go_simp; rfl)); intro gb57003 hg w8 hbox hb; have n0_ := Aside0.mk (blk_below (g := gb57001) (o := .cells #[.string a0_0, .slice A0_1 l0_1.length c0_1, .int .i64 a0_2, .int .i64 a0_3, .slice (some ad57002) l0_4.length c0_4] 35 (0, 0)) (by (with_reducible repeat (first | refine blk_drewN ?_ _ | refine blk_drew ?_ | refine blk_alloc ?_ _)); exact BK57001.out) hb); have n1_ := Aside0.mk (below_step (by repeat (first | (with_reducible first | exact HB.out | apply below_alloc | apply pw_below_drewN | apply below_drew1 | refine below_set ?_ GE57001.out) | exact HB.out)) hb); have n2_ := Aside0.mk (hbox); have n3_ := Aside0.mk ((by rw [hg]; exact (below_size (by repeat (first | (with_reducible first | exact HB.out | apply below_alloc | apply pw_below_drewN | apply below_drew1 | refine below_set ?_ GE57001.out) | exact HB.out))) : w.heap.size ≤ gb57003)); have n4_ := Aside0.mk ((by rw [hg]; exact (below_size (by repeat (first | (with_reducible first | exact HB.out | apply below_alloc | apply pw_below_drewN | apply below_drew1 | refine below_set ?_ GE57001.out) | exact HB.out))) : w.heap.size ≤ gb57003)); have n5_ := Aside0.mk ((by rw [hg]; exact Nat.ne_of_lt (blk_lt (g := gb57001) (o := .cells #[.string a0_0, .slice A0_1 l0_1.length c0_1, .int .i64 a0_2, .int .i64 a0_3, .slice (some ad57002) l0_4.length c0_4] 35 (0, 0)) (by (with_reducible repeat (first | refine blk_drewN ?_ _ | refine blk_drew ?_ | refine blk_alloc ?_ _)); exact BK57001.out)) : gb57001 ≠ gb57003)); have n6_ := Aside0.mk ((by rw [hg]; exact Nat.ne_of_gt (blk_lt (g := gb57001) (o := .cells #[.string a0_0, .slice A0_1 l0_1.length c0_1, .int .i64 a0_2, .int .i64 a0_3, .slice (some ad57002) l0_4.length c0_4] 35 (0, 0)) (by (with_reducible repeat (first | refine blk_drewN ?_ _ | refine blk_drew ?_ | refine blk_alloc ?_ _)); exact BK57001.out)) : gb57003 ≠ gb57001)); clear BK57001; clear HB; have BK57001 := n0_; have HB := n1_; have BK57003 := n2_; have GW57003 := n3_; have GE57003 := n4_; have NB57001_57003 := n5_; have NB57003_57001 := n6_; clear n0_ n1_ n2_ n3_ n4_ n5_ n6_; clear hb hbox hg; have hnb9 := NB57003_57001.out; have hnc9 := NB57001_57003.out; have hcz10_0 : w8.cell? ⟨gb57003, 0, none⟩ = some (.int .i64 0) := (blk_cell BK57003.out 0).trans rfl; have hcz10_1 : w8.cell? ⟨gb57003, 1, none⟩ = some (.string (⟨#[]⟩ : ByteArray)) := (blk_cell BK57003.out 1).trans rfl; have hcz10_2 : w8.cell? ⟨gb57003, 2, none⟩ = some (.int .i64 0) := (blk_cell BK57003.out 2).trans rfl; have hfz10_0 := blk_frozen BK57003.out 0; have hfz10_1 := blk_frozen BK57003.out 1; have hfz10_2 := blk_frozen BK57003.out 2))
            (try simp only [Act.put, List.setIfInBounds_toArray, List.set_cons_zero, List.set_cons_succ])
            go_cut [13] (fun v13 wc => ∃ (kq : Nat) (x13_6 : Bool), v13 = .bool x13_6 ∧ Aside0 (protocol_checkMoves.j1 kq x8_1 l0_4 (l0_4.length : Int) x8_1 x13_6 a0_0 l0_1 a0_2 a0_3 l0_4 ((rd_T64 l0_4 x8_1).f0) ((rd_T64 l0_4 x8_1).f1) ((rd_T64 l0_4 x8_1).f2) = some r) ∧ Aside0 (kq ≤ k1) ∧ Aside0 (wc.heap[gb57001]? = some (.cells #[.string a0_0, (.slice A0_1 l0_1.length c0_1), .int .i64 a0_2, .int .i64 a0_3, (.slice (some ad57002) l0_4.length c0_4)] 35 (0, 0))) ∧ Aside0 (wc.heap[gb57003]? = some (.cells #[.int .i64 ((rd_T64 l0_4 x8_1).f0), .string ((rd_T64 l0_4 x8_1).f1), .int .i64 ((rd_T64 l0_4 x8_1).f2)] 64 (0, 0))) ∧ Aside0 (Below w.heap.size w wc))
            case first =>
              have H := HC7.out
              clear HC7
              replace H := Option.bind_eq_some_iff.mp H
              obtain ⟨t57004, A110, H⟩ := H
              replace H : (if t57004 = true then ((protocol_in.f a0_0 l0_1 a0_2 a0_3 l0_4 ((rd_T64 l0_4 x8_1).f2)).bind fun t57005 => (protocol_checkMoves.j1 k1 x8_1 l0_4 (l0_4.length : Int) x8_1 (!t57005) a0_0 l0_1 a0_2 a0_3 l0_4 ((rd_T64 l0_4 x8_1).f0) ((rd_T64 l0_4 x8_1).f1) ((rd_T64 l0_4 x8_1).f2))) else (protocol_checkMoves.j1 k1 x8_1 l0_4 (l0_4.length : Int) x8_1 true a0_0 l0_1 a0_2 a0_3 l0_4 ((rd_T64 l0_4 x8_1).f0) ((rd_T64 l0_4 x8_1).f1) ((rd_T64 l0_4 x8_1).f2))) = some r := H
              have A11 := Aside0.mk A110
              clear A110
              by_cases c12 : t57004 = true
              · subst c12
                have H1 : ((protocol_in.f a0_0 l0_1 a0_2 a0_3 l0_4 ((rd_T64 l0_4 x8_1).f2)).bind fun t57005 => (protocol_checkMoves.j1 k1 x8_1 l0_4 (l0_4.length : Int) x8_1 (!t57005) a0_0 l0_1 a0_2 a0_3 l0_4 ((rd_T64 l0_4 x8_1).f0) ((rd_T64 l0_4 x8_1).f1) ((rd_T64 l0_4 x8_1).f2))) = some r := by rw [if_pos rfl] at H; exact H
                clear H
                have H := H1
                clear H1
                replace H := Option.bind_eq_some_iff.mp H
                obtain ⟨t57005, A130, H⟩ := H
                replace H : (protocol_checkMoves.j1 k1 x8_1 l0_4 (l0_4.length : Int) x8_1 (!t57005) a0_0 l0_1 a0_2 a0_3 l0_4 ((rd_T64 l0_4 x8_1).f0) ((rd_T64 l0_4 x8_1).f1) ((rd_T64 l0_4 x8_1).f2)) = some r := H
                have A13 := Aside0.mk A130
                clear A130
                have H' := Aside0.mk H
                clear H
                have hnb14 := NB57001_57003.out
                have hnc14 := NB57003_57001.out
                have hcz15_0 : w8.cell? ⟨gb57001, 0, none⟩ = some (.string a0_0) := (blk_cell BK57001.out 0).trans rfl
                have hcz15_1 : w8.cell? ⟨gb57001, 1, none⟩ = some (.slice A0_1 l0_1.length c0_1) := (blk_cell BK57001.out 1).trans rfl
                have hcz15_2 : w8.cell? ⟨gb57001, 2, none⟩ = some (.int .i64 a0_2) := (blk_cell BK57001.out 2).trans rfl
                have hcz15_3 : w8.cell? ⟨gb57001, 3, none⟩ = some (.int .i64 a0_3) := (blk_cell BK57001.out 3).trans rfl
                have hcz15_4 : w8.cell? ⟨gb57001, 4, none⟩ = some (.slice (some ad57002) l0_4.length c0_4) := (blk_cell BK57001.out 4).trans rfl
                have hfz15_0 := blk_frozen BK57001.out 0
                have hfz15_1 := blk_frozen BK57001.out 1
                have hfz15_2 := blk_frozen BK57001.out 2
                have hfz15_3 := blk_frozen BK57001.out 3
                have hfz15_4 := blk_frozen BK57001.out 4
                have hcz16_0 : w8.cell? ⟨gb57003, 0, none⟩ = some (.int .i64 0) := (blk_cell BK57003.out 0).trans rfl
                have hcz16_1 : w8.cell? ⟨gb57003, 1, none⟩ = some (.string (⟨#[]⟩ : ByteArray)) := (blk_cell BK57003.out 1).trans rfl
                have hcz16_2 : w8.cell? ⟨gb57003, 2, none⟩ = some (.int .i64 0) := (blk_cell BK57003.out 2).trans rfl
                have hfz16_0 := blk_frozen BK57003.out 0
                have hfz16_1 := blk_frozen BK57003.out 1
                have hfz16_2 := blk_frozen BK57003.out 2
                go_wp2_with (first | ((with_reducible refine gate_callee (f := 51) rfl ?_); refine goesL_ (some 17) rfl rfl Tryd.func51 (by kernel_rfl) rfl #[.agg #[.string a0_0, .slice A0_1 l0_1.length c0_1, .int .i64 a0_2, .int .i64 a0_3, .slice (some ad57002) l0_4.length c0_4], .int .i64 ((rd_T64 l0_4 x8_1).f0)] rfl (by (try simp only [List.map_toArray, List.map_cons, List.map_nil]); first | done | rfl | (simp only [List.length_drop, List.length_take]; rfl)) ?_; (with_reducible refine (protocol_in.calls a0_0 _ _ l0_1 a0_2 a0_3 _ _ l0_4 ((rd_T64 l0_4 x8_1).f0) true _ ?side1 ?side2 ?side3 ?side4 A11.out).mono ?_); (case side1 => exact Kd.C_below HR0_1.out (by repeat (first | (with_reducible first | exact HB.out | apply below_alloc | apply pw_below_drewN | apply below_drew1 | refine below_set ?_ GE57001.out | refine below_set ?_ GE57003.out) | exact HB.out))); (case side2 => exact HC0_1.out); (case side3 => exact Kd.C_below HR0_4.out (by repeat (first | (with_reducible first | exact HB.out | apply below_alloc | apply pw_below_drewN | apply below_drew1 | refine below_set ?_ GE57001.out | refine below_set ?_ GE57003.out) | exact HB.out))); (case side4 => exact HC0_4.out); rintro e w17 ⟨rfl, hb⟩; refine ⟨_, rfl, ?_⟩; have n0_ := Aside0.mk (blk_below (g := gb57001) (o := .cells #[.string a0_0, .slice A0_1 l0_1.length c0_1, .int .i64 a0_2, .int .i64 a0_3, .slice (some ad57002) l0_4.length c0_4] 35 (0, 0)) (by (with_reducible repeat (first | refine blk_drewN ?_ _ | refine blk_drew ?_ | refine blk_alloc ?_ _)); refine blk_far ?_ NB57001_57003.out _; (with_reducible repeat (first | refine blk_drewN ?_ _ | refine blk_drew ?_ | refine blk_alloc ?_ _)); refine blk_far ?_ NB57001_57003.out _; (with_reducible repeat (first | refine blk_drewN ?_ _ | refine blk_drew ?_ | refine blk_alloc ?_ _)); refine blk_far ?_ NB57001_57003.out _; (with_reducible repeat (first | refine blk_drewN ?_ _ | refine blk_drew ?_ | refine blk_alloc ?_ _)); exact BK57001.out) hb); have n1_ := Aside0.mk (blk_below (g := gb57003) (o := .cells #[.int .i64 ((rd_T64 l0_4 x8_1).f0), .string ((rd_T64 l0_4 x8_1).f1), .int .i64 ((rd_T64 l0_4 x8_1).f2)] 64 (0, 0)) (by (with_reducible repeat (first | refine blk_drewN ?_ _ | refine blk_drew ?_ | refine blk_alloc ?_ _)); refine blk_put (cs := #[.int .i64 ((rd_T64 l0_4 x8_1).f0), .string ((rd_T64 l0_4 x8_1).f1), .int .i64 0]) ?_ 2 _ rfl; (with_reducible repeat (first | refine blk_drewN ?_ _ | refine blk_drew ?_ | refine blk_alloc ?_ _)); refine blk_put (cs := #[.int .i64 ((rd_T64 l0_4 x8_1).f0), .string (⟨#[]⟩ : ByteArray), .int .i64 0]) ?_ 1 _ rfl; (with_reducible repeat (first | refine blk_drewN ?_ _ | refine blk_drew ?_ | refine blk_alloc ?_ _)); refine blk_put (cs := #[.int .i64 0, .string (⟨#[]⟩ : ByteArray), .int .i64 0]) ?_ 0 _ rfl; (with_reducible repeat (first | refine blk_drewN ?_ _ | refine blk_drew ?_ | refine blk_alloc ?_ _)); exact BK57003.out) hb); have n2_ := Aside0.mk (below_step (by repeat (first | (with_reducible first | exact HB.out | apply below_alloc | apply pw_below_drewN | apply below_drew1 | refine below_set ?_ GE57001.out | refine below_set ?_ GE57003.out) | exact HB.out)) hb); clear BK57001; clear BK57003; clear HB; have BK57001 := n0_; have BK57003 := n1_; have HB := n2_; clear n0_ n1_ n2_; (try clear hb); (try clear hb2); (try clear hk); (try clear hi); have hcz18_0 : w17.cell? ⟨gb57001, 0, none⟩ = some (.string a0_0) := (blk_cell BK57001.out 0).trans rfl; have hcz18_1 : w17.cell? ⟨gb57001, 1, none⟩ = some (.slice A0_1 l0_1.length c0_1) := (blk_cell BK57001.out 1).trans rfl; have hcz18_2 : w17.cell? ⟨gb57001, 2, none⟩ = some (.int .i64 a0_2) := (blk_cell BK57001.out 2).trans rfl; have hcz18_3 : w17.cell? ⟨gb57001, 3, none⟩ = some (.int .i64 a0_3) := (blk_cell BK57001.out 3).trans rfl; have hcz18_4 : w17.cell? ⟨gb57001, 4, none⟩ = some (.slice (some ad57002) l0_4.length c0_4) := (blk_cell BK57001.out 4).trans rfl; have hfz18_0 := blk_frozen BK57001.out 0; have hfz18_1 := blk_frozen BK57001.out 1; have hfz18_2 := blk_frozen BK57001.out 2; have hfz18_3 := blk_frozen BK57001.out 3; have hfz18_4 := blk_frozen BK57001.out 4; have hcz19_0 : w17.cell? ⟨gb57003, 0, none⟩ = some (.int .i64 ((rd_T64 l0_4 x8_1).f0)) := (blk_cell BK57003.out 0).trans rfl; have hcz19_1 : w17.cell? ⟨gb57003, 1, none⟩ = some (.string ((rd_T64 l0_4 x8_1).f1)) := (blk_cell BK57003.out 1).trans rfl; have hcz19_2 : w17.cell? ⟨gb57003, 2, none⟩ = some (.int .i64 ((rd_T64 l0_4 x8_1).f2)) := (blk_cell BK57003.out 2).trans rfl; have hfz19_0 := blk_frozen BK57003.out 0; have hfz19_1 := blk_frozen BK57003.out 1; have hfz19_2 := blk_frozen BK57003.out 2) | (go_at_call 51; (with_reducible refine (protocol_in.calls a0_0 _ _ l0_1 a0_2 a0_3 _ _ l0_4 ((rd_T64 l0_4 x8_1).f2) t57005 _ ?side1 ?side2 ?side3 ?side4 A13.out).mono ?_); (case side1 => repeat (first | exact (Kd.C_below HR0_1.out HB.out) | (with_reducible refine Kd.C_alloc ?_ _) | (with_reducible refine Kd.C_drewN ?_ _) | (with_reducible refine Kd.C_drew ?_))); (case side2 => exact HC0_1.out); (case side3 => repeat (first | exact (Kd.C_below HR0_4.out HB.out) | (with_reducible refine Kd.C_alloc ?_ _) | (with_reducible refine Kd.C_drewN ?_ _) | (with_reducible refine Kd.C_drew ?_))); (case side4 => exact HC0_4.out); rintro e w20 ⟨rfl, hb⟩; have n0_ := Aside0.mk (blk_below (g := gb57001) (o := .cells #[.string a0_0, .slice A0_1 l0_1.length c0_1, .int .i64 a0_2, .int .i64 a0_3, .slice (some ad57002) l0_4.length c0_4] 35 (0, 0)) (by (with_reducible repeat (first | refine blk_drewN ?_ _ | refine blk_drew ?_ | refine blk_alloc ?_ _)); exact BK57001.out) hb); have n1_ := Aside0.mk (blk_below (g := gb57003) (o := .cells #[.int .i64 ((rd_T64 l0_4 x8_1).f0), .string ((rd_T64 l0_4 x8_1).f1), .int .i64 ((rd_T64 l0_4 x8_1).f2)] 64 (0, 0)) (by (with_reducible repeat (first | refine blk_drewN ?_ _ | refine blk_drew ?_ | refine blk_alloc ?_ _)); exact BK57003.out) hb); have n2_ := Aside0.mk (below_step (by repeat (first | (with_reducible first | exact HB.out | apply below_alloc | apply pw_below_drewN | apply below_drew1 | refine below_set ?_ GE57001.out | refine below_set ?_ GE57003.out) | exact HB.out)) hb); clear BK57001; clear BK57003; clear HB; have BK57001 := n0_; have BK57003 := n1_; have HB := n2_; clear n0_ n1_ n2_; (try clear hb); (try clear hb2); (try clear hk); (try clear hi)))
                go_meet
                case rel => exact ⟨_, (!t57005), (by first | rfl | (simp; done) | (simp [*]; done)), H', ⟨by have := HK1.out; first | omega | exact Nat.le_refl _⟩, ⟨by (with_reducible repeat (first | refine blk_drewN ?_ _ | refine blk_drew ?_ | refine blk_alloc ?_ _)); exact BK57001.out⟩, ⟨by (with_reducible repeat (first | refine blk_drewN ?_ _ | refine blk_drew ?_ | refine blk_alloc ?_ _)); exact BK57003.out⟩, ⟨by repeat (first | (with_reducible first | exact HB.out | apply below_alloc | apply pw_below_drewN | apply below_drew1 | refine below_set ?_ GE57001.out | refine below_set ?_ GE57003.out) | exact HB.out)⟩⟩
              · replace c12 := Bool.eq_false_iff.mpr c12
                subst c12
                have H1 : (protocol_checkMoves.j1 k1 x8_1 l0_4 (l0_4.length : Int) x8_1 true a0_0 l0_1 a0_2 a0_3 l0_4 ((rd_T64 l0_4 x8_1).f0) ((rd_T64 l0_4 x8_1).f1) ((rd_T64 l0_4 x8_1).f2)) = some r := by rw [if_neg (show ¬ (false = true) by decide)] at H; exact H
                clear H
                have H := H1
                clear H1
                have H' := Aside0.mk H
                clear H
                have hnb21 := NB57001_57003.out
                have hnc21 := NB57003_57001.out
                have hcz22_0 : w8.cell? ⟨gb57001, 0, none⟩ = some (.string a0_0) := (blk_cell BK57001.out 0).trans rfl
                have hcz22_1 : w8.cell? ⟨gb57001, 1, none⟩ = some (.slice A0_1 l0_1.length c0_1) := (blk_cell BK57001.out 1).trans rfl
                have hcz22_2 : w8.cell? ⟨gb57001, 2, none⟩ = some (.int .i64 a0_2) := (blk_cell BK57001.out 2).trans rfl
                have hcz22_3 : w8.cell? ⟨gb57001, 3, none⟩ = some (.int .i64 a0_3) := (blk_cell BK57001.out 3).trans rfl
                have hcz22_4 : w8.cell? ⟨gb57001, 4, none⟩ = some (.slice (some ad57002) l0_4.length c0_4) := (blk_cell BK57001.out 4).trans rfl
                have hfz22_0 := blk_frozen BK57001.out 0
                have hfz22_1 := blk_frozen BK57001.out 1
                have hfz22_2 := blk_frozen BK57001.out 2
                have hfz22_3 := blk_frozen BK57001.out 3
                have hfz22_4 := blk_frozen BK57001.out 4
                have hcz23_0 : w8.cell? ⟨gb57003, 0, none⟩ = some (.int .i64 0) := (blk_cell BK57003.out 0).trans rfl
                have hcz23_1 : w8.cell? ⟨gb57003, 1, none⟩ = some (.string (⟨#[]⟩ : ByteArray)) := (blk_cell BK57003.out 1).trans rfl
                have hcz23_2 : w8.cell? ⟨gb57003, 2, none⟩ = some (.int .i64 0) := (blk_cell BK57003.out 2).trans rfl
                have hfz23_0 := blk_frozen BK57003.out 0
                have hfz23_1 := blk_frozen BK57003.out 1
                have hfz23_2 := blk_frozen BK57003.out 2
                go_wp2_with (first | ((with_reducible refine gate_callee (f := 51) rfl ?_); refine goesL_ (some 17) rfl rfl Tryd.func51 (by kernel_rfl) rfl #[.agg #[.string a0_0, .slice A0_1 l0_1.length c0_1, .int .i64 a0_2, .int .i64 a0_3, .slice (some ad57002) l0_4.length c0_4], .int .i64 ((rd_T64 l0_4 x8_1).f0)] rfl (by (try simp only [List.map_toArray, List.map_cons, List.map_nil]); first | done | rfl | (simp only [List.length_drop, List.length_take]; rfl)) ?_; (with_reducible refine (protocol_in.calls a0_0 _ _ l0_1 a0_2 a0_3 _ _ l0_4 ((rd_T64 l0_4 x8_1).f0) false _ ?side1 ?side2 ?side3 ?side4 A11.out).mono ?_); (case side1 => exact Kd.C_below HR0_1.out (by repeat (first | (with_reducible first | exact HB.out | apply below_alloc | apply pw_below_drewN | apply below_drew1 | refine below_set ?_ GE57001.out | refine below_set ?_ GE57003.out) | exact HB.out))); (case side2 => exact HC0_1.out); (case side3 => exact Kd.C_below HR0_4.out (by repeat (first | (with_reducible first | exact HB.out | apply below_alloc | apply pw_below_drewN | apply below_drew1 | refine below_set ?_ GE57001.out | refine below_set ?_ GE57003.out) | exact HB.out))); (case side4 => exact HC0_4.out); rintro e w24 ⟨rfl, hb⟩; refine ⟨_, rfl, ?_⟩; have n0_ := Aside0.mk (blk_below (g := gb57001) (o := .cells #[.string a0_0, .slice A0_1 l0_1.length c0_1, .int .i64 a0_2, .int .i64 a0_3, .slice (some ad57002) l0_4.length c0_4] 35 (0, 0)) (by (with_reducible repeat (first | refine blk_drewN ?_ _ | refine blk_drew ?_ | refine blk_alloc ?_ _)); refine blk_far ?_ NB57001_57003.out _; (with_reducible repeat (first | refine blk_drewN ?_ _ | refine blk_drew ?_ | refine blk_alloc ?_ _)); refine blk_far ?_ NB57001_57003.out _; (with_reducible repeat (first | refine blk_drewN ?_ _ | refine blk_drew ?_ | refine blk_alloc ?_ _)); refine blk_far ?_ NB57001_57003.out _; (with_reducible repeat (first | refine blk_drewN ?_ _ | refine blk_drew ?_ | refine blk_alloc ?_ _)); exact BK57001.out) hb); have n1_ := Aside0.mk (blk_below (g := gb57003) (o := .cells #[.int .i64 ((rd_T64 l0_4 x8_1).f0), .string ((rd_T64 l0_4 x8_1).f1), .int .i64 ((rd_T64 l0_4 x8_1).f2)] 64 (0, 0)) (by (with_reducible repeat (first | refine blk_drewN ?_ _ | refine blk_drew ?_ | refine blk_alloc ?_ _)); refine blk_put (cs := #[.int .i64 ((rd_T64 l0_4 x8_1).f0), .string ((rd_T64 l0_4 x8_1).f1), .int .i64 0]) ?_ 2 _ rfl; (with_reducible repeat (first | refine blk_drewN ?_ _ | refine blk_drew ?_ | refine blk_alloc ?_ _)); refine blk_put (cs := #[.int .i64 ((rd_T64 l0_4 x8_1).f0), .string (⟨#[]⟩ : ByteArray), .int .i64 0]) ?_ 1 _ rfl; (with_reducible repeat (first | refine blk_drewN ?_ _ | refine blk_drew ?_ | refine blk_alloc ?_ _)); refine blk_put (cs := #[.int .i64 0, .string (⟨#[]⟩ : ByteArray), .int .i64 0]) ?_ 0 _ rfl; (with_reducible repeat (first | refine blk_drewN ?_ _ | refine blk_drew ?_ | refine blk_alloc ?_ _)); exact BK57003.out) hb); have n2_ := Aside0.mk (below_step (by repeat (first | (with_reducible first | exact HB.out | apply below_alloc | apply pw_below_drewN | apply below_drew1 | refine below_set ?_ GE57001.out | refine below_set ?_ GE57003.out) | exact HB.out)) hb); clear BK57001; clear BK57003; clear HB; have BK57001 := n0_; have BK57003 := n1_; have HB := n2_; clear n0_ n1_ n2_; (try clear hb); (try clear hb2); (try clear hk); (try clear hi)))
                go_meet
                case rel => exact ⟨_, (true), (by first | rfl | (simp; done) | (simp [*]; done)), H', ⟨by have := HK1.out; first | omega | exact Nat.le_refl _⟩, ⟨by (with_reducible repeat (first | refine blk_drewN ?_ _ | refine blk_drew ?_ | refine blk_alloc ?_ _)); exact BK57001.out⟩, ⟨by (with_reducible repeat (first | refine blk_drewN ?_ _ | refine blk_drew ?_ | refine blk_alloc ?_ _)); exact BK57003.out⟩, ⟨by repeat (first | (with_reducible first | exact HB.out | apply below_alloc | apply pw_below_drewN | apply below_drew1 | refine below_set ?_ GE57001.out | refine below_set ?_ GE57003.out) | exact HB.out)⟩⟩
            case rest =>
              clear HC7
              try clear c1
              try clear c2
              try clear p2
              try clear c4
              try clear c4b0
              try clear c5
              try clear c5b0
              try clear p5
              try clear q5
              try clear hx5
              try clear c6
              try clear c6b0
              try clear c9
              try clear c12
              try clear c14
              try clear c21
              try clear hcz10_0
              try clear hcz10_1
              try clear hcz10_2
              try clear hcz15_0
              try clear hcz15_1
              try clear hcz15_2
              try clear hcz15_3
              try clear hcz15_4
              try clear hcz16_0
              try clear hcz16_1
              try clear hcz16_2
              try clear hcz18_0
              try clear hcz18_1
              try clear hcz18_2
              try clear hcz18_3
              try clear hcz18_4
              try clear hcz19_0
              try clear hcz19_1
              try clear hcz19_2
              try clear hcz22_0
              try clear hcz22_1
              try clear hcz22_2
              try clear hcz22_3
              try clear hcz22_4
              try clear hcz23_0
              try clear hcz23_1
              try clear hcz23_2
              try clear hcz3_0
              try clear hcz3_1
              try clear hcz3_2
              try clear hcz3_3
              try clear hcz3_4
              try clear hfz10_0
              try clear hfz10_1
              try clear hfz10_2
              try clear hfz15_0
              try clear hfz15_1
              try clear hfz15_2
              try clear hfz15_3
              try clear hfz15_4
              try clear hfz16_0
              try clear hfz16_1
              try clear hfz16_2
              try clear hfz18_0
              try clear hfz18_1
              try clear hfz18_2
              try clear hfz18_3
              try clear hfz18_4
              try clear hfz19_0
              try clear hfz19_1
              try clear hfz19_2
              try clear hfz22_0
              try clear hfz22_1
              try clear hfz22_2
              try clear hfz22_3
              try clear hfz22_4
              try clear hfz23_0
              try clear hfz23_1
              try clear hfz23_2
              try clear hfz3_0
              try clear hfz3_1
              try clear hfz3_2
              try clear hfz3_3
              try clear hfz3_4
              try clear hx57002_0
              try clear hx57002_1
              try clear hx57002_2
              try clear p2
              try clear p57002
              try clear q57002
              obtain ⟨kq, x13_6, rfl, HA, HJ6, BK57001, BK57003, HB⟩ := hcut
              cases kq with
              | zero => exact absurd HA.out (by simp [protocol_checkMoves.j1])
              | succ kj6 =>
                have H := HA.out
                clear HA
                simp only [protocol_checkMoves.j1] at H
                by_cases c25 : x13_6 = true
                · subst c25
                  have H1 : (some 4) = some r := by rw [if_pos rfl] at H; exact H
                  clear H
                  have H := H1
                  clear H1
                  obtain rfl := Option.some.inj H
                  go_wp2
                  go_ret
                  exact ⟨by first | rfl | (simp [errW_none, errW_some] <;> rfl) | (simp [*, errW_none, errW_some] <;> rfl), by repeat (first | (with_reducible first | exact HB.out | apply below_alloc | apply pw_below_drewN | apply below_drew1 | refine below_set ?_ GE57001.out | refine below_set ?_ GE57003.out) | exact HB.out)⟩
                · replace c25 := Bool.eq_false_iff.mpr c25
                  subst c25
                  have H1 : ((lex_Ident.f kj6 ((rd_T64 l0_4 x8_1).f1)).bind fun t57006 => (if t57006 = true then (if ((rd_T64 l0_4 x8_1).f0) = a0_3 then (some 22) else (if x8_1 > 0 then (if 0 ≤ (wrap64 (x8_1 - 1)) then (if (wrap64 (x8_1 - 1)) < (l0_4.length : Int) then ((protocol_compare.f kj6 ((rd_T64 l0_4 (wrap64 (x8_1 - 1))).f0) ((rd_T64 l0_4 (wrap64 (x8_1 - 1))).f1) ((rd_T64 l0_4 (wrap64 (x8_1 - 1))).f2) ((rd_T64 l0_4 x8_1).f0) ((rd_T64 l0_4 x8_1).f1) ((rd_T64 l0_4 x8_1).f2)).bind fun t57008 => (if t57008 ≥ 0 then (some 13) else (protocol_checkMoves.l0 kj6 l0_4 (l0_4.length : Int) (wrap64 (x8_1 + 1)) a0_0 l0_1 a0_2 a0_3 l0_4))) else (none)) else (none)) else (protocol_checkMoves.l0 kj6 l0_4 (l0_4.length : Int) (wrap64 (x8_1 + 1)) a0_0 l0_1 a0_2 a0_3 l0_4))) else (some 5))) = some r := by rw [if_neg (show ¬ (false = true) by decide)] at H; exact H
                  clear H
                  have H := H1
                  clear H1
                  replace H := Option.bind_eq_some_iff.mp H
                  obtain ⟨t57006, A260, H⟩ := H
                  replace H : (if t57006 = true then (if ((rd_T64 l0_4 x8_1).f0) = a0_3 then (some 22) else (if x8_1 > 0 then (if 0 ≤ (wrap64 (x8_1 - 1)) then (if (wrap64 (x8_1 - 1)) < (l0_4.length : Int) then ((protocol_compare.f kj6 ((rd_T64 l0_4 (wrap64 (x8_1 - 1))).f0) ((rd_T64 l0_4 (wrap64 (x8_1 - 1))).f1) ((rd_T64 l0_4 (wrap64 (x8_1 - 1))).f2) ((rd_T64 l0_4 x8_1).f0) ((rd_T64 l0_4 x8_1).f1) ((rd_T64 l0_4 x8_1).f2)).bind fun t57008 => (if t57008 ≥ 0 then (some 13) else (protocol_checkMoves.l0 kj6 l0_4 (l0_4.length : Int) (wrap64 (x8_1 + 1)) a0_0 l0_1 a0_2 a0_3 l0_4))) else (none)) else (none)) else (protocol_checkMoves.l0 kj6 l0_4 (l0_4.length : Int) (wrap64 (x8_1 + 1)) a0_0 l0_1 a0_2 a0_3 l0_4))) else (some 5)) = some r := H
                  have A26 := Aside0.mk A260
                  clear A260
                  by_cases c27 : t57006 = true
                  · subst c27
                    have H1 : (if ((rd_T64 l0_4 x8_1).f0) = a0_3 then (some 22) else (if x8_1 > 0 then (if 0 ≤ (wrap64 (x8_1 - 1)) then (if (wrap64 (x8_1 - 1)) < (l0_4.length : Int) then ((protocol_compare.f kj6 ((rd_T64 l0_4 (wrap64 (x8_1 - 1))).f0) ((rd_T64 l0_4 (wrap64 (x8_1 - 1))).f1) ((rd_T64 l0_4 (wrap64 (x8_1 - 1))).f2) ((rd_T64 l0_4 x8_1).f0) ((rd_T64 l0_4 x8_1).f1) ((rd_T64 l0_4 x8_1).f2)).bind fun t57008 => (if t57008 ≥ 0 then (some 13) else (protocol_checkMoves.l0 kj6 l0_4 (l0_4.length : Int) (wrap64 (x8_1 + 1)) a0_0 l0_1 a0_2 a0_3 l0_4))) else (none)) else (none)) else (protocol_checkMoves.l0 kj6 l0_4 (l0_4.length : Int) (wrap64 (x8_1 + 1)) a0_0 l0_1 a0_2 a0_3 l0_4))) = some r := by rw [if_pos rfl] at H; exact H
                    clear H
                    have H := H1
                    clear H1
                    by_cases c28 : ((rd_T64 l0_4 x8_1).f0) = a0_3
                    · rw [if_pos c28] at H
                      have c28b0 : (((rd_T64 l0_4 x8_1).f0) == a0_3) = true := beq_iff_eq.mpr c28
                      have c28b1 : (((rd_T64 l0_4 x8_1).f0) != a0_3) = false := bne_eq_false_iff_eq.mpr c28
                      clear c28
                      obtain rfl := Option.some.inj H
                      have hnb29 := NB57003_57001.out
                      have hnc29 := NB57001_57003.out
                      have hcz30_0 : wc.cell? ⟨gb57003, 0, none⟩ = some (.int .i64 ((rd_T64 l0_4 x8_1).f0)) := (blk_cell BK57003.out 0).trans rfl
                      have hcz30_1 : wc.cell? ⟨gb57003, 1, none⟩ = some (.string ((rd_T64 l0_4 x8_1).f1)) := (blk_cell BK57003.out 1).trans rfl
                      have hcz30_2 : wc.cell? ⟨gb57003, 2, none⟩ = some (.int .i64 ((rd_T64 l0_4 x8_1).f2)) := (blk_cell BK57003.out 2).trans rfl
                      have hfz30_0 := blk_frozen BK57003.out 0
                      have hfz30_1 := blk_frozen BK57003.out 1
                      have hfz30_2 := blk_frozen BK57003.out 2
                      go_wp2_with (first | ((with_reducible refine gate_callee (f := 17) rfl ?_); refine goesL_ (some 29) rfl rfl Tryd.func17 (by kernel_rfl) rfl #[.string ((rd_T64 l0_4 x8_1).f1)] rfl (by (try simp only [List.map_toArray, List.map_cons, List.map_nil]); first | done | rfl | (simp only [List.length_drop, List.length_take]; rfl)) ?_; (with_reducible refine (lex_Ident.calls kj6 ((rd_T64 l0_4 x8_1).f1) true _ ?side1 A26.out).mono ?_); (case side1 => exact Gh.below HGH.out (by repeat (first | (with_reducible first | exact HB.out | apply below_alloc | apply pw_below_drewN | apply below_drew1 | refine below_set ?_ GE57001.out | refine below_set ?_ GE57003.out) | exact HB.out))); rintro e w' ⟨rfl, ⟨nd, rfl⟩⟩; refine ⟨_, rfl, ?_⟩; have hcz31_0 : wc.cell? ⟨gb57001, 0, none⟩ = some (.string a0_0) := (blk_cell BK57001.out 0).trans rfl; have hcz31_1 : wc.cell? ⟨gb57001, 1, none⟩ = some (.slice A0_1 l0_1.length c0_1) := (blk_cell BK57001.out 1).trans rfl; have hcz31_2 : wc.cell? ⟨gb57001, 2, none⟩ = some (.int .i64 a0_2) := (blk_cell BK57001.out 2).trans rfl; have hcz31_3 : wc.cell? ⟨gb57001, 3, none⟩ = some (.int .i64 a0_3) := (blk_cell BK57001.out 3).trans rfl; have hcz31_4 : wc.cell? ⟨gb57001, 4, none⟩ = some (.slice (some ad57002) l0_4.length c0_4) := (blk_cell BK57001.out 4).trans rfl; have hfz31_0 := blk_frozen BK57001.out 0; have hfz31_1 := blk_frozen BK57001.out 1; have hfz31_2 := blk_frozen BK57001.out 2; have hfz31_3 := blk_frozen BK57001.out 3; have hfz31_4 := blk_frozen BK57001.out 4))
                      go_ret
                      exact ⟨by first | rfl | (simp [errW_none, errW_some] <;> rfl) | (simp [*, errW_none, errW_some] <;> rfl), by repeat (first | (with_reducible first | exact HB.out | apply below_alloc | apply pw_below_drewN | apply below_drew1 | refine below_set ?_ GE57001.out | refine below_set ?_ GE57003.out) | exact HB.out)⟩
                    · rw [if_neg c28] at H
                      have c28b0 : (((rd_T64 l0_4 x8_1).f0) == a0_3) = false := beq_eq_false_iff_ne.mpr c28
                      have c28b1 : (((rd_T64 l0_4 x8_1).f0) != a0_3) = true := bne_iff_ne.mpr c28
                      by_cases c32 : x8_1 > 0
                      · rw [if_pos c32] at H
                        have c32b0 : decide (0 < x8_1) = true := decide_eq_true c32
                        clear c32
                        obtain ⟨ji33, hji33⟩ : ∃ j_ : Int, (wrap64 (x8_1 - 1)) = j_ := ⟨_, rfl⟩
                        replace H : (if 0 ≤ (ji33) then (if (ji33) < (l0_4.length : Int) then ((protocol_compare.f kj6 ((rd_T64 l0_4 (ji33)).f0) ((rd_T64 l0_4 (ji33)).f1) ((rd_T64 l0_4 (ji33)).f2) ((rd_T64 l0_4 x8_1).f0) ((rd_T64 l0_4 x8_1).f1) ((rd_T64 l0_4 x8_1).f2)).bind fun t57008 => (if t57008 ≥ 0 then (some 13) else (protocol_checkMoves.l0 kj6 l0_4 (l0_4.length : Int) (wrap64 (x8_1 + 1)) a0_0 l0_1 a0_2 a0_3 l0_4))) else (none)) else (none)) = some r := by first | (rw [hji33] at H; exact H) | (simp only [hji33] at H ⊢; exact H)
                        (try rw [hji33] at A26)
                        have hji33w : (IntKind.i64.wrap (x8_1 - 1)) = ji33 := (i64_w _).trans hji33
                        by_cases c34 : 0 ≤ (ji33)
                        · rw [if_pos c34] at H
                          have c34b0 : decide (0 ≤ (ji33)) = true := decide_eq_true c34
                          clear c34
                          by_cases c35 : (ji33) < (l0_4.length : Int)
                          · rw [if_pos c35] at H
                            have c35b0 : decide ((ji33) < (l0_4.length : Int)) = true := decide_eq_true c35
                            clear c35
                            replace H := Option.bind_eq_some_iff.mp H
                            obtain ⟨t57008, A360, H⟩ := H
                            replace H : (if t57008 ≥ 0 then (some 13) else (protocol_checkMoves.l0 kj6 l0_4 (l0_4.length : Int) (wrap64 (x8_1 + 1)) a0_0 l0_1 a0_2 a0_3 l0_4)) = some r := H
                            have A36 := Aside0.mk A360
                            clear A360
                            by_cases c37 : t57008 ≥ 0
                            · rw [if_pos c37] at H
                              have c37b0 : decide (0 ≤ t57008) = true := decide_eq_true c37
                              clear c37
                              obtain rfl := Option.some.inj H
                              have hnb38 := NB57003_57001.out
                              have hnc38 := NB57001_57003.out
                              have hcz39_0 : wc.cell? ⟨gb57003, 0, none⟩ = some (.int .i64 ((rd_T64 l0_4 x8_1).f0)) := (blk_cell BK57003.out 0).trans rfl
                              have hcz39_1 : wc.cell? ⟨gb57003, 1, none⟩ = some (.string ((rd_T64 l0_4 x8_1).f1)) := (blk_cell BK57003.out 1).trans rfl
                              have hcz39_2 : wc.cell? ⟨gb57003, 2, none⟩ = some (.int .i64 ((rd_T64 l0_4 x8_1).f2)) := (blk_cell BK57003.out 2).trans rfl
                              have hfz39_0 := blk_frozen BK57003.out 0
                              have hfz39_1 := blk_frozen BK57003.out 1
                              have hfz39_2 := blk_frozen BK57003.out 2
                              try go_wp2_with (first | ((with_reducible refine gate_callee (f := 17) rfl ?_); refine goesL_ (some 29) rfl rfl Tryd.func17 (by kernel_rfl) rfl #[.string ((rd_T64 l0_4 x8_1).f1)] rfl (by (try simp only [List.map_toArray, List.map_cons, List.map_nil]); first | done | rfl | (simp only [List.length_drop, List.length_take]; rfl)) ?_; (with_reducible refine (lex_Ident.calls kj6 ((rd_T64 l0_4 x8_1).f1) true _ ?side1 A26.out).mono ?_); (case side1 => exact Gh.below HGH.out (by repeat (first | (with_reducible first | exact HB.out | apply below_alloc | apply pw_below_drewN | apply below_drew1 | refine below_set ?_ GE57001.out | refine below_set ?_ GE57003.out) | exact HB.out))); rintro e w' ⟨rfl, ⟨nd, rfl⟩⟩; refine ⟨_, rfl, ?_⟩; have hcz40_0 : wc.cell? ⟨gb57001, 0, none⟩ = some (.string a0_0) := (blk_cell BK57001.out 0).trans rfl; have hcz40_1 : wc.cell? ⟨gb57001, 1, none⟩ = some (.slice A0_1 l0_1.length c0_1) := (blk_cell BK57001.out 1).trans rfl; have hcz40_2 : wc.cell? ⟨gb57001, 2, none⟩ = some (.int .i64 a0_2) := (blk_cell BK57001.out 2).trans rfl; have hcz40_3 : wc.cell? ⟨gb57001, 3, none⟩ = some (.int .i64 a0_3) := (blk_cell BK57001.out 3).trans rfl; have hcz40_4 : wc.cell? ⟨gb57001, 4, none⟩ = some (.slice (some ad57002) l0_4.length c0_4) := (blk_cell BK57001.out 4).trans rfl; have hfz40_0 := blk_frozen BK57001.out 0; have hfz40_1 := blk_frozen BK57001.out 1; have hfz40_2 := blk_frozen BK57001.out 2; have hfz40_3 := blk_frozen BK57001.out 3; have hfz40_4 := blk_frozen BK57001.out 4))
                              (try (rw [drewN_self wc]; generalize hq_ : World.drewN wc _ = wc; have n0_ : Aside0 (wc.heap[gb57001]? = some (.cells #[.string a0_0, .slice A0_1 l0_1.length c0_1, .int .i64 a0_2, .int .i64 a0_3, .slice (some ad57002) l0_4.length c0_4] 35 (0, 0))) := ⟨by rw [← hq_]; exact (by (with_reducible repeat (first | refine blk_drewN ?_ _ | refine blk_drew ?_ | refine blk_alloc ?_ _)); exact BK57001.out)⟩; have n1_ : Aside0 (wc.heap[gb57003]? = some (.cells #[.int .i64 ((rd_T64 l0_4 x8_1).f0), .string ((rd_T64 l0_4 x8_1).f1), .int .i64 ((rd_T64 l0_4 x8_1).f2)] 64 (0, 0))) := ⟨by rw [← hq_]; exact (by (with_reducible repeat (first | refine blk_drewN ?_ _ | refine blk_drew ?_ | refine blk_alloc ?_ _)); exact BK57003.out)⟩; have n2_ : Aside0 (Below w.heap.size w wc) := ⟨by rw [← hq_]; exact (by repeat (first | (with_reducible first | exact HB.out | apply below_alloc | apply pw_below_drewN | apply below_drew1 | refine below_set ?_ GE57001.out | refine below_set ?_ GE57003.out) | exact HB.out))⟩; clear BK57001 BK57003 HB hq_; have BK57001 := n0_; have BK57003 := n1_; have HB := n2_; clear n0_ n1_ n2_))
                              have n0_ := Aside0.mk (blk_drew BK57001.out)
                              have n1_ := Aside0.mk (blk_drew BK57003.out)
                              have n2_ := Aside0.mk (below_drew1 HB.out)
                              clear BK57001
                              clear BK57003
                              clear HB
                              have BK57001 := n0_
                              have BK57003 := n1_
                              have HB := n2_
                              clear n0_ n1_ n2_
                              have p57007 : 0 ≤ ((ji33) : Int) := of_decide_eq_true (by first | (with_reducible assumption) | assumption)
                              have q57007 : (ji33) < (l0_4.length : Int) := of_decide_eq_true (by first | (with_reducible assumption) | assumption)
                              obtain ⟨ad57007, e57007, hx57007_0, hx57007_1, hx57007_2⟩ := at_T64 HR0_4.out (ji33) p57007 q57007
                              have hw57007_2 := hx57007_2
                              have hw57007_1 := hx57007_1
                              have hw57007_0 := hx57007_0
                              obtain rfl : ad57002 = ad57007 := (by injection e57007)
                              replace hx57007_0 := (HB.out.cell (World.block_lt_of_cell? w _ hx57007_0)).trans hx57007_0
                              replace hx57007_1 := (HB.out.cell (World.block_lt_of_cell? w _ hx57007_1)).trans hx57007_1
                              replace hx57007_2 := (HB.out.cell (World.block_lt_of_cell? w _ hx57007_2)).trans hx57007_2
                              replace p57007 := eq_true p57007
                              replace q57007 := eq_true q57007
                              refine start_ (n := 14) (S := fun w' => w'.cell? ⟨gb57001, 0, none⟩ = some (.string a0_0) ∧ w'.cell? ⟨gb57001, 1, none⟩ = some (.slice A0_1 l0_1.length c0_1) ∧ w'.cell? ⟨gb57001, 2, none⟩ = some (.int .i64 a0_2) ∧ w'.cell? ⟨gb57001, 3, none⟩ = some (.int .i64 a0_3) ∧ w'.cell? ⟨gb57001, 4, none⟩ = some (.slice (some ad57002) l0_4.length c0_4) ∧ w'.cell? ⟨gb57003, 0, none⟩ = some (.int .i64 ((rd_T64 l0_4 x8_1).f0)) ∧ w'.cell? ⟨gb57003, 1, none⟩ = some (.string ((rd_T64 l0_4 x8_1).f1)) ∧ w'.cell? ⟨gb57003, 2, none⟩ = some (.int .i64 ((rd_T64 l0_4 x8_1).f2)) ∧ w'.cell? (ad57002.add (((ji33)).toNat * 3)) = some (.int .i64 ((rd_T64 l0_4 (ji33)).f0)) ∧ w'.cell? ⟨(ad57002.add (((ji33)).toNat * 3)).block, (ad57002.add (((ji33)).toNat * 3)).off + 1, none⟩ = some (.string ((rd_T64 l0_4 (ji33)).f1)) ∧ w'.cell? ⟨(ad57002.add (((ji33)).toNat * 3)).block, (ad57002.add (((ji33)).toNat * 3)).off + 2, none⟩ = some (.int .i64 ((rd_T64 l0_4 (ji33)).f2))) (ds := []) #[false, false, false, false, false, false, false, false, false, false, false, false, false, false] (by kernel_rfl) rfl rfl ⟨(blk_cell BK57001.out 0).trans rfl, (blk_cell BK57001.out 1).trans rfl, (blk_cell BK57001.out 2).trans rfl, (blk_cell BK57001.out 3).trans rfl, (blk_cell BK57001.out 4).trans rfl, (blk_cell BK57003.out 0).trans rfl, (blk_cell BK57003.out 1).trans rfl, (blk_cell BK57003.out 2).trans rfl, ((HB.out.cell (World.block_lt_of_cell? w _ hw57007_0)).trans hw57007_0), ((HB.out.cell (World.block_lt_of_cell? w _ hw57007_1)).trans hw57007_1), ((HB.out.cell (World.block_lt_of_cell? w _ hw57007_2)).trans hw57007_2)⟩ (fun hHeld => ?_); refine with_tabW protocol_checkMoves.tab10 protocol_checkMoves.bits10 (fun HT_ HW_ => ?_)
                              generalize wc.drew = w41 at BK57001 BK57003 HB hx57007_0 hx57007_1 hx57007_2 hHeld ⊢
                              refine pure_ (i := 0) (N := some 38) (v := ?_) (a' := ?_) #[true, false, false, false, false, false, false, false, false, false, false, false, false, false] rfl rfl (any_of HT_.out (by kernel_rfl)) (fun _ _ _ h => h) (Or.inl ⟨by rfl, ?_⟩) ?_ ?_
                              rotate_left
                              · intro w'
                                go_simp
                                with_reducible rfl
                              rotate_left
                              · simp only [Act.put, List.setIfInBounds_toArray, List.set_cons_zero, List.set_cons_succ, i64_w, i32_w]
                                rfl
                              refine pure_ (i := 1) (N := some 39) (v := ?_) (a' := ?_) #[true, true, false, false, false, false, false, false, false, false, false, false, false, false] rfl rfl (any_of HT_.out (by kernel_rfl)) (fun _ _ _ h => h) (Or.inl ⟨by rfl, ?_⟩) ?_ ?_
                              rotate_left
                              · intro w'
                                go_simp
                                with_reducible rfl
                              rotate_left
                              · simp only [Act.put, List.setIfInBounds_toArray, List.set_cons_zero, List.set_cons_succ, i64_w, i32_w]
                                rfl
                              refine pure_ (i := 2) (N := some 40) (v := ?_) (a' := ?_) #[true, true, true, false, false, false, false, false, false, false, false, false, false, false] rfl rfl (any_of HT_.out (by kernel_rfl)) (fun _ _ _ h => h) (Or.inl ⟨by rfl, ?_⟩) ?_ ?_
                              rotate_left
                              · intro w'
                                go_simp
                                with_reducible rfl
                              rotate_left
                              · simp only [Act.put, List.setIfInBounds_toArray, List.set_cons_zero, List.set_cons_succ, i64_w, i32_w]
                                rfl
                              refine pure_ (i := 3) (N := some 41) (v := ?_) (a' := ?_) #[true, true, true, true, false, false, false, false, false, false, false, false, false, false] rfl rfl (any_of HT_.out (by kernel_rfl)) (fun _ _ _ h => h) (Or.inl ⟨by rfl, ?_⟩) ?_ ?_
                              rotate_left
                              · intro w'
                                go_simp
                                with_reducible rfl
                              rotate_left
                              · simp only [Act.put, List.setIfInBounds_toArray, List.set_cons_zero, List.set_cons_succ, i64_w, i32_w]
                                rfl
                              refine pure_ (i := 5) (N := some 43) (v := ?_) (a' := ?_) #[true, true, true, true, false, true, false, false, false, false, false, false, false, false] rfl rfl (any_of HT_.out (by kernel_rfl)) (fun _ _ _ h => h) (Or.inl ⟨by rfl, ?_⟩) ?_ ?_
                              rotate_left
                              · intro w'
                                go_simp
                                with_reducible rfl
                              rotate_left
                              · simp only [Act.put, List.setIfInBounds_toArray, List.set_cons_zero, List.set_cons_succ, i64_w, i32_w]
                                rfl
                              refine pure_ (i := 6) (N := some 44) (v := ?_) (a' := ?_) #[true, true, true, true, false, true, true, false, false, false, false, false, false, false] rfl rfl (any_of HT_.out (by kernel_rfl)) (fun _ _ _ h => h) (Or.inl ⟨by rfl, ?_⟩) ?_ ?_
                              rotate_left
                              · intro w'
                                go_simp
                                with_reducible rfl
                              rotate_left
                              · simp only [Act.put, List.setIfInBounds_toArray, List.set_cons_zero, List.set_cons_succ, i64_w, i32_w]
                                rfl
                              refine take_ (i := 4) (N := some 42) (v := ?_) (a' := ?_) #[true, true, true, true, true, true, true, false, false, false, false, false, false, false] rfl rfl (take_ofW HT_.out HW_.out (by kernel_rfl)) (fun _ _ _ h => h) (Or.inl ⟨by rfl, ?_⟩) hHeld ?_ ?_
                              rotate_left
                              · rintro w' ⟨s0, s1, s2, s3, s4, s5, s6, s7, s8, s9, s10⟩
                                go_simp
                                with_reducible rfl
                              rotate_left
                              · simp only [Act.put, List.setIfInBounds_toArray, List.set_cons_zero, List.set_cons_succ, i64_w, i32_w]
                                rfl
                              refine pure_ (i := 7) (N := some 45) (v := ?_) (a' := ?_) #[true, true, true, true, true, true, true, true, false, false, false, false, false, false] rfl rfl (any_of HT_.out (by kernel_rfl)) (fun _ _ _ h => h) (Or.inl ⟨by rfl, ?_⟩) ?_ ?_
                              rotate_left
                              · intro w'
                                go_simp
                                with_reducible rfl
                              rotate_left
                              · simp only [Act.put, List.setIfInBounds_toArray, List.set_cons_zero, List.set_cons_succ, i64_w, i32_w]
                                rfl
                              refine take_ (i := 8) (N := some 46) (v := ?_) (a' := ?_) #[true, true, true, true, true, true, true, true, true, false, false, false, false, false] rfl rfl (take_ofW HT_.out HW_.out (by kernel_rfl)) (fun _ _ _ h => h) (Or.inl ⟨by rfl, ?_⟩) hHeld ?_ ?_
                              rotate_left
                              · rintro w' ⟨s0, s1, s2, s3, s4, s5, s6, s7, s8, s9, s10⟩
                                go_simp
                                with_reducible rfl
                              rotate_left
                              · simp only [Act.put, List.setIfInBounds_toArray, List.set_cons_zero, List.set_cons_succ, i64_w, i32_w]
                                rfl
                              refine take_ (i := 9) (N := some 47) (v := ?_) (a' := ?_) #[true, true, true, true, true, true, true, true, true, true, false, false, false, false] rfl rfl (take_ofW HT_.out HW_.out (by kernel_rfl)) (fun _ _ _ h => h) (Or.inl ⟨by rfl, ?_⟩) hHeld ?_ ?_
                              rotate_left
                              · rintro w' ⟨s0, s1, s2, s3, s4, s5, s6, s7, s8, s9, s10⟩
                                go_simp
                                with_reducible rfl
                              rotate_left
                              · simp only [Act.put, List.setIfInBounds_toArray, List.set_cons_zero, List.set_cons_succ, i64_w, i32_w]
                                rfl
                              refine one_ (i := 10) (N := some 48) #[true, true, true, true, true, true, true, true, true, true, true, false, false, false] rfl rfl (one_of HT_.out (by kernel_rfl)) (by decide) (fun K hK => ?_)
                              refine goes_ Tryd.func79 (by kernel_rfl) rfl #[.agg #[.int .i64 ((rd_T64 l0_4 (ji33)).f0), .string ((rd_T64 l0_4 (ji33)).f1), .int .i64 ((rd_T64 l0_4 (ji33)).f2)], .agg #[.int .i64 ((rd_T64 l0_4 x8_1).f0), .string ((rd_T64 l0_4 x8_1).f1), .int .i64 ((rd_T64 l0_4 x8_1).f2)]] (by rfl) rfl rfl (by (try simp only [List.map_toArray, List.map_cons, List.map_nil]); first | done | (simp only [hji33]; rfl) | rfl | (simp only [List.length_drop, List.length_take]; rfl)) ?_
                              with_reducible refine (protocol_compare.calls kj6 ((rd_T64 l0_4 (ji33)).f0) ((rd_T64 l0_4 (ji33)).f1) ((rd_T64 l0_4 (ji33)).f2) ((rd_T64 l0_4 x8_1).f0) ((rd_T64 l0_4 x8_1).f1) ((rd_T64 l0_4 x8_1).f2) t57008 _ A36.out).mono ?_
                              rintro e w42 ⟨rfl, hb⟩
                              refine ⟨_, rfl, ?_⟩
                              have n0_ := Aside0.mk (blk_below (g := gb57001) (o := .cells #[.string a0_0, .slice A0_1 l0_1.length c0_1, .int .i64 a0_2, .int .i64 a0_3, .slice (some ad57002) l0_4.length c0_4] 35 (0, 0)) (by (with_reducible repeat (first | refine blk_drewN ?_ _ | refine blk_drew ?_ | refine blk_alloc ?_ _)); exact BK57001.out) hb)
                              have n1_ := Aside0.mk (blk_below (g := gb57003) (o := .cells #[.int .i64 ((rd_T64 l0_4 x8_1).f0), .string ((rd_T64 l0_4 x8_1).f1), .int .i64 ((rd_T64 l0_4 x8_1).f2)] 64 (0, 0)) (by (with_reducible repeat (first | refine blk_drewN ?_ _ | refine blk_drew ?_ | refine blk_alloc ?_ _)); exact BK57003.out) hb)
                              have n2_ := Aside0.mk (below_step (by repeat (first | (with_reducible first | exact HB.out | apply below_alloc | apply pw_below_drewN | apply below_drew1 | refine below_set ?_ GE57001.out | refine below_set ?_ GE57003.out) | exact HB.out)) hb)
                              clear BK57001
                              clear BK57003
                              clear HB
                              have BK57001 := n0_
                              have BK57003 := n1_
                              have HB := n2_
                              clear n0_ n1_ n2_
                              (try clear hb)
                              (try clear hb2)
                              (try clear hk)
                              (try clear hi)
                              refine hK.out _ _ ⟨(blk_cell BK57001.out 0).trans rfl, (blk_cell BK57001.out 1).trans rfl, (blk_cell BK57001.out 2).trans rfl, (blk_cell BK57001.out 3).trans rfl, (blk_cell BK57001.out 4).trans rfl, (blk_cell BK57003.out 0).trans rfl, (blk_cell BK57003.out 1).trans rfl, (blk_cell BK57003.out 2).trans rfl, ((HB.out.cell (World.block_lt_of_cell? w _ hw57007_0)).trans hw57007_0), ((HB.out.cell (World.block_lt_of_cell? w _ hw57007_1)).trans hw57007_1), ((HB.out.cell (World.block_lt_of_cell? w _ hw57007_2)).trans hw57007_2)⟩ (fun hHeld => ?_)
                              clear hK K
                              refine norm_ (a' := ?_) ?_ ?_
                              rotate_left
                              · show Act.put _ (some 48) _ = _
                                simp only [Act.put, List.setIfInBounds_toArray, List.set_cons_zero, List.set_cons_succ, i64_w, i32_w]
                                rfl
                              refine pure_ (i := 11) (N := some 49) (v := ?_) (a' := ?_) #[true, true, true, true, true, true, true, true, true, true, true, true, false, false] rfl rfl (any_of HT_.out (by kernel_rfl)) (fun _ _ _ h => h) (Or.inl ⟨by rfl, ?_⟩) ?_ ?_
                              rotate_left
                              · intro w'
                                go_simp
                                with_reducible rfl
                              rotate_left
                              · simp only [Act.put, List.setIfInBounds_toArray, List.set_cons_zero, List.set_cons_succ, i64_w, i32_w]
                                rfl
                              refine pure_ (i := 12) (N := some 50) (v := ?_) (a' := ?_) #[true, true, true, true, true, true, true, true, true, true, true, true, true, false] rfl rfl (any_of HT_.out (by kernel_rfl)) (fun _ _ _ h => h) (Or.inl ⟨by rfl, ?_⟩) ?_ ?_
                              rotate_left
                              · intro w'
                                go_simp
                                with_reducible rfl
                              rotate_left
                              · simp only [Act.put, List.setIfInBounds_toArray, List.set_cons_zero, List.set_cons_succ, i64_w, i32_w]
                                rfl
                              refine pure_ (i := 13) (N := some 37) (v := ?_) (a' := ?_) #[true, true, true, true, true, true, true, true, true, true, true, true, true, true] rfl rfl (any_of HT_.out (by kernel_rfl)) (fun _ _ _ h => h) (Or.inl ⟨by rfl, ?_⟩) ?_ ?_
                              rotate_left
                              · intro w'
                                go_simp
                                with_reducible rfl
                              rotate_left
                              · simp only [Act.put, List.setIfInBounds_toArray, List.set_cons_zero, List.set_cons_succ, i64_w, i32_w]
                                rfl
                              refine done_ (done_of HT_.out (by kernel_rfl)) ?_
                              try go_wp2
                              go_ret
                              exact ⟨by first | rfl | (simp [errW_none, errW_some] <;> rfl) | (simp only [← hji33]; first | rfl | (simp [errW_none, errW_some] <;> rfl)) | (simp [*, errW_none, errW_some] <;> rfl), by repeat (first | (with_reducible first | exact HB.out | apply below_alloc | apply pw_below_drewN | apply below_drew1 | refine below_set ?_ GE57001.out | refine below_set ?_ GE57003.out) | exact HB.out)⟩
                            · rw [if_neg c37] at H
                              have c37b0 : decide (0 ≤ t57008) = false := decide_eq_false c37
                              clear c37
                              have H' := Aside0.mk H
                              clear H
                              have hnb43 := NB57003_57001.out
                              have hnc43 := NB57001_57003.out
                              have hcz44_0 : wc.cell? ⟨gb57003, 0, none⟩ = some (.int .i64 ((rd_T64 l0_4 x8_1).f0)) := (blk_cell BK57003.out 0).trans rfl
                              have hcz44_1 : wc.cell? ⟨gb57003, 1, none⟩ = some (.string ((rd_T64 l0_4 x8_1).f1)) := (blk_cell BK57003.out 1).trans rfl
                              have hcz44_2 : wc.cell? ⟨gb57003, 2, none⟩ = some (.int .i64 ((rd_T64 l0_4 x8_1).f2)) := (blk_cell BK57003.out 2).trans rfl
                              have hfz44_0 := blk_frozen BK57003.out 0
                              have hfz44_1 := blk_frozen BK57003.out 1
                              have hfz44_2 := blk_frozen BK57003.out 2
                              try go_wp2_with (first | ((with_reducible refine gate_callee (f := 17) rfl ?_); refine goesL_ (some 29) rfl rfl Tryd.func17 (by kernel_rfl) rfl #[.string ((rd_T64 l0_4 x8_1).f1)] rfl (by (try simp only [List.map_toArray, List.map_cons, List.map_nil]); first | done | rfl | (simp only [List.length_drop, List.length_take]; rfl)) ?_; (with_reducible refine (lex_Ident.calls kj6 ((rd_T64 l0_4 x8_1).f1) true _ ?side1 A26.out).mono ?_); (case side1 => exact Gh.below HGH.out (by repeat (first | (with_reducible first | exact HB.out | apply below_alloc | apply pw_below_drewN | apply below_drew1 | refine below_set ?_ GE57001.out | refine below_set ?_ GE57003.out) | exact HB.out))); rintro e w' ⟨rfl, ⟨nd, rfl⟩⟩; refine ⟨_, rfl, ?_⟩; have hcz45_0 : wc.cell? ⟨gb57001, 0, none⟩ = some (.string a0_0) := (blk_cell BK57001.out 0).trans rfl; have hcz45_1 : wc.cell? ⟨gb57001, 1, none⟩ = some (.slice A0_1 l0_1.length c0_1) := (blk_cell BK57001.out 1).trans rfl; have hcz45_2 : wc.cell? ⟨gb57001, 2, none⟩ = some (.int .i64 a0_2) := (blk_cell BK57001.out 2).trans rfl; have hcz45_3 : wc.cell? ⟨gb57001, 3, none⟩ = some (.int .i64 a0_3) := (blk_cell BK57001.out 3).trans rfl; have hcz45_4 : wc.cell? ⟨gb57001, 4, none⟩ = some (.slice (some ad57002) l0_4.length c0_4) := (blk_cell BK57001.out 4).trans rfl; have hfz45_0 := blk_frozen BK57001.out 0; have hfz45_1 := blk_frozen BK57001.out 1; have hfz45_2 := blk_frozen BK57001.out 2; have hfz45_3 := blk_frozen BK57001.out 3; have hfz45_4 := blk_frozen BK57001.out 4))
                              (try (rw [drewN_self wc]; generalize hq_ : World.drewN wc _ = wc; have n0_ : Aside0 (wc.heap[gb57001]? = some (.cells #[.string a0_0, .slice A0_1 l0_1.length c0_1, .int .i64 a0_2, .int .i64 a0_3, .slice (some ad57002) l0_4.length c0_4] 35 (0, 0))) := ⟨by rw [← hq_]; exact (by (with_reducible repeat (first | refine blk_drewN ?_ _ | refine blk_drew ?_ | refine blk_alloc ?_ _)); exact BK57001.out)⟩; have n1_ : Aside0 (wc.heap[gb57003]? = some (.cells #[.int .i64 ((rd_T64 l0_4 x8_1).f0), .string ((rd_T64 l0_4 x8_1).f1), .int .i64 ((rd_T64 l0_4 x8_1).f2)] 64 (0, 0))) := ⟨by rw [← hq_]; exact (by (with_reducible repeat (first | refine blk_drewN ?_ _ | refine blk_drew ?_ | refine blk_alloc ?_ _)); exact BK57003.out)⟩; have n2_ : Aside0 (Below w.heap.size w wc) := ⟨by rw [← hq_]; exact (by repeat (first | (with_reducible first | exact HB.out | apply below_alloc | apply pw_below_drewN | apply below_drew1 | refine below_set ?_ GE57001.out | refine below_set ?_ GE57003.out) | exact HB.out))⟩; clear BK57001 BK57003 HB hq_; have BK57001 := n0_; have BK57003 := n1_; have HB := n2_; clear n0_ n1_ n2_))
                              have n0_ := Aside0.mk (blk_drew BK57001.out)
                              have n1_ := Aside0.mk (blk_drew BK57003.out)
                              have n2_ := Aside0.mk (below_drew1 HB.out)
                              clear BK57001
                              clear BK57003
                              clear HB
                              have BK57001 := n0_
                              have BK57003 := n1_
                              have HB := n2_
                              clear n0_ n1_ n2_
                              have p57007 : 0 ≤ ((ji33) : Int) := of_decide_eq_true (by first | (with_reducible assumption) | assumption)
                              have q57007 : (ji33) < (l0_4.length : Int) := of_decide_eq_true (by first | (with_reducible assumption) | assumption)
                              obtain ⟨ad57007, e57007, hx57007_0, hx57007_1, hx57007_2⟩ := at_T64 HR0_4.out (ji33) p57007 q57007
                              have hw57007_2 := hx57007_2
                              have hw57007_1 := hx57007_1
                              have hw57007_0 := hx57007_0
                              obtain rfl : ad57002 = ad57007 := (by injection e57007)
                              replace hx57007_0 := (HB.out.cell (World.block_lt_of_cell? w _ hx57007_0)).trans hx57007_0
                              replace hx57007_1 := (HB.out.cell (World.block_lt_of_cell? w _ hx57007_1)).trans hx57007_1
                              replace hx57007_2 := (HB.out.cell (World.block_lt_of_cell? w _ hx57007_2)).trans hx57007_2
                              replace p57007 := eq_true p57007
                              replace q57007 := eq_true q57007
                              refine start_ (n := 14) (S := fun w' => w'.cell? ⟨gb57001, 0, none⟩ = some (.string a0_0) ∧ w'.cell? ⟨gb57001, 1, none⟩ = some (.slice A0_1 l0_1.length c0_1) ∧ w'.cell? ⟨gb57001, 2, none⟩ = some (.int .i64 a0_2) ∧ w'.cell? ⟨gb57001, 3, none⟩ = some (.int .i64 a0_3) ∧ w'.cell? ⟨gb57001, 4, none⟩ = some (.slice (some ad57002) l0_4.length c0_4) ∧ w'.cell? ⟨gb57003, 0, none⟩ = some (.int .i64 ((rd_T64 l0_4 x8_1).f0)) ∧ w'.cell? ⟨gb57003, 1, none⟩ = some (.string ((rd_T64 l0_4 x8_1).f1)) ∧ w'.cell? ⟨gb57003, 2, none⟩ = some (.int .i64 ((rd_T64 l0_4 x8_1).f2)) ∧ w'.cell? (ad57002.add (((ji33)).toNat * 3)) = some (.int .i64 ((rd_T64 l0_4 (ji33)).f0)) ∧ w'.cell? ⟨(ad57002.add (((ji33)).toNat * 3)).block, (ad57002.add (((ji33)).toNat * 3)).off + 1, none⟩ = some (.string ((rd_T64 l0_4 (ji33)).f1)) ∧ w'.cell? ⟨(ad57002.add (((ji33)).toNat * 3)).block, (ad57002.add (((ji33)).toNat * 3)).off + 2, none⟩ = some (.int .i64 ((rd_T64 l0_4 (ji33)).f2))) (ds := []) #[false, false, false, false, false, false, false, false, false, false, false, false, false, false] (by kernel_rfl) rfl rfl ⟨(blk_cell BK57001.out 0).trans rfl, (blk_cell BK57001.out 1).trans rfl, (blk_cell BK57001.out 2).trans rfl, (blk_cell BK57001.out 3).trans rfl, (blk_cell BK57001.out 4).trans rfl, (blk_cell BK57003.out 0).trans rfl, (blk_cell BK57003.out 1).trans rfl, (blk_cell BK57003.out 2).trans rfl, ((HB.out.cell (World.block_lt_of_cell? w _ hw57007_0)).trans hw57007_0), ((HB.out.cell (World.block_lt_of_cell? w _ hw57007_1)).trans hw57007_1), ((HB.out.cell (World.block_lt_of_cell? w _ hw57007_2)).trans hw57007_2)⟩ (fun hHeld => ?_); refine with_tabW protocol_checkMoves.tab10 protocol_checkMoves.bits10 (fun HT_ HW_ => ?_)
                              generalize wc.drew = w46 at BK57001 BK57003 HB hx57007_0 hx57007_1 hx57007_2 hHeld ⊢
                              refine pure_ (i := 0) (N := some 38) (v := ?_) (a' := ?_) #[true, false, false, false, false, false, false, false, false, false, false, false, false, false] rfl rfl (any_of HT_.out (by kernel_rfl)) (fun _ _ _ h => h) (Or.inl ⟨by rfl, ?_⟩) ?_ ?_
                              rotate_left
                              · intro w'
                                go_simp
                                with_reducible rfl
                              rotate_left
                              · simp only [Act.put, List.setIfInBounds_toArray, List.set_cons_zero, List.set_cons_succ, i64_w, i32_w]
                                rfl
                              refine pure_ (i := 1) (N := some 39) (v := ?_) (a' := ?_) #[true, true, false, false, false, false, false, false, false, false, false, false, false, false] rfl rfl (any_of HT_.out (by kernel_rfl)) (fun _ _ _ h => h) (Or.inl ⟨by rfl, ?_⟩) ?_ ?_
                              rotate_left
                              · intro w'
                                go_simp
                                with_reducible rfl
                              rotate_left
                              · simp only [Act.put, List.setIfInBounds_toArray, List.set_cons_zero, List.set_cons_succ, i64_w, i32_w]
                                rfl
                              refine pure_ (i := 2) (N := some 40) (v := ?_) (a' := ?_) #[true, true, true, false, false, false, false, false, false, false, false, false, false, false] rfl rfl (any_of HT_.out (by kernel_rfl)) (fun _ _ _ h => h) (Or.inl ⟨by rfl, ?_⟩) ?_ ?_
                              rotate_left
                              · intro w'
                                go_simp
                                with_reducible rfl
                              rotate_left
                              · simp only [Act.put, List.setIfInBounds_toArray, List.set_cons_zero, List.set_cons_succ, i64_w, i32_w]
                                rfl
                              refine pure_ (i := 3) (N := some 41) (v := ?_) (a' := ?_) #[true, true, true, true, false, false, false, false, false, false, false, false, false, false] rfl rfl (any_of HT_.out (by kernel_rfl)) (fun _ _ _ h => h) (Or.inl ⟨by rfl, ?_⟩) ?_ ?_
                              rotate_left
                              · intro w'
                                go_simp
                                with_reducible rfl
                              rotate_left
                              · simp only [Act.put, List.setIfInBounds_toArray, List.set_cons_zero, List.set_cons_succ, i64_w, i32_w]
                                rfl
                              refine pure_ (i := 5) (N := some 43) (v := ?_) (a' := ?_) #[true, true, true, true, false, true, false, false, false, false, false, false, false, false] rfl rfl (any_of HT_.out (by kernel_rfl)) (fun _ _ _ h => h) (Or.inl ⟨by rfl, ?_⟩) ?_ ?_
                              rotate_left
                              · intro w'
                                go_simp
                                with_reducible rfl
                              rotate_left
                              · simp only [Act.put, List.setIfInBounds_toArray, List.set_cons_zero, List.set_cons_succ, i64_w, i32_w]
                                rfl
                              refine pure_ (i := 6) (N := some 44) (v := ?_) (a' := ?_) #[true, true, true, true, false, true, true, false, false, false, false, false, false, false] rfl rfl (any_of HT_.out (by kernel_rfl)) (fun _ _ _ h => h) (Or.inl ⟨by rfl, ?_⟩) ?_ ?_
                              rotate_left
                              · intro w'
                                go_simp
                                with_reducible rfl
                              rotate_left
                              · simp only [Act.put, List.setIfInBounds_toArray, List.set_cons_zero, List.set_cons_succ, i64_w, i32_w]
                                rfl
                              refine take_ (i := 4) (N := some 42) (v := ?_) (a' := ?_) #[true, true, true, true, true, true, true, false, false, false, false, false, false, false] rfl rfl (take_ofW HT_.out HW_.out (by kernel_rfl)) (fun _ _ _ h => h) (Or.inl ⟨by rfl, ?_⟩) hHeld ?_ ?_
                              rotate_left
                              · rintro w' ⟨s0, s1, s2, s3, s4, s5, s6, s7, s8, s9, s10⟩
                                go_simp
                                with_reducible rfl
                              rotate_left
                              · simp only [Act.put, List.setIfInBounds_toArray, List.set_cons_zero, List.set_cons_succ, i64_w, i32_w]
                                rfl
                              refine pure_ (i := 7) (N := some 45) (v := ?_) (a' := ?_) #[true, true, true, true, true, true, true, true, false, false, false, false, false, false] rfl rfl (any_of HT_.out (by kernel_rfl)) (fun _ _ _ h => h) (Or.inl ⟨by rfl, ?_⟩) ?_ ?_
                              rotate_left
                              · intro w'
                                go_simp
                                with_reducible rfl
                              rotate_left
                              · simp only [Act.put, List.setIfInBounds_toArray, List.set_cons_zero, List.set_cons_succ, i64_w, i32_w]
                                rfl
                              refine take_ (i := 8) (N := some 46) (v := ?_) (a' := ?_) #[true, true, true, true, true, true, true, true, true, false, false, false, false, false] rfl rfl (take_ofW HT_.out HW_.out (by kernel_rfl)) (fun _ _ _ h => h) (Or.inl ⟨by rfl, ?_⟩) hHeld ?_ ?_
                              rotate_left
                              · rintro w' ⟨s0, s1, s2, s3, s4, s5, s6, s7, s8, s9, s10⟩
                                go_simp
                                with_reducible rfl
                              rotate_left
                              · simp only [Act.put, List.setIfInBounds_toArray, List.set_cons_zero, List.set_cons_succ, i64_w, i32_w]
                                rfl
                              refine take_ (i := 9) (N := some 47) (v := ?_) (a' := ?_) #[true, true, true, true, true, true, true, true, true, true, false, false, false, false] rfl rfl (take_ofW HT_.out HW_.out (by kernel_rfl)) (fun _ _ _ h => h) (Or.inl ⟨by rfl, ?_⟩) hHeld ?_ ?_
                              rotate_left
                              · rintro w' ⟨s0, s1, s2, s3, s4, s5, s6, s7, s8, s9, s10⟩
                                go_simp
                                with_reducible rfl
                              rotate_left
                              · simp only [Act.put, List.setIfInBounds_toArray, List.set_cons_zero, List.set_cons_succ, i64_w, i32_w]
                                rfl
                              refine one_ (i := 10) (N := some 48) #[true, true, true, true, true, true, true, true, true, true, true, false, false, false] rfl rfl (one_of HT_.out (by kernel_rfl)) (by decide) (fun K hK => ?_)
                              refine goes_ Tryd.func79 (by kernel_rfl) rfl #[.agg #[.int .i64 ((rd_T64 l0_4 (ji33)).f0), .string ((rd_T64 l0_4 (ji33)).f1), .int .i64 ((rd_T64 l0_4 (ji33)).f2)], .agg #[.int .i64 ((rd_T64 l0_4 x8_1).f0), .string ((rd_T64 l0_4 x8_1).f1), .int .i64 ((rd_T64 l0_4 x8_1).f2)]] (by rfl) rfl rfl (by (try simp only [List.map_toArray, List.map_cons, List.map_nil]); first | done | (simp only [hji33]; rfl) | rfl | (simp only [List.length_drop, List.length_take]; rfl)) ?_
                              with_reducible refine (protocol_compare.calls kj6 ((rd_T64 l0_4 (ji33)).f0) ((rd_T64 l0_4 (ji33)).f1) ((rd_T64 l0_4 (ji33)).f2) ((rd_T64 l0_4 x8_1).f0) ((rd_T64 l0_4 x8_1).f1) ((rd_T64 l0_4 x8_1).f2) t57008 _ A36.out).mono ?_
                              rintro e w47 ⟨rfl, hb⟩
                              refine ⟨_, rfl, ?_⟩
                              have n0_ := Aside0.mk (blk_below (g := gb57001) (o := .cells #[.string a0_0, .slice A0_1 l0_1.length c0_1, .int .i64 a0_2, .int .i64 a0_3, .slice (some ad57002) l0_4.length c0_4] 35 (0, 0)) (by (with_reducible repeat (first | refine blk_drewN ?_ _ | refine blk_drew ?_ | refine blk_alloc ?_ _)); exact BK57001.out) hb)
                              have n1_ := Aside0.mk (blk_below (g := gb57003) (o := .cells #[.int .i64 ((rd_T64 l0_4 x8_1).f0), .string ((rd_T64 l0_4 x8_1).f1), .int .i64 ((rd_T64 l0_4 x8_1).f2)] 64 (0, 0)) (by (with_reducible repeat (first | refine blk_drewN ?_ _ | refine blk_drew ?_ | refine blk_alloc ?_ _)); exact BK57003.out) hb)
                              have n2_ := Aside0.mk (below_step (by repeat (first | (with_reducible first | exact HB.out | apply below_alloc | apply pw_below_drewN | apply below_drew1 | refine below_set ?_ GE57001.out | refine below_set ?_ GE57003.out) | exact HB.out)) hb)
                              clear BK57001
                              clear BK57003
                              clear HB
                              have BK57001 := n0_
                              have BK57003 := n1_
                              have HB := n2_
                              clear n0_ n1_ n2_
                              (try clear hb)
                              (try clear hb2)
                              (try clear hk)
                              (try clear hi)
                              refine hK.out _ _ ⟨(blk_cell BK57001.out 0).trans rfl, (blk_cell BK57001.out 1).trans rfl, (blk_cell BK57001.out 2).trans rfl, (blk_cell BK57001.out 3).trans rfl, (blk_cell BK57001.out 4).trans rfl, (blk_cell BK57003.out 0).trans rfl, (blk_cell BK57003.out 1).trans rfl, (blk_cell BK57003.out 2).trans rfl, ((HB.out.cell (World.block_lt_of_cell? w _ hw57007_0)).trans hw57007_0), ((HB.out.cell (World.block_lt_of_cell? w _ hw57007_1)).trans hw57007_1), ((HB.out.cell (World.block_lt_of_cell? w _ hw57007_2)).trans hw57007_2)⟩ (fun hHeld => ?_)
                              clear hK K
                              refine norm_ (a' := ?_) ?_ ?_
                              rotate_left
                              · show Act.put _ (some 48) _ = _
                                simp only [Act.put, List.setIfInBounds_toArray, List.set_cons_zero, List.set_cons_succ, i64_w, i32_w]
                                rfl
                              refine pure_ (i := 11) (N := some 49) (v := ?_) (a' := ?_) #[true, true, true, true, true, true, true, true, true, true, true, true, false, false] rfl rfl (any_of HT_.out (by kernel_rfl)) (fun _ _ _ h => h) (Or.inl ⟨by rfl, ?_⟩) ?_ ?_
                              rotate_left
                              · intro w'
                                go_simp
                                with_reducible rfl
                              rotate_left
                              · simp only [Act.put, List.setIfInBounds_toArray, List.set_cons_zero, List.set_cons_succ, i64_w, i32_w]
                                rfl
                              refine pure_ (i := 12) (N := some 50) (v := ?_) (a' := ?_) #[true, true, true, true, true, true, true, true, true, true, true, true, true, false] rfl rfl (any_of HT_.out (by kernel_rfl)) (fun _ _ _ h => h) (Or.inl ⟨by rfl, ?_⟩) ?_ ?_
                              rotate_left
                              · intro w'
                                go_simp
                                with_reducible rfl
                              rotate_left
                              · simp only [Act.put, List.setIfInBounds_toArray, List.set_cons_zero, List.set_cons_succ, i64_w, i32_w]
                                rfl
                              refine pure_ (i := 13) (N := some 37) (v := ?_) (a' := ?_) #[true, true, true, true, true, true, true, true, true, true, true, true, true, true] rfl rfl (any_of HT_.out (by kernel_rfl)) (fun _ _ _ h => h) (Or.inl ⟨by rfl, ?_⟩) ?_ ?_
                              rotate_left
                              · intro w'
                                go_simp
                                with_reducible rfl
                              rotate_left
                              · simp only [Act.put, List.setIfInBounds_toArray, List.set_cons_zero, List.set_cons_succ, i64_w, i32_w]
                                rfl
                              refine done_ (done_of HT_.out (by kernel_rfl)) ?_
                              try go_wp2
                              go_roundg kj6
                              case measure => have := HK1.out; have := HJ6.out; omega
                              case rel => exact ⟨(wrap64 (x8_1 + 1)), (by first | rfl | (simp; done) | (simp [*]; done)), H', ⟨by have := HK1.out; have := HJ6.out; omega⟩, ⟨by (with_reducible repeat (first | refine blk_drewN ?_ _ | refine blk_drew ?_ | refine blk_alloc ?_ _)); exact BK57001.out⟩, ⟨by repeat (first | (with_reducible first | exact HB.out | apply below_alloc | apply pw_below_drewN | apply below_drew1 | refine below_set ?_ GE57001.out | refine below_set ?_ GE57003.out) | exact HB.out)⟩⟩
                          · rw [if_neg c35] at H
                            exact absurd H (by simp)
                        · rw [if_neg c34] at H
                          exact absurd H (by simp)
                      · rw [if_neg c32] at H
                        have c32b0 : decide (0 < x8_1) = false := decide_eq_false c32
                        clear c32
                        have H' := Aside0.mk H
                        clear H
                        have hnb48 := NB57003_57001.out
                        have hnc48 := NB57001_57003.out
                        have hcz49_0 : wc.cell? ⟨gb57003, 0, none⟩ = some (.int .i64 ((rd_T64 l0_4 x8_1).f0)) := (blk_cell BK57003.out 0).trans rfl
                        have hcz49_1 : wc.cell? ⟨gb57003, 1, none⟩ = some (.string ((rd_T64 l0_4 x8_1).f1)) := (blk_cell BK57003.out 1).trans rfl
                        have hcz49_2 : wc.cell? ⟨gb57003, 2, none⟩ = some (.int .i64 ((rd_T64 l0_4 x8_1).f2)) := (blk_cell BK57003.out 2).trans rfl
                        have hfz49_0 := blk_frozen BK57003.out 0
                        have hfz49_1 := blk_frozen BK57003.out 1
                        have hfz49_2 := blk_frozen BK57003.out 2
                        try go_wp2_with (first | ((with_reducible refine gate_callee (f := 17) rfl ?_); refine goesL_ (some 29) rfl rfl Tryd.func17 (by kernel_rfl) rfl #[.string ((rd_T64 l0_4 x8_1).f1)] rfl (by (try simp only [List.map_toArray, List.map_cons, List.map_nil]); first | done | rfl | (simp only [List.length_drop, List.length_take]; rfl)) ?_; (with_reducible refine (lex_Ident.calls kj6 ((rd_T64 l0_4 x8_1).f1) true _ ?side1 A26.out).mono ?_); (case side1 => exact Gh.below HGH.out (by repeat (first | (with_reducible first | exact HB.out | apply below_alloc | apply pw_below_drewN | apply below_drew1 | refine below_set ?_ GE57001.out | refine below_set ?_ GE57003.out) | exact HB.out))); rintro e w' ⟨rfl, ⟨nd, rfl⟩⟩; refine ⟨_, rfl, ?_⟩; have hcz50_0 : wc.cell? ⟨gb57001, 0, none⟩ = some (.string a0_0) := (blk_cell BK57001.out 0).trans rfl; have hcz50_1 : wc.cell? ⟨gb57001, 1, none⟩ = some (.slice A0_1 l0_1.length c0_1) := (blk_cell BK57001.out 1).trans rfl; have hcz50_2 : wc.cell? ⟨gb57001, 2, none⟩ = some (.int .i64 a0_2) := (blk_cell BK57001.out 2).trans rfl; have hcz50_3 : wc.cell? ⟨gb57001, 3, none⟩ = some (.int .i64 a0_3) := (blk_cell BK57001.out 3).trans rfl; have hcz50_4 : wc.cell? ⟨gb57001, 4, none⟩ = some (.slice (some ad57002) l0_4.length c0_4) := (blk_cell BK57001.out 4).trans rfl; have hfz50_0 := blk_frozen BK57001.out 0; have hfz50_1 := blk_frozen BK57001.out 1; have hfz50_2 := blk_frozen BK57001.out 2; have hfz50_3 := blk_frozen BK57001.out 3; have hfz50_4 := blk_frozen BK57001.out 4))
                        (try (rw [drewN_self wc]; generalize hq_ : World.drewN wc _ = wc; have n0_ : Aside0 (wc.heap[gb57001]? = some (.cells #[.string a0_0, .slice A0_1 l0_1.length c0_1, .int .i64 a0_2, .int .i64 a0_3, .slice (some ad57002) l0_4.length c0_4] 35 (0, 0))) := ⟨by rw [← hq_]; exact (by (with_reducible repeat (first | refine blk_drewN ?_ _ | refine blk_drew ?_ | refine blk_alloc ?_ _)); exact BK57001.out)⟩; have n1_ : Aside0 (wc.heap[gb57003]? = some (.cells #[.int .i64 ((rd_T64 l0_4 x8_1).f0), .string ((rd_T64 l0_4 x8_1).f1), .int .i64 ((rd_T64 l0_4 x8_1).f2)] 64 (0, 0))) := ⟨by rw [← hq_]; exact (by (with_reducible repeat (first | refine blk_drewN ?_ _ | refine blk_drew ?_ | refine blk_alloc ?_ _)); exact BK57003.out)⟩; have n2_ : Aside0 (Below w.heap.size w wc) := ⟨by rw [← hq_]; exact (by repeat (first | (with_reducible first | exact HB.out | apply below_alloc | apply pw_below_drewN | apply below_drew1 | refine below_set ?_ GE57001.out | refine below_set ?_ GE57003.out) | exact HB.out))⟩; clear BK57001 BK57003 HB hq_; have BK57001 := n0_; have BK57003 := n1_; have HB := n2_; clear n0_ n1_ n2_))
                        have n0_ := Aside0.mk (blk_drew BK57001.out)
                        have n1_ := Aside0.mk (blk_drew BK57003.out)
                        have n2_ := Aside0.mk (below_drew1 HB.out)
                        clear BK57001
                        clear BK57003
                        clear HB
                        have BK57001 := n0_
                        have BK57003 := n1_
                        have HB := n2_
                        clear n0_ n1_ n2_
                        refine start_ (n := 14) (S := fun w' => True) (ds := []) #[false, false, false, false, false, false, false, false, false, false, false, false, false, false] (by kernel_rfl) rfl rfl trivial (fun hHeld => ?_); refine with_tabW protocol_checkMoves.tab10 protocol_checkMoves.bits10 (fun HT_ HW_ => ?_)
                        generalize wc.drew = w51 at BK57001 BK57003 HB hHeld ⊢
                        refine pure_ (i := 0) (N := some 38) (v := ?_) (a' := ?_) #[true, false, false, false, false, false, false, false, false, false, false, false, false, false] rfl rfl (any_of HT_.out (by kernel_rfl)) (fun _ _ _ h => h) (Or.inl ⟨by rfl, ?_⟩) ?_ ?_
                        rotate_left
                        · intro w'
                          go_simp
                          with_reducible rfl
                        rotate_left
                        · simp only [Act.put, List.setIfInBounds_toArray, List.set_cons_zero, List.set_cons_succ, i64_w, i32_w]
                          rfl
                        refine pure_ (i := 1) (N := some 39) (v := ?_) (a' := ?_) #[true, true, false, false, false, false, false, false, false, false, false, false, false, false] rfl rfl (any_of HT_.out (by kernel_rfl)) (fun _ _ _ h => h) (Or.inl ⟨by rfl, ?_⟩) ?_ ?_
                        rotate_left
                        · intro w'
                          go_simp
                          with_reducible rfl
                        rotate_left
                        · simp only [Act.put, List.setIfInBounds_toArray, List.set_cons_zero, List.set_cons_succ, i64_w, i32_w]
                          rfl
                        refine pure_ (i := 2) (N := some 40) (v := ?_) (a' := ?_) #[true, true, true, false, false, false, false, false, false, false, false, false, false, false] rfl rfl (any_of HT_.out (by kernel_rfl)) (fun _ _ _ h => h) (Or.inl ⟨by rfl, ?_⟩) ?_ ?_
                        rotate_left
                        · intro w'
                          go_simp
                          with_reducible rfl
                        rotate_left
                        · simp only [Act.put, List.setIfInBounds_toArray, List.set_cons_zero, List.set_cons_succ, i64_w, i32_w]
                          rfl
                        refine pure_ (i := 3) (N := some 41) (v := undef) (a' := ?_) #[true, true, true, true, false, false, false, false, false, false, false, false, false, false] rfl rfl (any_of HT_.out (by kernel_rfl)) (fun _ _ _ h => h) (Or.inr ⟨by rfl, rfl⟩) ?_ ?_
                        rotate_left
                        · simp only [Act.put, List.setIfInBounds_toArray, List.set_cons_zero, List.set_cons_succ, i64_w, i32_w]
                          rfl
                        refine pure_ (i := 4) (N := some 42) (v := undef) (a' := ?_) #[true, true, true, true, true, false, false, false, false, false, false, false, false, false] rfl rfl (any_of HT_.out (by kernel_rfl)) (fun _ _ _ h => h) (Or.inr ⟨by rfl, rfl⟩) ?_ ?_
                        rotate_left
                        · simp only [Act.put, List.setIfInBounds_toArray, List.set_cons_zero, List.set_cons_succ, i64_w, i32_w]
                          rfl
                        refine pure_ (i := 5) (N := some 43) (v := undef) (a' := ?_) #[true, true, true, true, true, true, false, false, false, false, false, false, false, false] rfl rfl (any_of HT_.out (by kernel_rfl)) (fun _ _ _ h => h) (Or.inr ⟨by rfl, rfl⟩) ?_ ?_
                        rotate_left
                        · simp only [Act.put, List.setIfInBounds_toArray, List.set_cons_zero, List.set_cons_succ, i64_w, i32_w]
                          rfl
                        refine pure_ (i := 6) (N := some 44) (v := undef) (a' := ?_) #[true, true, true, true, true, true, true, false, false, false, false, false, false, false] rfl rfl (any_of HT_.out (by kernel_rfl)) (fun _ _ _ h => h) (Or.inr ⟨by rfl, rfl⟩) ?_ ?_
                        rotate_left
                        · simp only [Act.put, List.setIfInBounds_toArray, List.set_cons_zero, List.set_cons_succ, i64_w, i32_w]
                          rfl
                        refine pure_ (i := 7) (N := some 45) (v := undef) (a' := ?_) #[true, true, true, true, true, true, true, true, false, false, false, false, false, false] rfl rfl (any_of HT_.out (by kernel_rfl)) (fun _ _ _ h => h) (Or.inr ⟨by rfl, rfl⟩) ?_ ?_
                        rotate_left
                        · simp only [Act.put, List.setIfInBounds_toArray, List.set_cons_zero, List.set_cons_succ, i64_w, i32_w]
                          rfl
                        refine pure_ (i := 8) (N := some 46) (v := undef) (a' := ?_) #[true, true, true, true, true, true, true, true, true, false, false, false, false, false] rfl rfl (any_of HT_.out (by kernel_rfl)) (fun _ _ _ h => h) (Or.inr ⟨by rfl, rfl⟩) ?_ ?_
                        rotate_left
                        · simp only [Act.put, List.setIfInBounds_toArray, List.set_cons_zero, List.set_cons_succ, i64_w, i32_w]
                          rfl
                        refine pure_ (i := 9) (N := some 47) (v := undef) (a' := ?_) #[true, true, true, true, true, true, true, true, true, true, false, false, false, false] rfl rfl (any_of HT_.out (by kernel_rfl)) (fun _ _ _ h => h) (Or.inr ⟨by rfl, rfl⟩) ?_ ?_
                        rotate_left
                        · simp only [Act.put, List.setIfInBounds_toArray, List.set_cons_zero, List.set_cons_succ, i64_w, i32_w]
                          rfl
                        refine pure_ (i := 10) (N := some 48) (v := undef) (a' := ?_) #[true, true, true, true, true, true, true, true, true, true, true, false, false, false] rfl rfl (any_of HT_.out (by kernel_rfl)) (fun _ _ _ h => h) (Or.inr ⟨by rfl, rfl⟩) ?_ ?_
                        rotate_left
                        · simp only [Act.put, List.setIfInBounds_toArray, List.set_cons_zero, List.set_cons_succ, i64_w, i32_w]
                          rfl
                        refine pure_ (i := 11) (N := some 49) (v := undef) (a' := ?_) #[true, true, true, true, true, true, true, true, true, true, true, true, false, false] rfl rfl (any_of HT_.out (by kernel_rfl)) (fun _ _ _ h => h) (Or.inr ⟨by rfl, rfl⟩) ?_ ?_
                        rotate_left
                        · simp only [Act.put, List.setIfInBounds_toArray, List.set_cons_zero, List.set_cons_succ, i64_w, i32_w]
                          rfl
                        refine pure_ (i := 12) (N := some 50) (v := ?_) (a' := ?_) #[true, true, true, true, true, true, true, true, true, true, true, true, true, false] rfl rfl (any_of HT_.out (by kernel_rfl)) (fun _ _ _ h => h) (Or.inl ⟨by rfl, ?_⟩) ?_ ?_
                        rotate_left
                        · intro w'
                          go_simp
                          with_reducible rfl
                        rotate_left
                        · simp only [Act.put, List.setIfInBounds_toArray, List.set_cons_zero, List.set_cons_succ, i64_w, i32_w]
                          rfl
                        refine pure_ (i := 13) (N := some 37) (v := ?_) (a' := ?_) #[true, true, true, true, true, true, true, true, true, true, true, true, true, true] rfl rfl (any_of HT_.out (by kernel_rfl)) (fun _ _ _ h => h) (Or.inl ⟨by rfl, ?_⟩) ?_ ?_
                        rotate_left
                        · intro w'
                          go_simp
                          with_reducible rfl
                        rotate_left
                        · simp only [Act.put, List.setIfInBounds_toArray, List.set_cons_zero, List.set_cons_succ, i64_w, i32_w]
                          rfl
                        refine done_ (done_of HT_.out (by kernel_rfl)) ?_
                        try go_wp2
                        go_roundg kj6
                        case measure => have := HK1.out; have := HJ6.out; omega
                        case rel => exact ⟨(wrap64 (x8_1 + 1)), (by first | rfl | (simp; done) | (simp [*]; done)), H', ⟨by have := HK1.out; have := HJ6.out; omega⟩, ⟨by (with_reducible repeat (first | refine blk_drewN ?_ _ | refine blk_drew ?_ | refine blk_alloc ?_ _)); exact BK57001.out⟩, ⟨by repeat (first | (with_reducible first | exact HB.out | apply below_alloc | apply pw_below_drewN | apply below_drew1 | refine below_set ?_ GE57001.out | refine below_set ?_ GE57003.out) | exact HB.out)⟩⟩
                  · replace c27 := Bool.eq_false_iff.mpr c27
                    subst c27
                    have H1 : (some 5) = some r := by rw [if_neg (show ¬ (false = true) by decide)] at H; exact H
                    clear H
                    have H := H1
                    clear H1
                    obtain rfl := Option.some.inj H
                    have hnb52 := NB57003_57001.out
                    have hnc52 := NB57001_57003.out
                    have hcz53_0 : wc.cell? ⟨gb57003, 0, none⟩ = some (.int .i64 ((rd_T64 l0_4 x8_1).f0)) := (blk_cell BK57003.out 0).trans rfl
                    have hcz53_1 : wc.cell? ⟨gb57003, 1, none⟩ = some (.string ((rd_T64 l0_4 x8_1).f1)) := (blk_cell BK57003.out 1).trans rfl
                    have hcz53_2 : wc.cell? ⟨gb57003, 2, none⟩ = some (.int .i64 ((rd_T64 l0_4 x8_1).f2)) := (blk_cell BK57003.out 2).trans rfl
                    have hfz53_0 := blk_frozen BK57003.out 0
                    have hfz53_1 := blk_frozen BK57003.out 1
                    have hfz53_2 := blk_frozen BK57003.out 2
                    go_wp2_with (first | ((with_reducible refine gate_callee (f := 17) rfl ?_); refine goesL_ (some 29) rfl rfl Tryd.func17 (by kernel_rfl) rfl #[.string ((rd_T64 l0_4 x8_1).f1)] rfl (by (try simp only [List.map_toArray, List.map_cons, List.map_nil]); first | done | rfl | (simp only [List.length_drop, List.length_take]; rfl)) ?_; (with_reducible refine (lex_Ident.calls kj6 ((rd_T64 l0_4 x8_1).f1) false _ ?side1 A26.out).mono ?_); (case side1 => exact Gh.below HGH.out (by repeat (first | (with_reducible first | exact HB.out | apply below_alloc | apply pw_below_drewN | apply below_drew1 | refine below_set ?_ GE57001.out | refine below_set ?_ GE57003.out) | exact HB.out))); rintro e w' ⟨rfl, ⟨nd, rfl⟩⟩; refine ⟨_, rfl, ?_⟩))
                    go_ret
                    exact ⟨by first | rfl | (simp [errW_none, errW_some] <;> rfl) | (simp [*, errW_none, errW_some] <;> rfl), by repeat (first | (with_reducible first | exact HB.out | apply below_alloc | apply pw_below_drewN | apply below_drew1 | refine below_set ?_ GE57001.out | refine below_set ?_ GE57003.out) | exact HB.out)⟩
          · rw [if_neg c6] at H
            exact absurd H (by simp)
        · rw [if_neg c5] at H
          exact absurd H (by simp)
      · rw [if_neg c4] at H
        have c4b0 : decide (x8_1 < (l0_4.length : Int)) = false := decide_eq_false c4
        clear c4
        obtain rfl := Option.some.inj H
        go_wp2
        go_ret
        exact ⟨by first | rfl | (simp [errW_none, errW_some] <;> rfl) | (simp [*, errW_none, errW_some] <;> rfl), by repeat (first | (with_reducible first | exact HB.out | apply below_alloc | apply pw_below_drewN | apply below_drew1 | refine below_set ?_ GE57001.out) | exact HB.out)⟩

/-! ### protocol_Check: function 33 -/
mutual
def protocol_Check.j0 : Nat → Bool → ByteArray → List ByteArray → Int → Int → List (S64) → Option (Int)
  | 0, _, _, _, _, _, _ => none
  | k + 1, x9, x34002000, x34002001, x34002002, x34002003, x34002004 => if x9 = true then (some 3) else (if (x34002001.length : Int) = 0 then (some 4) else ((protocol_checkStates.f k x34002001).bind fun t34003 => (if t34003 = 0 then ((protocol_in.f x34002000 x34002001 x34002002 x34002003 x34002004 x34002002).bind fun t34004 => (if t34004 = true then ((protocol_in.f x34002000 x34002001 x34002002 x34002003 x34002004 x34002003).bind fun t34005 => (protocol_Check.j1 k (!t34005) x34002000 x34002001 x34002002 x34002003 x34002004)) else (protocol_Check.j1 k true x34002000 x34002001 x34002002 x34002003 x34002004))) else (some t34003))))
def protocol_Check.j1 : Nat → Bool → ByteArray → List ByteArray → Int → Int → List (S64) → Option (Int)
  | 0, _, _, _, _, _, _ => none
  | k + 1, x31, x34002000, x34002001, x34002002, x34002003, x34002004 => if x31 = true then (some 4) else (if x34002002 = x34002003 then (some 1) else ((protocol_checkMoves.f k x34002000 x34002001 x34002002 x34002003 x34002004).bind fun t34006 => (some t34006)))
end
def protocol_Check.f (k : Nat) (a0_0 : ByteArray) (l0_1 : List ByteArray) (a0_2 : Int) (a0_3 : Int) (l0_4 : List (S64)) : Option (Int) := (lex_Ident.f k a0_0).bind fun t34002 => (if t34002 = true then (if (l0_1.length : Int) > 16 then (protocol_Check.j0 k true a0_0 l0_1 a0_2 a0_3 l0_4) else (protocol_Check.j0 k (decide ((l0_4.length : Int) > 256)) a0_0 l0_1 a0_2 a0_3 l0_4)) else (some 5))
theorem protocol_Check.mono_l : ∀ k, (∀ y0 y1 y2 y3 y4 y5, LeO (protocol_Check.j0 k y0 y1 y2 y3 y4 y5) (protocol_Check.j0 (k + 1) y0 y1 y2 y3 y4 y5)) ∧ (∀ y0 y1 y2 y3 y4 y5, LeO (protocol_Check.j1 k y0 y1 y2 y3 y4 y5) (protocol_Check.j1 (k + 1) y0 y1 y2 y3 y4 y5))
  | 0 => ⟨fun _ _ _ _ _ _ r h => by simp [protocol_Check.j0] at h, fun _ _ _ _ _ _ r h => by simp [protocol_Check.j1] at h⟩
  | k + 1 => by
    obtain ⟨ih0, ih1⟩ := protocol_Check.mono_l k
    refine ⟨?_, ?_⟩
    · intro y0 y1 y2 y3 y4 y5
      unfold protocol_Check.j0
      repeat' first
      | (with_reducible exact ih0 _ _ _ _ _ _)
      | (with_reducible exact ih1 _ _ _ _ _ _)
      | (with_reducible exact lex_Ident.mono _ _)
      | (with_reducible exact protocol_checkMoves.mono _ _ _ _ _ _)
      | (with_reducible exact protocol_checkStates.mono _ _)
      | (with_reducible exact LeO.refl _)
      | (with_reducible exact LeO.none _)
      | (with_reducible refine LeO.ite ?_ ?_)
      | (with_reducible refine LeO.bind ?_ (fun _ => ?_))
      | exact ih0 _ _ _ _ _ _
      | exact ih1 _ _ _ _ _ _
      | exact lex_Ident.mono _ _
      | exact protocol_checkMoves.mono _ _ _ _ _ _
      | exact protocol_checkStates.mono _ _
      | exact LeO.none _
      | refine LeO.ite ?_ ?_
      | refine LeO.bind ?_ (fun _ => ?_)
    · intro y0 y1 y2 y3 y4 y5
      unfold protocol_Check.j1
      repeat' first
      | (with_reducible exact ih0 _ _ _ _ _ _)
      | (with_reducible exact ih1 _ _ _ _ _ _)
      | (with_reducible exact lex_Ident.mono _ _)
      | (with_reducible exact protocol_checkMoves.mono _ _ _ _ _ _)
      | (with_reducible exact protocol_checkStates.mono _ _)
      | (with_reducible exact LeO.refl _)
      | (with_reducible exact LeO.none _)
      | (with_reducible refine LeO.ite ?_ ?_)
      | (with_reducible refine LeO.bind ?_ (fun _ => ?_))
      | exact ih0 _ _ _ _ _ _
      | exact ih1 _ _ _ _ _ _
      | exact lex_Ident.mono _ _
      | exact protocol_checkMoves.mono _ _ _ _ _ _
      | exact protocol_checkStates.mono _ _
      | exact LeO.none _
      | refine LeO.ite ?_ ?_
      | refine LeO.bind ?_ (fun _ => ?_)
theorem protocol_Check.mono : ∀ a0 a1 a2 a3 a4 k, LeO (protocol_Check.f k a0 a1 a2 a3 a4) (protocol_Check.f (k + 1) a0 a1 a2 a3 a4) := by
  intro a0 a1 a2 a3 a4 k
  obtain ⟨ih0, ih1⟩ := protocol_Check.mono_l k
  unfold protocol_Check.f
  repeat' first
      | (with_reducible exact ih0 _ _ _ _ _ _)
      | (with_reducible exact ih1 _ _ _ _ _ _)
      | (with_reducible exact lex_Ident.mono _ _)
      | (with_reducible exact protocol_checkMoves.mono _ _ _ _ _ _)
      | (with_reducible exact protocol_checkStates.mono _ _)
      | (with_reducible exact LeO.refl _)
      | (with_reducible exact LeO.none _)
      | (with_reducible refine LeO.ite ?_ ?_)
      | (with_reducible refine LeO.bind ?_ (fun _ => ?_))
      | exact ih0 _ _ _ _ _ _
      | exact ih1 _ _ _ _ _ _
      | exact lex_Ident.mono _ _
      | exact protocol_checkMoves.mono _ _ _ _ _ _
      | exact protocol_checkStates.mono _ _
      | exact LeO.none _
      | refine LeO.ite ?_ ?_
      | refine LeO.bind ?_ (fun _ => ?_)
set_option maxHeartbeats 8000000 in
set_option maxRecDepth 100000 in
theorem protocol_Check.calls (k : Nat) (a0_0 : ByteArray) (A0_1 : Option Addr) (c0_1 : Nat) (l0_1 : List ByteArray) (a0_2 : Int) (a0_3 : Int) (A0_4 : Option Addr) (c0_4 : Nat) (l0_4 : List (S64)) (r : Int) (w : World) (hr0_1 : Kd.C Kd.string w A0_1 l0_1.length l0_1) (hc0_1 : l0_1.length ≤ c0_1) (hr0_4 : Kd.C k64 w A0_4 l0_4.length l0_4) (hc0_4 : l0_4.length ≤ c0_4) (hgh : Gh w) (h : protocol_Check.f k a0_0 l0_1 a0_2 a0_3 l0_4 = some r) :
    Calls Tryd.prog 33 #[.agg #[.string a0_0, .slice A0_1 l0_1.length c0_1, .int .i64 a0_2, .int .i64 a0_3, .slice A0_4 l0_4.length c0_4]] w fun e w' => e = .returned (.int .i64 r) ∧ Below w.heap.size w w' := by
  have hu35 := Tryd.underlying35
  have HR0_1 := Aside0.mk hr0_1
  have HC0_1 := Aside0.mk hc0_1
  clear hr0_1 hc0_1
  have HR0_4 := Aside0.mk hr0_4
  have HC0_4 := Aside0.mk hc0_4
  clear hr0_4 hc0_4
  have HB := Aside0.mk (Below.refl w.heap.size w)
  have HGH := Aside0.mk hgh
  clear hgh
  have H : ((lex_Ident.f k a0_0).bind fun t34002 => (if t34002 = true then (if (l0_1.length : Int) > 16 then (protocol_Check.j0 k true a0_0 l0_1 a0_2 a0_3 l0_4) else (protocol_Check.j0 k (decide ((l0_4.length : Int) > 256)) a0_0 l0_1 a0_2 a0_3 l0_4)) else (some 5))) = some r := h
  clear h
  replace H := Option.bind_eq_some_iff.mp H
  obtain ⟨t34002, A20, H⟩ := H
  replace H : (if t34002 = true then (if (l0_1.length : Int) > 16 then (protocol_Check.j0 k true a0_0 l0_1 a0_2 a0_3 l0_4) else (protocol_Check.j0 k (decide ((l0_4.length : Int) > 256)) a0_0 l0_1 a0_2 a0_3 l0_4)) else (some 5)) = some r := H
  have A2 := Aside0.mk A20
  clear A20
  by_cases c3 : t34002 = true
  · subst c3
    have H1 : (if (l0_1.length : Int) > 16 then (protocol_Check.j0 k true a0_0 l0_1 a0_2 a0_3 l0_4) else (protocol_Check.j0 k (decide ((l0_4.length : Int) > 256)) a0_0 l0_1 a0_2 a0_3 l0_4)) = some r := by rw [if_pos rfl] at H; exact H
    clear H
    have H := H1
    clear H1
    have HC4 := Aside0.mk H
    clear H
    go_enter Tryd.func33, Tryd.ntmps33
    go_upto_region 3 with (first | ((with_reducible refine gate_dst (N := 1) rfl ?_); (try (refine gate_guard (by rfl) ?_; dsimp only)); refine box_event ?hg (N := 1) ?hd (cs := #[.string a0_0, .slice A0_1 l0_1.length c0_1, .int .i64 a0_2, .int .i64 a0_3, .slice A0_4 l0_4.length c0_4]) (t := 35) ?hr ?_; (case hd => rfl); (case hg => rfl); (case hr => first | (go_simp; done) | (go_simp; rfl)); intro gb34001 hg w5 hbox hb; have n0_ := Aside0.mk (below_step (by repeat (first | (with_reducible first | exact HB.out | apply below_alloc | apply pw_below_drewN | apply below_drew1) | exact HB.out)) hb); have n1_ := Aside0.mk (hbox); have n2_ := Aside0.mk ((by rw [hg]; exact (below_size (by repeat (first | (with_reducible first | exact HB.out | apply below_alloc | apply pw_below_drewN | apply below_drew1) | exact HB.out))) : w.heap.size ≤ gb34001)); have n3_ := Aside0.mk ((by rw [hg]; exact (below_size (by repeat (first | (with_reducible first | exact HB.out | apply below_alloc | apply pw_below_drewN | apply below_drew1) | exact HB.out))) : w.heap.size ≤ gb34001)); clear HB; have HB := n0_; have BK34001 := n1_; have GW34001 := n2_; have GE34001 := n3_; clear n0_ n1_ n2_ n3_; clear hb hbox hg; have hcz6_0 : w5.cell? ⟨gb34001, 0, none⟩ = some (.string a0_0) := (blk_cell BK34001.out 0).trans rfl; have hcz6_1 : w5.cell? ⟨gb34001, 1, none⟩ = some (.slice A0_1 l0_1.length c0_1) := (blk_cell BK34001.out 1).trans rfl; have hcz6_2 : w5.cell? ⟨gb34001, 2, none⟩ = some (.int .i64 a0_2) := (blk_cell BK34001.out 2).trans rfl; have hcz6_3 : w5.cell? ⟨gb34001, 3, none⟩ = some (.int .i64 a0_3) := (blk_cell BK34001.out 3).trans rfl; have hcz6_4 : w5.cell? ⟨gb34001, 4, none⟩ = some (.slice A0_4 l0_4.length c0_4) := (blk_cell BK34001.out 4).trans rfl; have hfz6_0 := blk_frozen BK34001.out 0; have hfz6_1 := blk_frozen BK34001.out 1; have hfz6_2 := blk_frozen BK34001.out 2; have hfz6_3 := blk_frozen BK34001.out 3; have hfz6_4 := blk_frozen BK34001.out 4) | ((with_reducible refine gate_callee (f := 17) rfl ?_); refine goesL_ (some 7) rfl rfl Tryd.func17 (by kernel_rfl) rfl #[.string a0_0] rfl (by (try simp only [List.map_toArray, List.map_cons, List.map_nil]); first | done | rfl | (simp only [List.length_drop, List.length_take]; rfl)) ?_; (with_reducible refine (lex_Ident.calls k a0_0 true _ ?side1 A2.out).mono ?_); (case side1 => exact Gh.below HGH.out (by repeat (first | (with_reducible first | exact HB.out | apply below_alloc | apply pw_below_drewN | apply below_drew1 | refine below_set ?_ GE34001.out) | exact HB.out))); rintro e w' ⟨rfl, ⟨nd, rfl⟩⟩; refine ⟨_, rfl, ?_⟩))
    (try simp only [Act.put, List.setIfInBounds_toArray, List.set_cons_zero, List.set_cons_succ])
    go_cut [9] (fun v9 wc => ∃ (kq : Nat) (x9_3 : Bool), v9 = .bool x9_3 ∧ Aside0 (protocol_Check.j0 kq x9_3 a0_0 l0_1 a0_2 a0_3 l0_4 = some r) ∧ Aside0 (kq ≤ k) ∧ Aside0 (wc.heap[gb34001]? = some (.cells #[.string a0_0, (.slice A0_1 l0_1.length c0_1), .int .i64 a0_2, .int .i64 a0_3, (.slice A0_4 l0_4.length c0_4)] 35 (0, 0))) ∧ Aside0 (Below w.heap.size w wc))
    case first =>
      have H := HC4.out
      clear HC4
      by_cases c7 : (l0_1.length : Int) > 16
      · rw [if_pos c7] at H
        have c7b0 : decide (16 < (l0_1.length : Int)) = true := decide_eq_true c7
        have c7b1 : decide (16 < l0_1.length) = true := decide_eq_true (by omega)
        clear c7
        (first | rw [c7b0] | (simp only [i64_w, i32_w]; rw [c7b0]) | skip)
        have H' := Aside0.mk H
        clear H
        have hcz8_0 : w5.cell? ⟨gb34001, 0, none⟩ = some (.string a0_0) := (blk_cell BK34001.out 0).trans rfl
        have hcz8_1 : w5.cell? ⟨gb34001, 1, none⟩ = some (.slice A0_1 l0_1.length c0_1) := (blk_cell BK34001.out 1).trans rfl
        have hcz8_2 : w5.cell? ⟨gb34001, 2, none⟩ = some (.int .i64 a0_2) := (blk_cell BK34001.out 2).trans rfl
        have hcz8_3 : w5.cell? ⟨gb34001, 3, none⟩ = some (.int .i64 a0_3) := (blk_cell BK34001.out 3).trans rfl
        have hcz8_4 : w5.cell? ⟨gb34001, 4, none⟩ = some (.slice A0_4 l0_4.length c0_4) := (blk_cell BK34001.out 4).trans rfl
        have hfz8_0 := blk_frozen BK34001.out 0
        have hfz8_1 := blk_frozen BK34001.out 1
        have hfz8_2 := blk_frozen BK34001.out 2
        have hfz8_3 := blk_frozen BK34001.out 3
        have hfz8_4 := blk_frozen BK34001.out 4
        go_wp2
        go_meet
        case rel => exact ⟨_, (true), (by first | rfl | (simp; done) | (simp [*]; done)), H', ⟨by first | omega | exact Nat.le_refl _⟩, ⟨by (with_reducible repeat (first | refine blk_drewN ?_ _ | refine blk_drew ?_ | refine blk_alloc ?_ _)); exact BK34001.out⟩, ⟨by repeat (first | (with_reducible first | exact HB.out | apply below_alloc | apply pw_below_drewN | apply below_drew1 | refine below_set ?_ GE34001.out) | exact HB.out)⟩⟩
      · rw [if_neg c7] at H
        have c7b0 : decide (16 < (l0_1.length : Int)) = false := decide_eq_false c7
        have c7b1 : decide (16 < l0_1.length) = false := decide_eq_false (by omega)
        clear c7
        (first | rw [c7b0] | (simp only [i64_w, i32_w]; rw [c7b0]) | skip)
        have H' := Aside0.mk H
        clear H
        have hcz9_0 : w5.cell? ⟨gb34001, 0, none⟩ = some (.string a0_0) := (blk_cell BK34001.out 0).trans rfl
        have hcz9_1 : w5.cell? ⟨gb34001, 1, none⟩ = some (.slice A0_1 l0_1.length c0_1) := (blk_cell BK34001.out 1).trans rfl
        have hcz9_2 : w5.cell? ⟨gb34001, 2, none⟩ = some (.int .i64 a0_2) := (blk_cell BK34001.out 2).trans rfl
        have hcz9_3 : w5.cell? ⟨gb34001, 3, none⟩ = some (.int .i64 a0_3) := (blk_cell BK34001.out 3).trans rfl
        have hcz9_4 : w5.cell? ⟨gb34001, 4, none⟩ = some (.slice A0_4 l0_4.length c0_4) := (blk_cell BK34001.out 4).trans rfl
        have hfz9_0 := blk_frozen BK34001.out 0
        have hfz9_1 := blk_frozen BK34001.out 1
        have hfz9_2 := blk_frozen BK34001.out 2
        have hfz9_3 := blk_frozen BK34001.out 3
        have hfz9_4 := blk_frozen BK34001.out 4
        go_wp2
        go_meet
        case rel => exact ⟨_, (decide ((l0_4.length : Int) > 256)), (by first | rfl | (simp; done) | (simp [*]; done)), H', ⟨by first | omega | exact Nat.le_refl _⟩, ⟨by (with_reducible repeat (first | refine blk_drewN ?_ _ | refine blk_drew ?_ | refine blk_alloc ?_ _)); exact BK34001.out⟩, ⟨by repeat (first | (with_reducible first | exact HB.out | apply below_alloc | apply pw_below_drewN | apply below_drew1 | refine below_set ?_ GE34001.out) | exact HB.out)⟩⟩
    case rest =>
      clear HC4
      try clear c1
      try clear p2
      try clear c3
      try clear c7
      try clear c7b0
      try clear c7b1
      try clear hcz6_0
      try clear hcz6_1
      try clear hcz6_2
      try clear hcz6_3
      try clear hcz6_4
      try clear hcz8_0
      try clear hcz8_1
      try clear hcz8_2
      try clear hcz8_3
      try clear hcz8_4
      try clear hcz9_0
      try clear hcz9_1
      try clear hcz9_2
      try clear hcz9_3
      try clear hcz9_4
      try clear hfz6_0
      try clear hfz6_1
      try clear hfz6_2
      try clear hfz6_3
      try clear hfz6_4
      try clear hfz8_0
      try clear hfz8_1
      try clear hfz8_2
      try clear hfz8_3
      try clear hfz8_4
      try clear hfz9_0
      try clear hfz9_1
      try clear hfz9_2
      try clear hfz9_3
      try clear hfz9_4
      obtain ⟨kq, x9_3, rfl, HA, HJ3, BK34001, HB⟩ := hcut
      cases kq with
      | zero => exact absurd HA.out (by simp [protocol_Check.j0])
      | succ kj3 =>
        have H := HA.out
        clear HA
        simp only [protocol_Check.j0] at H
        by_cases c10 : x9_3 = true
        · subst c10
          have H1 : (some 3) = some r := by rw [if_pos rfl] at H; exact H
          clear H
          have H := H1
          clear H1
          obtain rfl := Option.some.inj H
          go_wp2
          go_ret
          exact ⟨by first | rfl | (simp [errW_none, errW_some] <;> rfl) | (simp [*, errW_none, errW_some] <;> rfl), by repeat (first | (with_reducible first | exact HB.out | apply below_alloc | apply pw_below_drewN | apply below_drew1 | refine below_set ?_ GE34001.out) | exact HB.out)⟩
        · replace c10 := Bool.eq_false_iff.mpr c10
          subst c10
          have H1 : (if (l0_1.length : Int) = 0 then (some 4) else ((protocol_checkStates.f kj3 l0_1).bind fun t34003 => (if t34003 = 0 then ((protocol_in.f a0_0 l0_1 a0_2 a0_3 l0_4 a0_2).bind fun t34004 => (if t34004 = true then ((protocol_in.f a0_0 l0_1 a0_2 a0_3 l0_4 a0_3).bind fun t34005 => (protocol_Check.j1 kj3 (!t34005) a0_0 l0_1 a0_2 a0_3 l0_4)) else (protocol_Check.j1 kj3 true a0_0 l0_1 a0_2 a0_3 l0_4))) else (some t34003)))) = some r := by rw [if_neg (show ¬ (false = true) by decide)] at H; exact H
          clear H
          have H := H1
          clear H1
          by_cases c11 : (l0_1.length : Int) = 0
          · rw [if_pos c11] at H
            have c11b0 : ((l0_1.length : Int) == 0) = true := beq_iff_eq.mpr c11
            have c11b1 : ((l0_1.length : Int) != 0) = false := bne_eq_false_iff_eq.mpr c11
            clear c11
            obtain rfl := Option.some.inj H
            have hcz12_0 : wc.cell? ⟨gb34001, 0, none⟩ = some (.string a0_0) := (blk_cell BK34001.out 0).trans rfl
            have hcz12_1 : wc.cell? ⟨gb34001, 1, none⟩ = some (.slice A0_1 l0_1.length c0_1) := (blk_cell BK34001.out 1).trans rfl
            have hcz12_2 : wc.cell? ⟨gb34001, 2, none⟩ = some (.int .i64 a0_2) := (blk_cell BK34001.out 2).trans rfl
            have hcz12_3 : wc.cell? ⟨gb34001, 3, none⟩ = some (.int .i64 a0_3) := (blk_cell BK34001.out 3).trans rfl
            have hcz12_4 : wc.cell? ⟨gb34001, 4, none⟩ = some (.slice A0_4 l0_4.length c0_4) := (blk_cell BK34001.out 4).trans rfl
            have hfz12_0 := blk_frozen BK34001.out 0
            have hfz12_1 := blk_frozen BK34001.out 1
            have hfz12_2 := blk_frozen BK34001.out 2
            have hfz12_3 := blk_frozen BK34001.out 3
            have hfz12_4 := blk_frozen BK34001.out 4
            go_wp2
            go_ret
            exact ⟨by first | rfl | (simp [errW_none, errW_some] <;> rfl) | (simp [*, errW_none, errW_some] <;> rfl), by repeat (first | (with_reducible first | exact HB.out | apply below_alloc | apply pw_below_drewN | apply below_drew1 | refine below_set ?_ GE34001.out) | exact HB.out)⟩
          · rw [if_neg c11] at H
            have c11b0 : ((l0_1.length : Int) == 0) = false := beq_eq_false_iff_ne.mpr c11
            have c11b1 : ((l0_1.length : Int) != 0) = true := bne_iff_ne.mpr c11
            have c11b2 : ¬ (l0_1 = []) := fun h_ => c11 (by rw [h_]; rfl)
            replace H := Option.bind_eq_some_iff.mp H
            obtain ⟨t34003, A130, H⟩ := H
            replace H : (if t34003 = 0 then ((protocol_in.f a0_0 l0_1 a0_2 a0_3 l0_4 a0_2).bind fun t34004 => (if t34004 = true then ((protocol_in.f a0_0 l0_1 a0_2 a0_3 l0_4 a0_3).bind fun t34005 => (protocol_Check.j1 kj3 (!t34005) a0_0 l0_1 a0_2 a0_3 l0_4)) else (protocol_Check.j1 kj3 true a0_0 l0_1 a0_2 a0_3 l0_4))) else (some t34003)) = some r := H
            have A13 := Aside0.mk A130
            clear A130
            by_cases c14 : t34003 = 0
            · rw [if_pos c14] at H
              have c14b0 : (t34003 == 0) = true := beq_iff_eq.mpr c14
              have c14b1 : (t34003 != 0) = false := bne_eq_false_iff_eq.mpr c14
              clear c14
              have HC15 := Aside0.mk H
              clear H
              have hcz16_0 : wc.cell? ⟨gb34001, 0, none⟩ = some (.string a0_0) := (blk_cell BK34001.out 0).trans rfl
              have hcz16_1 : wc.cell? ⟨gb34001, 1, none⟩ = some (.slice A0_1 l0_1.length c0_1) := (blk_cell BK34001.out 1).trans rfl
              have hcz16_2 : wc.cell? ⟨gb34001, 2, none⟩ = some (.int .i64 a0_2) := (blk_cell BK34001.out 2).trans rfl
              have hcz16_3 : wc.cell? ⟨gb34001, 3, none⟩ = some (.int .i64 a0_3) := (blk_cell BK34001.out 3).trans rfl
              have hcz16_4 : wc.cell? ⟨gb34001, 4, none⟩ = some (.slice A0_4 l0_4.length c0_4) := (blk_cell BK34001.out 4).trans rfl
              have hfz16_0 := blk_frozen BK34001.out 0
              have hfz16_1 := blk_frozen BK34001.out 1
              have hfz16_2 := blk_frozen BK34001.out 2
              have hfz16_3 := blk_frozen BK34001.out 3
              have hfz16_4 := blk_frozen BK34001.out 4
              go_upto_region 10 with (first | ((with_reducible refine gate_callee (f := 55) rfl ?_); refine goesL_ (some 27) rfl rfl Tryd.func55 (by kernel_rfl) rfl #[.slice A0_1 l0_1.length c0_1] rfl (by (try simp only [List.map_toArray, List.map_cons, List.map_nil]); first | done | rfl | (simp only [List.length_drop, List.length_take]; rfl)) ?_; (with_reducible refine (protocol_checkStates.calls kj3 _ _ l0_1 t34003 _ ?side1 ?side2 ?side3 A13.out).mono ?_); (case side1 => repeat (first | exact (Kd.C_below HR0_1.out HB.out) | (with_reducible refine Kd.C_alloc ?_ _) | (with_reducible refine Kd.C_drewN ?_ _) | (with_reducible refine Kd.C_drew ?_))); (case side2 => exact HC0_1.out); (case side3 => exact Gh.below HGH.out (by repeat (first | (with_reducible first | exact HB.out | apply below_alloc | apply pw_below_drewN | apply below_drew1 | refine below_set ?_ GE34001.out) | exact HB.out))); rintro e w' ⟨rfl, ⟨nd, rfl⟩⟩; refine ⟨_, rfl, ?_⟩))
              (try simp only [Act.put, List.setIfInBounds_toArray, List.set_cons_zero, List.set_cons_succ])
              go_cut [31] (fun v31 wc => ∃ (kq : Nat) (x31_14 : Bool), v31 = .bool x31_14 ∧ Aside0 (protocol_Check.j1 kq x31_14 a0_0 l0_1 a0_2 a0_3 l0_4 = some r) ∧ Aside0 (kq ≤ kj3) ∧ Aside0 (wc.heap[gb34001]? = some (.cells #[.string a0_0, (.slice A0_1 l0_1.length c0_1), .int .i64 a0_2, .int .i64 a0_3, (.slice A0_4 l0_4.length c0_4)] 35 (0, 0))) ∧ Aside0 (Below w.heap.size w wc))
              case first =>
                have H := HC15.out
                clear HC15
                replace H := Option.bind_eq_some_iff.mp H
                obtain ⟨t34004, A170, H⟩ := H
                replace H : (if t34004 = true then ((protocol_in.f a0_0 l0_1 a0_2 a0_3 l0_4 a0_3).bind fun t34005 => (protocol_Check.j1 kj3 (!t34005) a0_0 l0_1 a0_2 a0_3 l0_4)) else (protocol_Check.j1 kj3 true a0_0 l0_1 a0_2 a0_3 l0_4)) = some r := H
                have A17 := Aside0.mk A170
                clear A170
                by_cases c18 : t34004 = true
                · subst c18
                  have H1 : ((protocol_in.f a0_0 l0_1 a0_2 a0_3 l0_4 a0_3).bind fun t34005 => (protocol_Check.j1 kj3 (!t34005) a0_0 l0_1 a0_2 a0_3 l0_4)) = some r := by rw [if_pos rfl] at H; exact H
                  clear H
                  have H := H1
                  clear H1
                  replace H := Option.bind_eq_some_iff.mp H
                  obtain ⟨t34005, A190, H⟩ := H
                  replace H : (protocol_Check.j1 kj3 (!t34005) a0_0 l0_1 a0_2 a0_3 l0_4) = some r := H
                  have A19 := Aside0.mk A190
                  clear A190
                  have H' := Aside0.mk H
                  clear H
                  have hcz20_0 : wc.cell? ⟨gb34001, 0, none⟩ = some (.string a0_0) := (blk_cell BK34001.out 0).trans rfl
                  have hcz20_1 : wc.cell? ⟨gb34001, 1, none⟩ = some (.slice A0_1 l0_1.length c0_1) := (blk_cell BK34001.out 1).trans rfl
                  have hcz20_2 : wc.cell? ⟨gb34001, 2, none⟩ = some (.int .i64 a0_2) := (blk_cell BK34001.out 2).trans rfl
                  have hcz20_3 : wc.cell? ⟨gb34001, 3, none⟩ = some (.int .i64 a0_3) := (blk_cell BK34001.out 3).trans rfl
                  have hcz20_4 : wc.cell? ⟨gb34001, 4, none⟩ = some (.slice A0_4 l0_4.length c0_4) := (blk_cell BK34001.out 4).trans rfl
                  have hfz20_0 := blk_frozen BK34001.out 0
                  have hfz20_1 := blk_frozen BK34001.out 1
                  have hfz20_2 := blk_frozen BK34001.out 2
                  have hfz20_3 := blk_frozen BK34001.out 3
                  have hfz20_4 := blk_frozen BK34001.out 4
                  go_wp2_with (first | ((with_reducible refine gate_callee (f := 51) rfl ?_); refine goesL_ (some 35) rfl rfl Tryd.func51 (by kernel_rfl) rfl #[.agg #[.string a0_0, .slice A0_1 l0_1.length c0_1, .int .i64 a0_2, .int .i64 a0_3, .slice A0_4 l0_4.length c0_4], .int .i64 a0_2] rfl (by (try simp only [List.map_toArray, List.map_cons, List.map_nil]); first | done | rfl | (simp only [List.length_drop, List.length_take]; rfl)) ?_; (with_reducible refine (protocol_in.calls a0_0 _ _ l0_1 a0_2 a0_3 _ _ l0_4 a0_2 true _ ?side1 ?side2 ?side3 ?side4 A17.out).mono ?_); (case side1 => repeat (first | exact (Kd.C_below HR0_1.out HB.out) | (with_reducible refine Kd.C_alloc ?_ _) | (with_reducible refine Kd.C_drewN ?_ _) | (with_reducible refine Kd.C_drew ?_))); (case side2 => exact HC0_1.out); (case side3 => repeat (first | exact (Kd.C_below HR0_4.out HB.out) | (with_reducible refine Kd.C_alloc ?_ _) | (with_reducible refine Kd.C_drewN ?_ _) | (with_reducible refine Kd.C_drew ?_))); (case side4 => exact HC0_4.out); rintro e w21 ⟨rfl, hb⟩; refine ⟨_, rfl, ?_⟩; have n0_ := Aside0.mk (blk_below (g := gb34001) (o := .cells #[.string a0_0, .slice A0_1 l0_1.length c0_1, .int .i64 a0_2, .int .i64 a0_3, .slice A0_4 l0_4.length c0_4] 35 (0, 0)) (by (with_reducible repeat (first | refine blk_drewN ?_ _ | refine blk_drew ?_ | refine blk_alloc ?_ _)); exact BK34001.out) hb); have n1_ := Aside0.mk (below_step (by repeat (first | (with_reducible first | exact HB.out | apply below_alloc | apply pw_below_drewN | apply below_drew1 | refine below_set ?_ GE34001.out) | exact HB.out)) hb); clear BK34001; clear HB; have BK34001 := n0_; have HB := n1_; clear n0_ n1_; (try clear hb); (try clear hb2); (try clear hk); (try clear hi); have hcz22_0 : w21.cell? ⟨gb34001, 0, none⟩ = some (.string a0_0) := (blk_cell BK34001.out 0).trans rfl; have hcz22_1 : w21.cell? ⟨gb34001, 1, none⟩ = some (.slice A0_1 l0_1.length c0_1) := (blk_cell BK34001.out 1).trans rfl; have hcz22_2 : w21.cell? ⟨gb34001, 2, none⟩ = some (.int .i64 a0_2) := (blk_cell BK34001.out 2).trans rfl; have hcz22_3 : w21.cell? ⟨gb34001, 3, none⟩ = some (.int .i64 a0_3) := (blk_cell BK34001.out 3).trans rfl; have hcz22_4 : w21.cell? ⟨gb34001, 4, none⟩ = some (.slice A0_4 l0_4.length c0_4) := (blk_cell BK34001.out 4).trans rfl; have hfz22_0 := blk_frozen BK34001.out 0; have hfz22_1 := blk_frozen BK34001.out 1; have hfz22_2 := blk_frozen BK34001.out 2; have hfz22_3 := blk_frozen BK34001.out 3; have hfz22_4 := blk_frozen BK34001.out 4) | (go_at_call 51; (with_reducible refine (protocol_in.calls a0_0 _ _ l0_1 a0_2 a0_3 _ _ l0_4 a0_3 t34005 _ ?side1 ?side2 ?side3 ?side4 A19.out).mono ?_); (case side1 => repeat (first | exact (Kd.C_below HR0_1.out HB.out) | (with_reducible refine Kd.C_alloc ?_ _) | (with_reducible refine Kd.C_drewN ?_ _) | (with_reducible refine Kd.C_drew ?_))); (case side2 => exact HC0_1.out); (case side3 => repeat (first | exact (Kd.C_below HR0_4.out HB.out) | (with_reducible refine Kd.C_alloc ?_ _) | (with_reducible refine Kd.C_drewN ?_ _) | (with_reducible refine Kd.C_drew ?_))); (case side4 => exact HC0_4.out); rintro e w23 ⟨rfl, hb⟩; have n0_ := Aside0.mk (blk_below (g := gb34001) (o := .cells #[.string a0_0, .slice A0_1 l0_1.length c0_1, .int .i64 a0_2, .int .i64 a0_3, .slice A0_4 l0_4.length c0_4] 35 (0, 0)) (by (with_reducible repeat (first | refine blk_drewN ?_ _ | refine blk_drew ?_ | refine blk_alloc ?_ _)); exact BK34001.out) hb); have n1_ := Aside0.mk (below_step (by repeat (first | (with_reducible first | exact HB.out | apply below_alloc | apply pw_below_drewN | apply below_drew1 | refine below_set ?_ GE34001.out) | exact HB.out)) hb); clear BK34001; clear HB; have BK34001 := n0_; have HB := n1_; clear n0_ n1_; (try clear hb); (try clear hb2); (try clear hk); (try clear hi)))
                  go_meet
                  case rel => exact ⟨_, (!t34005), (by first | rfl | (simp; done) | (simp [*]; done)), H', ⟨by have := HJ3.out; first | omega | exact Nat.le_refl _⟩, ⟨by (with_reducible repeat (first | refine blk_drewN ?_ _ | refine blk_drew ?_ | refine blk_alloc ?_ _)); exact BK34001.out⟩, ⟨by repeat (first | (with_reducible first | exact HB.out | apply below_alloc | apply pw_below_drewN | apply below_drew1 | refine below_set ?_ GE34001.out) | exact HB.out)⟩⟩
                · replace c18 := Bool.eq_false_iff.mpr c18
                  subst c18
                  have H1 : (protocol_Check.j1 kj3 true a0_0 l0_1 a0_2 a0_3 l0_4) = some r := by rw [if_neg (show ¬ (false = true) by decide)] at H; exact H
                  clear H
                  have H := H1
                  clear H1
                  have H' := Aside0.mk H
                  clear H
                  have hcz24_0 : wc.cell? ⟨gb34001, 0, none⟩ = some (.string a0_0) := (blk_cell BK34001.out 0).trans rfl
                  have hcz24_1 : wc.cell? ⟨gb34001, 1, none⟩ = some (.slice A0_1 l0_1.length c0_1) := (blk_cell BK34001.out 1).trans rfl
                  have hcz24_2 : wc.cell? ⟨gb34001, 2, none⟩ = some (.int .i64 a0_2) := (blk_cell BK34001.out 2).trans rfl
                  have hcz24_3 : wc.cell? ⟨gb34001, 3, none⟩ = some (.int .i64 a0_3) := (blk_cell BK34001.out 3).trans rfl
                  have hcz24_4 : wc.cell? ⟨gb34001, 4, none⟩ = some (.slice A0_4 l0_4.length c0_4) := (blk_cell BK34001.out 4).trans rfl
                  have hfz24_0 := blk_frozen BK34001.out 0
                  have hfz24_1 := blk_frozen BK34001.out 1
                  have hfz24_2 := blk_frozen BK34001.out 2
                  have hfz24_3 := blk_frozen BK34001.out 3
                  have hfz24_4 := blk_frozen BK34001.out 4
                  go_wp2_with (first | ((with_reducible refine gate_callee (f := 51) rfl ?_); refine goesL_ (some 35) rfl rfl Tryd.func51 (by kernel_rfl) rfl #[.agg #[.string a0_0, .slice A0_1 l0_1.length c0_1, .int .i64 a0_2, .int .i64 a0_3, .slice A0_4 l0_4.length c0_4], .int .i64 a0_2] rfl (by (try simp only [List.map_toArray, List.map_cons, List.map_nil]); first | done | rfl | (simp only [List.length_drop, List.length_take]; rfl)) ?_; (with_reducible refine (protocol_in.calls a0_0 _ _ l0_1 a0_2 a0_3 _ _ l0_4 a0_2 false _ ?side1 ?side2 ?side3 ?side4 A17.out).mono ?_); (case side1 => repeat (first | exact (Kd.C_below HR0_1.out HB.out) | (with_reducible refine Kd.C_alloc ?_ _) | (with_reducible refine Kd.C_drewN ?_ _) | (with_reducible refine Kd.C_drew ?_))); (case side2 => exact HC0_1.out); (case side3 => repeat (first | exact (Kd.C_below HR0_4.out HB.out) | (with_reducible refine Kd.C_alloc ?_ _) | (with_reducible refine Kd.C_drewN ?_ _) | (with_reducible refine Kd.C_drew ?_))); (case side4 => exact HC0_4.out); rintro e w25 ⟨rfl, hb⟩; refine ⟨_, rfl, ?_⟩; have n0_ := Aside0.mk (blk_below (g := gb34001) (o := .cells #[.string a0_0, .slice A0_1 l0_1.length c0_1, .int .i64 a0_2, .int .i64 a0_3, .slice A0_4 l0_4.length c0_4] 35 (0, 0)) (by (with_reducible repeat (first | refine blk_drewN ?_ _ | refine blk_drew ?_ | refine blk_alloc ?_ _)); exact BK34001.out) hb); have n1_ := Aside0.mk (below_step (by repeat (first | (with_reducible first | exact HB.out | apply below_alloc | apply pw_below_drewN | apply below_drew1 | refine below_set ?_ GE34001.out) | exact HB.out)) hb); clear BK34001; clear HB; have BK34001 := n0_; have HB := n1_; clear n0_ n1_; (try clear hb); (try clear hb2); (try clear hk); (try clear hi)))
                  go_meet
                  case rel => exact ⟨_, (true), (by first | rfl | (simp; done) | (simp [*]; done)), H', ⟨by have := HJ3.out; first | omega | exact Nat.le_refl _⟩, ⟨by (with_reducible repeat (first | refine blk_drewN ?_ _ | refine blk_drew ?_ | refine blk_alloc ?_ _)); exact BK34001.out⟩, ⟨by repeat (first | (with_reducible first | exact HB.out | apply below_alloc | apply pw_below_drewN | apply below_drew1 | refine below_set ?_ GE34001.out) | exact HB.out)⟩⟩
              case rest =>
                clear HC15
                try clear c1
                try clear p2
                try clear c3
                try clear c5
                try clear c7
                try clear c7b0
                try clear c7b1
                try clear c10
                try clear c11
                try clear c11b0
                try clear c11b1
                try clear c11b2
                try clear c14
                try clear c14b0
                try clear c14b1
                try clear c17
                try clear c18
                try clear hcz12_0
                try clear hcz12_1
                try clear hcz12_2
                try clear hcz12_3
                try clear hcz12_4
                try clear hcz16_0
                try clear hcz16_1
                try clear hcz16_2
                try clear hcz16_3
                try clear hcz16_4
                try clear hcz20_0
                try clear hcz20_1
                try clear hcz20_2
                try clear hcz20_3
                try clear hcz20_4
                try clear hcz22_0
                try clear hcz22_1
                try clear hcz22_2
                try clear hcz22_3
                try clear hcz22_4
                try clear hcz24_0
                try clear hcz24_1
                try clear hcz24_2
                try clear hcz24_3
                try clear hcz24_4
                try clear hcz6_0
                try clear hcz6_1
                try clear hcz6_2
                try clear hcz6_3
                try clear hcz6_4
                try clear hcz8_0
                try clear hcz8_1
                try clear hcz8_2
                try clear hcz8_3
                try clear hcz8_4
                try clear hcz9_0
                try clear hcz9_1
                try clear hcz9_2
                try clear hcz9_3
                try clear hcz9_4
                try clear hfz12_0
                try clear hfz12_1
                try clear hfz12_2
                try clear hfz12_3
                try clear hfz12_4
                try clear hfz16_0
                try clear hfz16_1
                try clear hfz16_2
                try clear hfz16_3
                try clear hfz16_4
                try clear hfz20_0
                try clear hfz20_1
                try clear hfz20_2
                try clear hfz20_3
                try clear hfz20_4
                try clear hfz22_0
                try clear hfz22_1
                try clear hfz22_2
                try clear hfz22_3
                try clear hfz22_4
                try clear hfz24_0
                try clear hfz24_1
                try clear hfz24_2
                try clear hfz24_3
                try clear hfz24_4
                try clear hfz6_0
                try clear hfz6_1
                try clear hfz6_2
                try clear hfz6_3
                try clear hfz6_4
                try clear hfz8_0
                try clear hfz8_1
                try clear hfz8_2
                try clear hfz8_3
                try clear hfz8_4
                try clear hfz9_0
                try clear hfz9_1
                try clear hfz9_2
                try clear hfz9_3
                try clear hfz9_4
                try clear p2
                obtain ⟨kq, x31_14, rfl, HA, HJ14, BK34001, HB⟩ := hcut
                cases kq with
                | zero => exact absurd HA.out (by simp [protocol_Check.j1])
                | succ kj14 =>
                  have H := HA.out
                  clear HA
                  simp only [protocol_Check.j1] at H
                  by_cases c26 : x31_14 = true
                  · subst c26
                    have H1 : (some 4) = some r := by rw [if_pos rfl] at H; exact H
                    clear H
                    have H := H1
                    clear H1
                    obtain rfl := Option.some.inj H
                    go_wp2
                    go_ret
                    exact ⟨by first | rfl | (simp [errW_none, errW_some] <;> rfl) | (simp [*, errW_none, errW_some] <;> rfl), by repeat (first | (with_reducible first | exact HB.out | apply below_alloc | apply pw_below_drewN | apply below_drew1 | refine below_set ?_ GE34001.out) | exact HB.out)⟩
                  · replace c26 := Bool.eq_false_iff.mpr c26
                    subst c26
                    have H1 : (if a0_2 = a0_3 then (some 1) else ((protocol_checkMoves.f kj14 a0_0 l0_1 a0_2 a0_3 l0_4).bind fun t34006 => (some t34006))) = some r := by rw [if_neg (show ¬ (false = true) by decide)] at H; exact H
                    clear H
                    have H := H1
                    clear H1
                    by_cases c27 : a0_2 = a0_3
                    · rw [if_pos c27] at H
                      have c27b0 : (a0_2 == a0_3) = true := beq_iff_eq.mpr c27
                      have c27b1 : (a0_2 != a0_3) = false := bne_eq_false_iff_eq.mpr c27
                      clear c27
                      obtain rfl := Option.some.inj H
                      have hcz28_0 : wc.cell? ⟨gb34001, 0, none⟩ = some (.string a0_0) := (blk_cell BK34001.out 0).trans rfl
                      have hcz28_1 : wc.cell? ⟨gb34001, 1, none⟩ = some (.slice A0_1 l0_1.length c0_1) := (blk_cell BK34001.out 1).trans rfl
                      have hcz28_2 : wc.cell? ⟨gb34001, 2, none⟩ = some (.int .i64 a0_2) := (blk_cell BK34001.out 2).trans rfl
                      have hcz28_3 : wc.cell? ⟨gb34001, 3, none⟩ = some (.int .i64 a0_3) := (blk_cell BK34001.out 3).trans rfl
                      have hcz28_4 : wc.cell? ⟨gb34001, 4, none⟩ = some (.slice A0_4 l0_4.length c0_4) := (blk_cell BK34001.out 4).trans rfl
                      have hfz28_0 := blk_frozen BK34001.out 0
                      have hfz28_1 := blk_frozen BK34001.out 1
                      have hfz28_2 := blk_frozen BK34001.out 2
                      have hfz28_3 := blk_frozen BK34001.out 3
                      have hfz28_4 := blk_frozen BK34001.out 4
                      go_wp2
                      go_ret
                      exact ⟨by first | rfl | (simp [errW_none, errW_some] <;> rfl) | (simp [*, errW_none, errW_some] <;> rfl), by repeat (first | (with_reducible first | exact HB.out | apply below_alloc | apply pw_below_drewN | apply below_drew1 | refine below_set ?_ GE34001.out) | exact HB.out)⟩
                    · rw [if_neg c27] at H
                      have c27b0 : (a0_2 == a0_3) = false := beq_eq_false_iff_ne.mpr c27
                      have c27b1 : (a0_2 != a0_3) = true := bne_iff_ne.mpr c27
                      replace H := Option.bind_eq_some_iff.mp H
                      obtain ⟨t34006, A290, H⟩ := H
                      replace H : (some t34006) = some r := H
                      have A29 := Aside0.mk A290
                      clear A290
                      obtain rfl := Option.some.inj H
                      have hcz30_0 : wc.cell? ⟨gb34001, 0, none⟩ = some (.string a0_0) := (blk_cell BK34001.out 0).trans rfl
                      have hcz30_1 : wc.cell? ⟨gb34001, 1, none⟩ = some (.slice A0_1 l0_1.length c0_1) := (blk_cell BK34001.out 1).trans rfl
                      have hcz30_2 : wc.cell? ⟨gb34001, 2, none⟩ = some (.int .i64 a0_2) := (blk_cell BK34001.out 2).trans rfl
                      have hcz30_3 : wc.cell? ⟨gb34001, 3, none⟩ = some (.int .i64 a0_3) := (blk_cell BK34001.out 3).trans rfl
                      have hcz30_4 : wc.cell? ⟨gb34001, 4, none⟩ = some (.slice A0_4 l0_4.length c0_4) := (blk_cell BK34001.out 4).trans rfl
                      have hfz30_0 := blk_frozen BK34001.out 0
                      have hfz30_1 := blk_frozen BK34001.out 1
                      have hfz30_2 := blk_frozen BK34001.out 2
                      have hfz30_3 := blk_frozen BK34001.out 3
                      have hfz30_4 := blk_frozen BK34001.out 4
                      go_wp2_with (first | ((with_reducible refine gate_callee (f := 56) rfl ?_); refine goesL_ (some 51) rfl rfl Tryd.func56 (by kernel_rfl) rfl #[.agg #[.string a0_0, .slice A0_1 l0_1.length c0_1, .int .i64 a0_2, .int .i64 a0_3, .slice A0_4 l0_4.length c0_4]] rfl (by (try simp only [List.map_toArray, List.map_cons, List.map_nil]); first | done | rfl | (simp only [List.length_drop, List.length_take]; rfl)) ?_; (with_reducible refine (protocol_checkMoves.calls kj14 a0_0 _ _ l0_1 a0_2 a0_3 _ _ l0_4 t34006 _ ?side1 ?side2 ?side3 ?side4 ?side5 A29.out).mono ?_); (case side1 => repeat (first | exact (Kd.C_below HR0_1.out HB.out) | (with_reducible refine Kd.C_alloc ?_ _) | (with_reducible refine Kd.C_drewN ?_ _) | (with_reducible refine Kd.C_drew ?_))); (case side2 => exact HC0_1.out); (case side3 => repeat (first | exact (Kd.C_below HR0_4.out HB.out) | (with_reducible refine Kd.C_alloc ?_ _) | (with_reducible refine Kd.C_drewN ?_ _) | (with_reducible refine Kd.C_drew ?_))); (case side4 => exact HC0_4.out); (case side5 => exact Gh.below HGH.out (by repeat (first | (with_reducible first | exact HB.out | apply below_alloc | apply pw_below_drewN | apply below_drew1 | refine below_set ?_ GE34001.out) | exact HB.out))); rintro e w31 ⟨rfl, hb⟩; refine ⟨_, rfl, ?_⟩; have n0_ := Aside0.mk (blk_below (g := gb34001) (o := .cells #[.string a0_0, .slice A0_1 l0_1.length c0_1, .int .i64 a0_2, .int .i64 a0_3, .slice A0_4 l0_4.length c0_4] 35 (0, 0)) (by (with_reducible repeat (first | refine blk_drewN ?_ _ | refine blk_drew ?_ | refine blk_alloc ?_ _)); exact BK34001.out) hb); have n1_ := Aside0.mk (below_step (by repeat (first | (with_reducible first | exact HB.out | apply below_alloc | apply pw_below_drewN | apply below_drew1 | refine below_set ?_ GE34001.out) | exact HB.out)) hb); clear BK34001; clear HB; have BK34001 := n0_; have HB := n1_; clear n0_ n1_; (try clear hb); (try clear hb2); (try clear hk); (try clear hi)))
                      go_ret
                      exact ⟨by first | rfl | (simp [errW_none, errW_some] <;> rfl) | (simp [*, errW_none, errW_some] <;> rfl), by repeat (first | (with_reducible first | exact HB.out | apply below_alloc | apply pw_below_drewN | apply below_drew1 | refine below_set ?_ GE34001.out) | exact HB.out)⟩
            · rw [if_neg c14] at H
              have c14b0 : (t34003 == 0) = false := beq_eq_false_iff_ne.mpr c14
              have c14b1 : (t34003 != 0) = true := bne_iff_ne.mpr c14
              obtain rfl := Option.some.inj H
              have hcz32_0 : wc.cell? ⟨gb34001, 0, none⟩ = some (.string a0_0) := (blk_cell BK34001.out 0).trans rfl
              have hcz32_1 : wc.cell? ⟨gb34001, 1, none⟩ = some (.slice A0_1 l0_1.length c0_1) := (blk_cell BK34001.out 1).trans rfl
              have hcz32_2 : wc.cell? ⟨gb34001, 2, none⟩ = some (.int .i64 a0_2) := (blk_cell BK34001.out 2).trans rfl
              have hcz32_3 : wc.cell? ⟨gb34001, 3, none⟩ = some (.int .i64 a0_3) := (blk_cell BK34001.out 3).trans rfl
              have hcz32_4 : wc.cell? ⟨gb34001, 4, none⟩ = some (.slice A0_4 l0_4.length c0_4) := (blk_cell BK34001.out 4).trans rfl
              have hfz32_0 := blk_frozen BK34001.out 0
              have hfz32_1 := blk_frozen BK34001.out 1
              have hfz32_2 := blk_frozen BK34001.out 2
              have hfz32_3 := blk_frozen BK34001.out 3
              have hfz32_4 := blk_frozen BK34001.out 4
              go_wp2_with (first | ((with_reducible refine gate_callee (f := 55) rfl ?_); refine goesL_ (some 27) rfl rfl Tryd.func55 (by kernel_rfl) rfl #[.slice A0_1 l0_1.length c0_1] rfl (by (try simp only [List.map_toArray, List.map_cons, List.map_nil]); first | done | rfl | (simp only [List.length_drop, List.length_take]; rfl)) ?_; (with_reducible refine (protocol_checkStates.calls kj3 _ _ l0_1 t34003 _ ?side1 ?side2 ?side3 A13.out).mono ?_); (case side1 => repeat (first | exact (Kd.C_below HR0_1.out HB.out) | (with_reducible refine Kd.C_alloc ?_ _) | (with_reducible refine Kd.C_drewN ?_ _) | (with_reducible refine Kd.C_drew ?_))); (case side2 => exact HC0_1.out); (case side3 => exact Gh.below HGH.out (by repeat (first | (with_reducible first | exact HB.out | apply below_alloc | apply pw_below_drewN | apply below_drew1 | refine below_set ?_ GE34001.out) | exact HB.out))); rintro e w' ⟨rfl, ⟨nd, rfl⟩⟩; refine ⟨_, rfl, ?_⟩))
              go_ret
              exact ⟨by first | rfl | (simp [errW_none, errW_some] <;> rfl) | (simp [*, errW_none, errW_some] <;> rfl), by repeat (first | (with_reducible first | exact HB.out | apply below_alloc | apply pw_below_drewN | apply below_drew1 | refine below_set ?_ GE34001.out) | exact HB.out)⟩
  · replace c3 := Bool.eq_false_iff.mpr c3
    subst c3
    have H1 : (some 5) = some r := by rw [if_neg (show ¬ (false = true) by decide)] at H; exact H
    clear H
    have H := H1
    clear H1
    obtain rfl := Option.some.inj H
    go_enter Tryd.func33, Tryd.ntmps33
    go_wp2_with (first | ((with_reducible refine gate_dst (N := 1) rfl ?_); (try (refine gate_guard (by rfl) ?_; dsimp only)); refine box_event ?hg (N := 1) ?hd (cs := #[.string a0_0, .slice A0_1 l0_1.length c0_1, .int .i64 a0_2, .int .i64 a0_3, .slice A0_4 l0_4.length c0_4]) (t := 35) ?hr ?_; (case hd => rfl); (case hg => rfl); (case hr => first | (go_simp; done) | (go_simp; rfl)); intro gb34001 hg w33 hbox hb; have n0_ := Aside0.mk (below_step (by repeat (first | (with_reducible first | exact HB.out | apply below_alloc | apply pw_below_drewN | apply below_drew1) | exact HB.out)) hb); have n1_ := Aside0.mk (hbox); have n2_ := Aside0.mk ((by rw [hg]; exact (below_size (by repeat (first | (with_reducible first | exact HB.out | apply below_alloc | apply pw_below_drewN | apply below_drew1) | exact HB.out))) : w.heap.size ≤ gb34001)); have n3_ := Aside0.mk ((by rw [hg]; exact (below_size (by repeat (first | (with_reducible first | exact HB.out | apply below_alloc | apply pw_below_drewN | apply below_drew1) | exact HB.out))) : w.heap.size ≤ gb34001)); clear HB; have HB := n0_; have BK34001 := n1_; have GW34001 := n2_; have GE34001 := n3_; clear n0_ n1_ n2_ n3_; clear hb hbox hg; have hcz34_0 : w33.cell? ⟨gb34001, 0, none⟩ = some (.string a0_0) := (blk_cell BK34001.out 0).trans rfl; have hcz34_1 : w33.cell? ⟨gb34001, 1, none⟩ = some (.slice A0_1 l0_1.length c0_1) := (blk_cell BK34001.out 1).trans rfl; have hcz34_2 : w33.cell? ⟨gb34001, 2, none⟩ = some (.int .i64 a0_2) := (blk_cell BK34001.out 2).trans rfl; have hcz34_3 : w33.cell? ⟨gb34001, 3, none⟩ = some (.int .i64 a0_3) := (blk_cell BK34001.out 3).trans rfl; have hcz34_4 : w33.cell? ⟨gb34001, 4, none⟩ = some (.slice A0_4 l0_4.length c0_4) := (blk_cell BK34001.out 4).trans rfl; have hfz34_0 := blk_frozen BK34001.out 0; have hfz34_1 := blk_frozen BK34001.out 1; have hfz34_2 := blk_frozen BK34001.out 2; have hfz34_3 := blk_frozen BK34001.out 3; have hfz34_4 := blk_frozen BK34001.out 4) | ((with_reducible refine gate_callee (f := 17) rfl ?_); refine goesL_ (some 7) rfl rfl Tryd.func17 (by kernel_rfl) rfl #[.string a0_0] rfl (by (try simp only [List.map_toArray, List.map_cons, List.map_nil]); first | done | rfl | (simp only [List.length_drop, List.length_take]; rfl)) ?_; (with_reducible refine (lex_Ident.calls k a0_0 false _ ?side1 A2.out).mono ?_); (case side1 => exact Gh.below HGH.out (by repeat (first | (with_reducible first | exact HB.out | apply below_alloc | apply pw_below_drewN | apply below_drew1 | refine below_set ?_ GE34001.out) | exact HB.out))); rintro e w' ⟨rfl, ⟨nd, rfl⟩⟩; refine ⟨_, rfl, ?_⟩))
    go_ret
    exact ⟨by first | rfl | (simp [errW_none, errW_some] <;> rfl) | (simp [*, errW_none, errW_some] <;> rfl), by repeat (first | (with_reducible first | exact HB.out | apply below_alloc | apply pw_below_drewN | apply below_drew1 | refine below_set ?_ GE34001.out) | exact HB.out)⟩

end Go.Proofs.YthfhbdncphkdaaaDoor.H

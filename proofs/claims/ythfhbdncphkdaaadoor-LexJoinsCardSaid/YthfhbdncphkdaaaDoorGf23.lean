/- Printed by a program of this session (xprint.py, over the kit's printer): Go functions as Lean functions, each with the proof that the call does what the Lean function says. -/
import Derived.Test.YthfhbdncphkdaaaDoorG0
namespace Go.Proofs.YthfhbdncphkdaaaDoor.G
open Go.RowKit Go.Proofs.YthfhbdncphkdaaaDoorW.PrintWords Go.Proofs.YthfhbdncphkdaaaDoorW.PrintLast Go.Proofs.YthfhbdncphkdaaaDoorW.PrintMore
attribute [local go_sem] max2_int min2_int max_two min_two max_three min_three max_four min_four   -- for this text's walks alone
attribute [local go_sem] xs_gtr xs_leq xs_geq
set_option linter.unusedVariables false
set_option linter.unusedSimpArgs false

/-! ### dataflowref07_Join: function 23 -/
def dataflowref07_Join.l0 : Nat → List (S30) → ByteArray → Int → Option (ByteArray)
  | 0, _, _, _ => none
  | k + 1, x0, x3, x4 => if x4 < (x0.length : Int) then (if 0 ≤ x4 then (if ((rd_T30 x0 x4).f2).toList = ([] : List UInt8) then (dataflowref07_Join.l0 k x0 x3 (wrap64 (x4 + 1))) else (if x3.toList = ([] : List UInt8) then (if x3.size + ((rd_T30 x0 x4).f2).size ≤ 9223372036854775807 then (dataflowref07_Join.l0 k x0 (x3 ++ ((rd_T30 x0 x4).f2)) (wrap64 (x4 + 1))) else (none)) else (if x3.size + 1 ≤ 9223372036854775807 then (if (x3 ++ (⟨#[32]⟩ : ByteArray)).size + ((rd_T30 x0 x4).f2).size ≤ 9223372036854775807 then (dataflowref07_Join.l0 k x0 ((x3 ++ (⟨#[32]⟩ : ByteArray)) ++ ((rd_T30 x0 x4).f2)) (wrap64 (x4 + 1))) else (none)) else (none)))) else (none)) else (some x3)
def dataflowref07_Join.f (k : Nat) (l0 : List (S30)) : Option (ByteArray) := dataflowref07_Join.l0 k l0 (⟨#[]⟩ : ByteArray) 0
theorem dataflowref07_Join.mono_l : ∀ k, (∀ y0 y1 y2, LeO (dataflowref07_Join.l0 k y0 y1 y2) (dataflowref07_Join.l0 (k + 1) y0 y1 y2))
  | 0 => fun _ _ _ r h => by simp [dataflowref07_Join.l0] at h
  | k + 1 => by
    have ih0 := dataflowref07_Join.mono_l k
    · intro y0 y1 y2
      unfold dataflowref07_Join.l0
      repeat' first
      | (with_reducible exact ih0 _ _ _)
      | (with_reducible exact LeO.refl _)
      | (with_reducible exact LeO.none _)
      | (with_reducible refine LeO.ite ?_ ?_)
      | (with_reducible refine LeO.bind ?_ (fun _ => ?_))
      | exact ih0 _ _ _
      | exact LeO.none _
      | refine LeO.ite ?_ ?_
      | refine LeO.bind ?_ (fun _ => ?_)
theorem dataflowref07_Join.mono : ∀ a0 k, LeO (dataflowref07_Join.f k a0) (dataflowref07_Join.f (k + 1) a0) := by
  intro a0 k
  have ih0 := dataflowref07_Join.mono_l k
  unfold dataflowref07_Join.f
  repeat' first
      | (with_reducible exact ih0 _ _ _)
      | (with_reducible exact LeO.refl _)
      | (with_reducible exact LeO.none _)
      | (with_reducible refine LeO.ite ?_ ?_)
      | (with_reducible refine LeO.bind ?_ (fun _ => ?_))
      | exact ih0 _ _ _
      | exact LeO.none _
      | refine LeO.ite ?_ ?_
      | refine LeO.bind ?_ (fun _ => ?_)
set_option maxHeartbeats 8000000 in
set_option maxRecDepth 100000 in
theorem dataflowref07_Join.calls (k : Nat) (A0 : Option Addr) (c0 : Nat) (l0 : List (S30)) (r : ByteArray) (w : World) (hr0 : Kd.C k30 w A0 l0.length l0) (hc0 : l0.length ≤ c0) (h : dataflowref07_Join.f k l0 = some r) :
    Calls Tryd.prog 23 #[.slice A0 l0.length c0] w fun e w' => e = .returned (.string r) ∧ Drawn0 w w' := by
  have HR0 := Aside0.mk hr0
  have HC0 := Aside0.mk hc0
  clear hr0 hc0
  have H : (dataflowref07_Join.l0 k l0 (⟨#[]⟩ : ByteArray) 0) = some r := h
  clear h
  have H' := Aside0.mk H
  clear H
  go_enter Tryd.func23, Tryd.ntmps23
  go_wp2
  go_loopg [3, 4] k (fun kq v3 v4 w' => ∃ (x3_1 : ByteArray) (x4_1 : Int), v3 = .string x3_1 ∧ v4 = .int .i64 x4_1 ∧ Aside0 (dataflowref07_Join.l0 kq l0 x3_1 x4_1 = some r) ∧ Aside0 (kq ≤ k) ∧ Drawn0 w w')
  case atStart => exact ⟨((⟨#[]⟩ : ByteArray)), (0), (by first | rfl | (simp; done) | (simp [*]; done)), (by first | rfl | (simp; done) | (simp [*]; done)), H', ⟨Nat.le_refl _⟩, by repeat (first | exact Drawn0.refl _ | apply Drawn0.step)⟩
  case round =>
    clear H'
    obtain ⟨x3_1, x4_1, rfl, rfl, HA, HK1, ⟨m1, rfl⟩⟩ := hrel
    cases gk with
    | zero => exact absurd HA.out (by simp [dataflowref07_Join.l0])
    | succ k1 =>
      have H := HA.out
      clear HA
      simp only [dataflowref07_Join.l0] at H
      by_cases c2 : x4_1 < (l0.length : Int)
      · rw [if_pos c2] at H
        have c2b0 : decide (x4_1 < (l0.length : Int)) = true := decide_eq_true c2
        clear c2
        by_cases c3 : 0 ≤ x4_1
        · rw [if_pos c3] at H
          have c3b0 : decide (0 ≤ x4_1) = true := decide_eq_true c3
          clear c3
          by_cases c4 : ((rd_T30 l0 x4_1).f2).toList = ([] : List UInt8)
          · rw [if_pos c4] at H
            have c4b0 : (((rd_T30 l0 x4_1).f2).toList == ([] : List UInt8)) = true := beq_iff_eq.mpr c4
            have c4b1 : (((rd_T30 l0 x4_1).f2).toList != ([] : List UInt8)) = false := bne_eq_false_iff_eq.mpr c4
            clear c4
            have H' := Aside0.mk H
            clear H
            have p24001 : 0 ≤ (x4_1 : Int) := of_decide_eq_true (by first | (with_reducible assumption) | assumption)
            have q24001 : x4_1 < (l0.length : Int) := of_decide_eq_true (by first | (with_reducible assumption) | assumption)
            obtain ⟨ad24001, e24001, hx24001_0, hx24001_1, hx24001_2, hx24001_3⟩ := at_T30 HR0.out x4_1 p24001 q24001
            cases e24001
            replace p24001 := eq_true p24001
            replace q24001 := eq_true q24001
            go_wp2
            go_roundg k1
            case measure => have := HK1.out; omega
            case rel => exact ⟨(x3_1), (wrap64 (x4_1 + 1)), (by first | rfl | (simp; done) | (simp [*]; done)), (by first | rfl | (simp; done) | (simp [*]; done)), H', ⟨by have := HK1.out; omega⟩, by repeat (first | exact Drawn0.refl _ | apply Drawn0.step)⟩
          · rw [if_neg c4] at H
            have c4b0 : (((rd_T30 l0 x4_1).f2).toList == ([] : List UInt8)) = false := beq_eq_false_iff_ne.mpr c4
            have c4b1 : (((rd_T30 l0 x4_1).f2).toList != ([] : List UInt8)) = true := bne_iff_ne.mpr c4
            by_cases c5 : x3_1.toList = ([] : List UInt8)
            · rw [if_pos c5] at H
              have c5b0 : (x3_1.toList == ([] : List UInt8)) = true := beq_iff_eq.mpr c5
              have c5b1 : (x3_1.toList != ([] : List UInt8)) = false := bne_eq_false_iff_eq.mpr c5
              clear c5
              by_cases c6 : x3_1.size + ((rd_T30 l0 x4_1).f2).size ≤ 9223372036854775807
              · rw [if_pos c6] at H
                have c6b0 := eq_true c6
                have c6b1 : decide (x3_1.size + ((rd_T30 l0 x4_1).f2).size ≤ 9223372036854775807) = true := decide_eq_true c6
                try have c6b2 : (9223372036854775807 < x3_1.size + ((rd_T30 l0 x4_1).f2).size) = False := eq_false (Nat.not_lt.2 c6)
                have H' := Aside0.mk H
                clear H
                have p24001 : 0 ≤ (x4_1 : Int) := of_decide_eq_true (by first | (with_reducible assumption) | assumption)
                have q24001 : x4_1 < (l0.length : Int) := of_decide_eq_true (by first | (with_reducible assumption) | assumption)
                obtain ⟨ad24001, e24001, hx24001_0, hx24001_1, hx24001_2, hx24001_3⟩ := at_T30 HR0.out x4_1 p24001 q24001
                cases e24001
                replace p24001 := eq_true p24001
                replace q24001 := eq_true q24001
                have p24002 : 0 ≤ (x4_1 : Int) := of_decide_eq_true (by first | (with_reducible assumption) | assumption)
                have q24002 : x4_1 < (l0.length : Int) := of_decide_eq_true (by first | (with_reducible assumption) | assumption)
                obtain ⟨ad24002, e24002, hx24002_0, hx24002_1, hx24002_2, hx24002_3⟩ := at_T30 HR0.out x4_1 p24002 q24002
                obtain rfl : ad24001 = ad24002 := (by injection e24002)
                replace p24002 := eq_true p24002
                replace q24002 := eq_true q24002
                go_wp2
                go_roundg k1
                case measure => have := HK1.out; omega
                case rel => exact ⟨(x3_1 ++ ((rd_T30 l0 x4_1).f2)), (wrap64 (x4_1 + 1)), (by first | rfl | (simp; done) | (simp [*]; done)), (by first | rfl | (simp; done) | (simp [*]; done)), H', ⟨by have := HK1.out; omega⟩, by repeat (first | exact Drawn0.refl _ | apply Drawn0.step)⟩
              · rw [if_neg c6] at H
                exact absurd H (by simp)
            · rw [if_neg c5] at H
              have c5b0 : (x3_1.toList == ([] : List UInt8)) = false := beq_eq_false_iff_ne.mpr c5
              have c5b1 : (x3_1.toList != ([] : List UInt8)) = true := bne_iff_ne.mpr c5
              by_cases c7 : x3_1.size + 1 ≤ 9223372036854775807
              · rw [if_pos c7] at H
                have c7b0 := eq_true c7
                have c7b1 : decide (x3_1.size + 1 ≤ 9223372036854775807) = true := decide_eq_true c7
                try have c7b2 : (9223372036854775807 < x3_1.size + 1) = False := eq_false (Nat.not_lt.2 c7)
                by_cases c8 : (x3_1 ++ (⟨#[32]⟩ : ByteArray)).size + ((rd_T30 l0 x4_1).f2).size ≤ 9223372036854775807
                · rw [if_pos c8] at H
                  have c8b0 := eq_true c8
                  have c8b1 : decide ((x3_1 ++ (⟨#[32]⟩ : ByteArray)).size + ((rd_T30 l0 x4_1).f2).size ≤ 9223372036854775807) = true := decide_eq_true c8
                  try have c8b5 : decide (x3_1.size + 1 + ((rd_T30 l0 x4_1).f2).size ≤ 9223372036854775807) = true := decide_eq_true (by have e0_ : (x3_1 ++ (⟨#[32]⟩ : ByteArray)).size = x3_1.size + 1 := (by first | rfl | (simp only [ByteArray.size_append]; rfl)); omega)
                  try have c8b6 : (9223372036854775807 < x3_1.size + 1 + ((rd_T30 l0 x4_1).f2).size) = False := eq_false (Nat.not_lt.2 (by have e0_ : (x3_1 ++ (⟨#[32]⟩ : ByteArray)).size = x3_1.size + 1 := (by first | rfl | (simp only [ByteArray.size_append]; rfl)); omega))
                  try have c8b2 : (9223372036854775807 < (x3_1 ++ (⟨#[32]⟩ : ByteArray)).size + ((rd_T30 l0 x4_1).f2).size) = False := eq_false (Nat.not_lt.2 c8)
                  have H' := Aside0.mk H
                  clear H
                  have p24001 : 0 ≤ (x4_1 : Int) := of_decide_eq_true (by first | (with_reducible assumption) | assumption)
                  have q24001 : x4_1 < (l0.length : Int) := of_decide_eq_true (by first | (with_reducible assumption) | assumption)
                  obtain ⟨ad24001, e24001, hx24001_0, hx24001_1, hx24001_2, hx24001_3⟩ := at_T30 HR0.out x4_1 p24001 q24001
                  cases e24001
                  replace p24001 := eq_true p24001
                  replace q24001 := eq_true q24001
                  have p24003 : 0 ≤ (x4_1 : Int) := of_decide_eq_true (by first | (with_reducible assumption) | assumption)
                  have q24003 : x4_1 < (l0.length : Int) := of_decide_eq_true (by first | (with_reducible assumption) | assumption)
                  obtain ⟨ad24003, e24003, hx24003_0, hx24003_1, hx24003_2, hx24003_3⟩ := at_T30 HR0.out x4_1 p24003 q24003
                  obtain rfl : ad24001 = ad24003 := (by injection e24003)
                  replace p24003 := eq_true p24003
                  replace q24003 := eq_true q24003
                  go_wp2
                  go_roundg k1
                  case measure => have := HK1.out; omega
                  case rel => exact ⟨((x3_1 ++ (⟨#[32]⟩ : ByteArray)) ++ ((rd_T30 l0 x4_1).f2)), (wrap64 (x4_1 + 1)), (by first | rfl | (simp; done) | (simp [*]; done)), (by first | rfl | (simp; done) | (simp [*]; done)), H', ⟨by have := HK1.out; omega⟩, by repeat (first | exact Drawn0.refl _ | apply Drawn0.step)⟩
                · rw [if_neg c8] at H
                  exact absurd H (by simp)
              · rw [if_neg c7] at H
                exact absurd H (by simp)
        · rw [if_neg c3] at H
          exact absurd H (by simp)
      · rw [if_neg c2] at H
        have c2b0 : decide (x4_1 < (l0.length : Int)) = false := decide_eq_false c2
        clear c2
        obtain rfl := Option.some.inj H
        go_wp2
        go_ret
        exact ⟨by first | rfl | (simp; done) | (simp [*]; done), by repeat (first | exact Drawn0.refl _ | apply Drawn0.step)⟩

end Go.Proofs.YthfhbdncphkdaaaDoor.G

/- Printed by a program of this session (xprint.py, over the kit's printer): Go functions as Lean functions, each with the proof that the call does what the Lean function says. -/
import Derived.Test.YtnoangbidnigdaaDoorH0
import Derived.Test.YtnoangbidnigdaaDoorHf26
import Derived.Test.YtnoangbidnigdaaDoorHf27
import Derived.Test.YtnoangbidnigdaaDoorHf28
namespace Go.Proofs.YtnoangbidnigdaaDoor.H
open Go.RowKit Go.Proofs.YtnoangbidnigdaaDoorW.PrintWords Go.Proofs.YtnoangbidnigdaaDoorW.PrintLast Go.Proofs.YtnoangbidnigdaaDoorW.PrintMore
attribute [local go_sem] max2_int min2_int max_two min_two max_three min_three max_four min_four   -- for this text's walks alone
attribute [local go_sem] xs_gtr xs_leq xs_geq
set_option linter.unusedVariables false
set_option linter.unusedSimpArgs false

/-! ### dataflowref46_Check: function 9 -/
mutual
def dataflowref46_Check.j0 : Nat → Bool → Int → ByteArray → ByteArray → ByteArray → ByteArray → Option (Int)
 | 0, _, _, _, _, _, _ => none
 | k + 1, x10, x10002000, x10002001, x10002002, x10002003, x10002004 => if x10 = true then (some 12) else (if x10002001.toList = ([] : List UInt8) then (if x10002002.toList = ([] : List UInt8) then (if x10002003.toList = ([] : List UInt8) then (dataflowref46_Check.j1 k (x10002003.toList == ([42] : List UInt8)) x10002000 x10002001 x10002002 x10002003 x10002004) else ((dataflowref45_Word.f k x10002003).bind fun t10002 => (if t10002 = true then (dataflowref46_Check.j1 k (x10002003.toList == ([42] : List UInt8)) x10002000 x10002001 x10002002 x10002003 x10002004) else (dataflowref46_Check.j1 k true x10002000 x10002001 x10002002 x10002003 x10002004)))) else ((dataflowref07_Ident.f k x10002002).bind fun t10003 => (if t10003 = true then (if x10002003.toList = ([] : List UInt8) then (dataflowref46_Check.j1 k (x10002003.toList == ([42] : List UInt8)) x10002000 x10002001 x10002002 x10002003 x10002004) else ((dataflowref45_Word.f k x10002003).bind fun t10004 => (if t10004 = true then (dataflowref46_Check.j1 k (x10002003.toList == ([42] : List UInt8)) x10002000 x10002001 x10002002 x10002003 x10002004) else (dataflowref46_Check.j1 k true x10002000 x10002001 x10002002 x10002003 x10002004)))) else (dataflowref46_Check.j1 k true x10002000 x10002001 x10002002 x10002003 x10002004)))) else ((dataflowref07_Ident.f k x10002001).bind fun t10005 => (if t10005 = true then (if x10002002.toList = ([] : List UInt8) then (if x10002003.toList = ([] : List UInt8) then (dataflowref46_Check.j1 k (x10002003.toList == ([42] : List UInt8)) x10002000 x10002001 x10002002 x10002003 x10002004) else ((dataflowref45_Word.f k x10002003).bind fun t10006 => (if t10006 = true then (dataflowref46_Check.j1 k (x10002003.toList == ([42] : List UInt8)) x10002000 x10002001 x10002002 x10002003 x10002004) else (dataflowref46_Check.j1 k true x10002000 x10002001 x10002002 x10002003 x10002004)))) else ((dataflowref07_Ident.f k x10002002).bind fun t10007 => (if t10007 = true then (if x10002003.toList = ([] : List UInt8) then (dataflowref46_Check.j1 k (x10002003.toList == ([42] : List UInt8)) x10002000 x10002001 x10002002 x10002003 x10002004) else ((dataflowref45_Word.f k x10002003).bind fun t10008 => (if t10008 = true then (dataflowref46_Check.j1 k (x10002003.toList == ([42] : List UInt8)) x10002000 x10002001 x10002002 x10002003 x10002004) else (dataflowref46_Check.j1 k true x10002000 x10002001 x10002002 x10002003 x10002004)))) else (dataflowref46_Check.j1 k true x10002000 x10002001 x10002002 x10002003 x10002004)))) else (dataflowref46_Check.j1 k true x10002000 x10002001 x10002002 x10002003 x10002004))))
def dataflowref46_Check.j1 : Nat → Bool → Int → ByteArray → ByteArray → ByteArray → ByteArray → Option (Int)
 | 0, _, _, _, _, _, _ => none
 | k + 1, x46, x10002000, x10002001, x10002002, x10002003, x10002004 => if x46 = true then (some 5) else ((dataflowref46_reason.f k x10002004).bind fun t10009 => (if t10009 = true then (some 0) else (some 23)))
end
def dataflowref46_Check.f (k : Nat) (a0_0 : Int) (a0_1 : ByteArray) (a0_2 : ByteArray) (a0_3 : ByteArray) (a0_4 : ByteArray) : Option (Int) := if a0_0 < 0 then (dataflowref46_Check.j0 k true a0_0 a0_1 a0_2 a0_3 a0_4) else (dataflowref46_Check.j0 k (decide (a0_0 > 4)) a0_0 a0_1 a0_2 a0_3 a0_4)
theorem dataflowref46_Check.mono_l : ∀ k, (∀ y0 y1 y2 y3 y4 y5, LeO (dataflowref46_Check.j0 k y0 y1 y2 y3 y4 y5) (dataflowref46_Check.j0 (k + 1) y0 y1 y2 y3 y4 y5)) ∧ (∀ y0 y1 y2 y3 y4 y5, LeO (dataflowref46_Check.j1 k y0 y1 y2 y3 y4 y5) (dataflowref46_Check.j1 (k + 1) y0 y1 y2 y3 y4 y5))
 | 0 => ⟨fun _ _ _ _ _ _ r h => by simp [dataflowref46_Check.j0] at h, fun _ _ _ _ _ _ r h => by simp [dataflowref46_Check.j1] at h⟩
 | k + 1 => by
  obtain ⟨ih0, ih1⟩ := dataflowref46_Check.mono_l k
  refine ⟨?_, ?_⟩
  ·intro y0 y1 y2 y3 y4 y5
   unfold dataflowref46_Check.j0
   repeat' first
   | (with_reducible exact ih0 _ _ _ _ _ _)
   | (with_reducible exact ih1 _ _ _ _ _ _)
   | (with_reducible exact dataflowref07_Ident.mono _ _)
   | (with_reducible exact dataflowref45_Word.mono _ _)
   | (with_reducible exact dataflowref46_reason.mono _ _)
   | (with_reducible exact LeO.refl _)
   | (with_reducible exact LeO.none _)
   | (with_reducible refine LeO.ite ?_ ?_)
   | (with_reducible refine LeO.bind ?_ (fun _ => ?_))
   | exact ih0 _ _ _ _ _ _
   | exact ih1 _ _ _ _ _ _
   | exact dataflowref07_Ident.mono _ _
   | exact dataflowref45_Word.mono _ _
   | exact dataflowref46_reason.mono _ _
   | exact LeO.none _
   | refine LeO.ite ?_ ?_
   | refine LeO.bind ?_ (fun _ => ?_)
  ·intro y0 y1 y2 y3 y4 y5
   unfold dataflowref46_Check.j1
   repeat' first
   | (with_reducible exact ih0 _ _ _ _ _ _)
   | (with_reducible exact ih1 _ _ _ _ _ _)
   | (with_reducible exact dataflowref07_Ident.mono _ _)
   | (with_reducible exact dataflowref45_Word.mono _ _)
   | (with_reducible exact dataflowref46_reason.mono _ _)
   | (with_reducible exact LeO.refl _)
   | (with_reducible exact LeO.none _)
   | (with_reducible refine LeO.ite ?_ ?_)
   | (with_reducible refine LeO.bind ?_ (fun _ => ?_))
   | exact ih0 _ _ _ _ _ _
   | exact ih1 _ _ _ _ _ _
   | exact dataflowref07_Ident.mono _ _
   | exact dataflowref45_Word.mono _ _
   | exact dataflowref46_reason.mono _ _
   | exact LeO.none _
   | refine LeO.ite ?_ ?_
   | refine LeO.bind ?_ (fun _ => ?_)
theorem dataflowref46_Check.mono : ∀ a0 a1 a2 a3 a4 k, LeO (dataflowref46_Check.f k a0 a1 a2 a3 a4) (dataflowref46_Check.f (k + 1) a0 a1 a2 a3 a4) := by
 intro a0 a1 a2 a3 a4 k
 obtain ⟨ih0, ih1⟩ := dataflowref46_Check.mono_l k
 unfold dataflowref46_Check.f
 repeat' first
   | (with_reducible exact ih0 _ _ _ _ _ _)
   | (with_reducible exact ih1 _ _ _ _ _ _)
   | (with_reducible exact dataflowref07_Ident.mono _ _)
   | (with_reducible exact dataflowref45_Word.mono _ _)
   | (with_reducible exact dataflowref46_reason.mono _ _)
   | (with_reducible exact LeO.refl _)
   | (with_reducible exact LeO.none _)
   | (with_reducible refine LeO.ite ?_ ?_)
   | (with_reducible refine LeO.bind ?_ (fun _ => ?_))
   | exact ih0 _ _ _ _ _ _
   | exact ih1 _ _ _ _ _ _
   | exact dataflowref07_Ident.mono _ _
   | exact dataflowref45_Word.mono _ _
   | exact dataflowref46_reason.mono _ _
   | exact LeO.none _
   | refine LeO.ite ?_ ?_
   | refine LeO.bind ?_ (fun _ => ?_)
set_option maxHeartbeats 8000000 in
set_option maxRecDepth 100000 in
theorem dataflowref46_Check.calls (k : Nat) (a0_0 : Int) (a0_1 : ByteArray) (a0_2 : ByteArray) (a0_3 : ByteArray) (a0_4 : ByteArray) (r : Int) (w : World) (h : dataflowref46_Check.f k a0_0 a0_1 a0_2 a0_3 a0_4 = some r) :
  Calls Tryd.prog 9 #[.agg #[.int .i64 a0_0, .string a0_1, .string a0_2, .string a0_3, .string a0_4]] w fun e w' => e = .returned (.int .i64 r) ∧ Below w.heap.size w w' := by
 have hu23 := Tryd.underlying23
 have HB := Aside0.mk (Below.refl w.heap.size w)
 have H : (if a0_0 < 0 then (dataflowref46_Check.j0 k true a0_0 a0_1 a0_2 a0_3 a0_4) else (dataflowref46_Check.j0 k (decide (a0_0 > 4)) a0_0 a0_1 a0_2 a0_3 a0_4)) = some r := h
 clear h
 have HC2 := Aside0.mk H
 clear H
 go_enter Tryd.func9, Tryd.ntmps9
 go_upto_region 1 with (first | ((with_reducible refine gate_dst (N := 1) rfl ?_); refine box_event ?hg (N := 1) ?hd (cs := #[.int .i64 a0_0, .string a0_1, .string a0_2, .string a0_3, .string a0_4]) (t := 23) ?hr ?_; (case hd => rfl); (case hg => rfl); (case hr => first | (go_simp; done) | (go_simp; rfl)); intro gb10001 hg w3 hbox hb; have n0_ := Aside0.mk (below_step (by repeat (first | (with_reducible first | exact HB.out | apply below_alloc | apply pw_below_drewN | apply below_drew1) | exact HB.out)) hb); have n1_ := Aside0.mk (hbox); have n2_ := Aside0.mk ((by rw [hg]; exact (below_size (by repeat (first | (with_reducible first | exact HB.out | apply below_alloc | apply pw_below_drewN | apply below_drew1) | exact HB.out))) : w.heap.size ≤ gb10001)); have n3_ := Aside0.mk ((by rw [hg]; exact (below_size (by repeat (first | (with_reducible first | exact HB.out | apply below_alloc | apply pw_below_drewN | apply below_drew1) | exact HB.out))) : w.heap.size ≤ gb10001)); clear HB; have HB := n0_; have BK10001 := n1_; have GW10001 := n2_; have GE10001 := n3_; clear n0_ n1_ n2_ n3_; clear hb hbox hg))
 (try simp only [Act.put, List.setIfInBounds_toArray, List.set_cons_zero, List.set_cons_succ])
 go_cut [10] (fun v10 wc => ∃ (kq : Nat) (x10_1 : Bool), v10 = .bool x10_1 ∧ Aside0 (dataflowref46_Check.j0 kq x10_1 a0_0 a0_1 a0_2 a0_3 a0_4 = some r) ∧ Aside0 (kq ≤ k) ∧ Aside0 (wc.heap[gb10001]? = some (.cells #[.int .i64 a0_0, .string a0_1, .string a0_2, .string a0_3, .string a0_4] 23 (0, 0))) ∧ Aside0 (Below w.heap.size w wc))
 case first =>
  have H := HC2.out
  clear HC2
  by_cases c4 : a0_0 < 0
  ·rw [if_pos c4] at H
   have c4b0 : decide (a0_0 < 0) = true := decide_eq_true c4
   clear c4
   (first | rw [c4b0] | (simp only [i64_w, i32_w]; rw [c4b0]) | skip)
   have H' := Aside0.mk H
   clear H
   have hcz5_0 : w3.cell? ⟨gb10001, 0, none⟩ = some (.int .i64 a0_0) := (blk_cell BK10001.out 0).trans rfl
   have hcz5_1 : w3.cell? ⟨gb10001, 1, none⟩ = some (.string a0_1) := (blk_cell BK10001.out 1).trans rfl
   have hcz5_2 : w3.cell? ⟨gb10001, 2, none⟩ = some (.string a0_2) := (blk_cell BK10001.out 2).trans rfl
   have hcz5_3 : w3.cell? ⟨gb10001, 3, none⟩ = some (.string a0_3) := (blk_cell BK10001.out 3).trans rfl
   have hcz5_4 : w3.cell? ⟨gb10001, 4, none⟩ = some (.string a0_4) := (blk_cell BK10001.out 4).trans rfl
   have hfz5_0 := blk_frozen BK10001.out 0
   have hfz5_1 := blk_frozen BK10001.out 1
   have hfz5_2 := blk_frozen BK10001.out 2
   have hfz5_3 := blk_frozen BK10001.out 3
   have hfz5_4 := blk_frozen BK10001.out 4
   go_wp2
   go_meet
   case rel => exact ⟨_, (true), (by first | rfl | (simp; done) | (simp [*]; done)), H', ⟨by first | omega | exact Nat.le_refl _⟩, ⟨by (with_reducible repeat (first | refine blk_drewN ?_ _ | refine blk_drew ?_ | refine blk_alloc ?_ _)); exact BK10001.out⟩, ⟨by repeat (first | (with_reducible first | exact HB.out | apply below_alloc | apply pw_below_drewN | apply below_drew1 | refine below_set ?_ GE10001.out) | exact HB.out)⟩⟩
  ·rw [if_neg c4] at H
   have c4b0 : decide (a0_0 < 0) = false := decide_eq_false c4
   clear c4
   (first | rw [c4b0] | (simp only [i64_w, i32_w]; rw [c4b0]) | skip)
   have H' := Aside0.mk H
   clear H
   have hcz6_0 : w3.cell? ⟨gb10001, 0, none⟩ = some (.int .i64 a0_0) := (blk_cell BK10001.out 0).trans rfl
   have hcz6_1 : w3.cell? ⟨gb10001, 1, none⟩ = some (.string a0_1) := (blk_cell BK10001.out 1).trans rfl
   have hcz6_2 : w3.cell? ⟨gb10001, 2, none⟩ = some (.string a0_2) := (blk_cell BK10001.out 2).trans rfl
   have hcz6_3 : w3.cell? ⟨gb10001, 3, none⟩ = some (.string a0_3) := (blk_cell BK10001.out 3).trans rfl
   have hcz6_4 : w3.cell? ⟨gb10001, 4, none⟩ = some (.string a0_4) := (blk_cell BK10001.out 4).trans rfl
   have hfz6_0 := blk_frozen BK10001.out 0
   have hfz6_1 := blk_frozen BK10001.out 1
   have hfz6_2 := blk_frozen BK10001.out 2
   have hfz6_3 := blk_frozen BK10001.out 3
   have hfz6_4 := blk_frozen BK10001.out 4
   go_wp2
   go_meet
   case rel => exact ⟨_, (decide (a0_0 > 4)), (by first | rfl | (simp; done) | (simp [*]; done)), H', ⟨by first | omega | exact Nat.le_refl _⟩, ⟨by (with_reducible repeat (first | refine blk_drewN ?_ _ | refine blk_drew ?_ | refine blk_alloc ?_ _)); exact BK10001.out⟩, ⟨by repeat (first | (with_reducible first | exact HB.out | apply below_alloc | apply pw_below_drewN | apply below_drew1 | refine below_set ?_ GE10001.out) | exact HB.out)⟩⟩
 case rest =>
  clear HC2
  try clear p2
  try clear c4
  try clear c4b0
  try clear hcz5_0
  try clear hcz5_1
  try clear hcz5_2
  try clear hcz5_3
  try clear hcz5_4
  try clear hcz6_0
  try clear hcz6_1
  try clear hcz6_2
  try clear hcz6_3
  try clear hcz6_4
  try clear hfz5_0
  try clear hfz5_1
  try clear hfz5_2
  try clear hfz5_3
  try clear hfz5_4
  try clear hfz6_0
  try clear hfz6_1
  try clear hfz6_2
  try clear hfz6_3
  try clear hfz6_4
  obtain ⟨kq, x10_1, rfl, HA, HJ1, BK10001, HB⟩ := hcut
  cases kq with
  | zero => exact absurd HA.out (by simp [dataflowref46_Check.j0])
  | succ kj1 =>
   have H := HA.out
   clear HA
   simp only [dataflowref46_Check.j0] at H
   by_cases c7 : x10_1 = true
   ·subst c7
    have H1 : (some 12) = some r := by rw [if_pos rfl] at H; exact H
    clear H
    have H := H1
    clear H1
    obtain rfl := Option.some.inj H
    go_wp2
    go_ret
    exact ⟨by first | rfl | (simp [errW_none, errW_some] <;> rfl) | (simp [*, errW_none, errW_some] <;> rfl), by repeat (first | (with_reducible first | exact HB.out | apply below_alloc | apply pw_below_drewN | apply below_drew1 | refine below_set ?_ GE10001.out) | exact HB.out)⟩
   ·replace c7 := Bool.eq_false_iff.mpr c7
    subst c7
    have H1 : (if a0_1.toList = ([] : List UInt8) then (if a0_2.toList = ([] : List UInt8) then (if a0_3.toList = ([] : List UInt8) then (dataflowref46_Check.j1 kj1 (a0_3.toList == ([42] : List UInt8)) a0_0 a0_1 a0_2 a0_3 a0_4) else ((dataflowref45_Word.f kj1 a0_3).bind fun t10002 => (if t10002 = true then (dataflowref46_Check.j1 kj1 (a0_3.toList == ([42] : List UInt8)) a0_0 a0_1 a0_2 a0_3 a0_4) else (dataflowref46_Check.j1 kj1 true a0_0 a0_1 a0_2 a0_3 a0_4)))) else ((dataflowref07_Ident.f kj1 a0_2).bind fun t10003 => (if t10003 = true then (if a0_3.toList = ([] : List UInt8) then (dataflowref46_Check.j1 kj1 (a0_3.toList == ([42] : List UInt8)) a0_0 a0_1 a0_2 a0_3 a0_4) else ((dataflowref45_Word.f kj1 a0_3).bind fun t10004 => (if t10004 = true then (dataflowref46_Check.j1 kj1 (a0_3.toList == ([42] : List UInt8)) a0_0 a0_1 a0_2 a0_3 a0_4) else (dataflowref46_Check.j1 kj1 true a0_0 a0_1 a0_2 a0_3 a0_4)))) else (dataflowref46_Check.j1 kj1 true a0_0 a0_1 a0_2 a0_3 a0_4)))) else ((dataflowref07_Ident.f kj1 a0_1).bind fun t10005 => (if t10005 = true then (if a0_2.toList = ([] : List UInt8) then (if a0_3.toList = ([] : List UInt8) then (dataflowref46_Check.j1 kj1 (a0_3.toList == ([42] : List UInt8)) a0_0 a0_1 a0_2 a0_3 a0_4) else ((dataflowref45_Word.f kj1 a0_3).bind fun t10006 => (if t10006 = true then (dataflowref46_Check.j1 kj1 (a0_3.toList == ([42] : List UInt8)) a0_0 a0_1 a0_2 a0_3 a0_4) else (dataflowref46_Check.j1 kj1 true a0_0 a0_1 a0_2 a0_3 a0_4)))) else ((dataflowref07_Ident.f kj1 a0_2).bind fun t10007 => (if t10007 = true then (if a0_3.toList = ([] : List UInt8) then (dataflowref46_Check.j1 kj1 (a0_3.toList == ([42] : List UInt8)) a0_0 a0_1 a0_2 a0_3 a0_4) else ((dataflowref45_Word.f kj1 a0_3).bind fun t10008 => (if t10008 = true then (dataflowref46_Check.j1 kj1 (a0_3.toList == ([42] : List UInt8)) a0_0 a0_1 a0_2 a0_3 a0_4) else (dataflowref46_Check.j1 kj1 true a0_0 a0_1 a0_2 a0_3 a0_4)))) else (dataflowref46_Check.j1 kj1 true a0_0 a0_1 a0_2 a0_3 a0_4)))) else (dataflowref46_Check.j1 kj1 true a0_0 a0_1 a0_2 a0_3 a0_4)))) = some r := by rw [if_neg (show ¬ (false = true) by decide)] at H; exact H
    clear H
    have H := H1
    clear H1
    have HC8 := Aside0.mk H
    clear H
    go_upto_region 3 with (fail)
    go_cut [46] (fun v46 wc => ∃ (kq : Nat) (x46_7 : Bool), v46 = .bool x46_7 ∧ Aside0 (dataflowref46_Check.j1 kq x46_7 a0_0 a0_1 a0_2 a0_3 a0_4 = some r) ∧ Aside0 (kq ≤ kj1) ∧ Aside0 (wc.heap[gb10001]? = some (.cells #[.int .i64 a0_0, .string a0_1, .string a0_2, .string a0_3, .string a0_4] 23 (0, 0))) ∧ Aside0 (Below w.heap.size w wc))
    case first =>
     have H := HC8.out
     clear HC8
     by_cases c9 : a0_1.toList = ([] : List UInt8)
     ·rw [if_pos c9] at H
      have c9b0 : (a0_1.toList == ([] : List UInt8)) = true := beq_iff_eq.mpr c9
      have c9b1 : (a0_1.toList != ([] : List UInt8)) = false := bne_eq_false_iff_eq.mpr c9
      clear c9
      (first | rw [c9b0] | (simp only [i64_w, i32_w]; rw [c9b0]) | skip)
      by_cases c10 : a0_2.toList = ([] : List UInt8)
      ·rw [if_pos c10] at H
       have c10b0 : (a0_2.toList == ([] : List UInt8)) = true := beq_iff_eq.mpr c10
       have c10b1 : (a0_2.toList != ([] : List UInt8)) = false := bne_eq_false_iff_eq.mpr c10
       clear c10
       by_cases c11 : a0_3.toList = ([] : List UInt8)
       ·rw [if_pos c11] at H
        have c11b0 : (a0_3.toList == ([] : List UInt8)) = true := beq_iff_eq.mpr c11
        have c11b1 : (a0_3.toList != ([] : List UInt8)) = false := bne_eq_false_iff_eq.mpr c11
        clear c11
        have H' := Aside0.mk H
        clear H
        have hcz12_0 : wc.cell? ⟨gb10001, 0, none⟩ = some (.int .i64 a0_0) := (blk_cell BK10001.out 0).trans rfl
        have hcz12_1 : wc.cell? ⟨gb10001, 1, none⟩ = some (.string a0_1) := (blk_cell BK10001.out 1).trans rfl
        have hcz12_2 : wc.cell? ⟨gb10001, 2, none⟩ = some (.string a0_2) := (blk_cell BK10001.out 2).trans rfl
        have hcz12_3 : wc.cell? ⟨gb10001, 3, none⟩ = some (.string a0_3) := (blk_cell BK10001.out 3).trans rfl
        have hcz12_4 : wc.cell? ⟨gb10001, 4, none⟩ = some (.string a0_4) := (blk_cell BK10001.out 4).trans rfl
        have hfz12_0 := blk_frozen BK10001.out 0
        have hfz12_1 := blk_frozen BK10001.out 1
        have hfz12_2 := blk_frozen BK10001.out 2
        have hfz12_3 := blk_frozen BK10001.out 3
        have hfz12_4 := blk_frozen BK10001.out 4
        go_wp2
        go_meet
        case rel => exact ⟨_, ((a0_3.toList == ([42] : List UInt8))), (by first | rfl | (simp; done) | (simp [*]; done)), H', ⟨by have := HJ1.out; first | omega | exact Nat.le_refl _⟩, ⟨by (with_reducible repeat (first | refine blk_drewN ?_ _ | refine blk_drew ?_ | refine blk_alloc ?_ _)); exact BK10001.out⟩, ⟨by repeat (first | (with_reducible first | exact HB.out | apply below_alloc | apply pw_below_drewN | apply below_drew1 | refine below_set ?_ GE10001.out) | exact HB.out)⟩⟩
       ·rw [if_neg c11] at H
        have c11b0 : (a0_3.toList == ([] : List UInt8)) = false := beq_eq_false_iff_ne.mpr c11
        have c11b1 : (a0_3.toList != ([] : List UInt8)) = true := bne_iff_ne.mpr c11
        replace H := Option.bind_eq_some_iff.mp H
        obtain ⟨t10002, A130, H⟩ := H
        replace H : (if t10002 = true then (dataflowref46_Check.j1 kj1 (a0_3.toList == ([42] : List UInt8)) a0_0 a0_1 a0_2 a0_3 a0_4) else (dataflowref46_Check.j1 kj1 true a0_0 a0_1 a0_2 a0_3 a0_4)) = some r := H
        have A13 := Aside0.mk A130
        clear A130
        by_cases c14 : t10002 = true
        ·subst c14
         have H1 : (dataflowref46_Check.j1 kj1 (a0_3.toList == ([42] : List UInt8)) a0_0 a0_1 a0_2 a0_3 a0_4) = some r := by rw [if_pos rfl] at H; exact H
         clear H
         have H := H1
         clear H1
         have H' := Aside0.mk H
         clear H
         have hcz15_0 : wc.cell? ⟨gb10001, 0, none⟩ = some (.int .i64 a0_0) := (blk_cell BK10001.out 0).trans rfl
         have hcz15_1 : wc.cell? ⟨gb10001, 1, none⟩ = some (.string a0_1) := (blk_cell BK10001.out 1).trans rfl
         have hcz15_2 : wc.cell? ⟨gb10001, 2, none⟩ = some (.string a0_2) := (blk_cell BK10001.out 2).trans rfl
         have hcz15_3 : wc.cell? ⟨gb10001, 3, none⟩ = some (.string a0_3) := (blk_cell BK10001.out 3).trans rfl
         have hcz15_4 : wc.cell? ⟨gb10001, 4, none⟩ = some (.string a0_4) := (blk_cell BK10001.out 4).trans rfl
         have hfz15_0 := blk_frozen BK10001.out 0
         have hfz15_1 := blk_frozen BK10001.out 1
         have hfz15_2 := blk_frozen BK10001.out 2
         have hfz15_3 := blk_frozen BK10001.out 3
         have hfz15_4 := blk_frozen BK10001.out 4
         go_wp2_with (first | (go_at_call 27; (with_reducible refine (dataflowref45_Word.calls kj1 a0_3 true _ A13.out).mono ?_); rintro e w' ⟨rfl, ⟨nd, rfl⟩⟩))
         go_meet
         case rel => exact ⟨_, ((a0_3.toList == ([42] : List UInt8))), (by first | rfl | (simp; done) | (simp [*]; done)), H', ⟨by have := HJ1.out; first | omega | exact Nat.le_refl _⟩, ⟨by (with_reducible repeat (first | refine blk_drewN ?_ _ | refine blk_drew ?_ | refine blk_alloc ?_ _)); exact BK10001.out⟩, ⟨by repeat (first | (with_reducible first | exact HB.out | apply below_alloc | apply pw_below_drewN | apply below_drew1 | refine below_set ?_ GE10001.out) | exact HB.out)⟩⟩
        ·replace c14 := Bool.eq_false_iff.mpr c14
         subst c14
         have H1 : (dataflowref46_Check.j1 kj1 true a0_0 a0_1 a0_2 a0_3 a0_4) = some r := by rw [if_neg (show ¬ (false = true) by decide)] at H; exact H
         clear H
         have H := H1
         clear H1
         have H' := Aside0.mk H
         clear H
         have hcz16_0 : wc.cell? ⟨gb10001, 0, none⟩ = some (.int .i64 a0_0) := (blk_cell BK10001.out 0).trans rfl
         have hcz16_1 : wc.cell? ⟨gb10001, 1, none⟩ = some (.string a0_1) := (blk_cell BK10001.out 1).trans rfl
         have hcz16_2 : wc.cell? ⟨gb10001, 2, none⟩ = some (.string a0_2) := (blk_cell BK10001.out 2).trans rfl
         have hcz16_3 : wc.cell? ⟨gb10001, 3, none⟩ = some (.string a0_3) := (blk_cell BK10001.out 3).trans rfl
         have hcz16_4 : wc.cell? ⟨gb10001, 4, none⟩ = some (.string a0_4) := (blk_cell BK10001.out 4).trans rfl
         have hfz16_0 := blk_frozen BK10001.out 0
         have hfz16_1 := blk_frozen BK10001.out 1
         have hfz16_2 := blk_frozen BK10001.out 2
         have hfz16_3 := blk_frozen BK10001.out 3
         have hfz16_4 := blk_frozen BK10001.out 4
         go_wp2_with (first | (go_at_call 27; (with_reducible refine (dataflowref45_Word.calls kj1 a0_3 false _ A13.out).mono ?_); rintro e w' ⟨rfl, ⟨nd, rfl⟩⟩))
         go_meet
         case rel => exact ⟨_, (true), (by first | rfl | (simp; done) | (simp [*]; done)), H', ⟨by have := HJ1.out; first | omega | exact Nat.le_refl _⟩, ⟨by (with_reducible repeat (first | refine blk_drewN ?_ _ | refine blk_drew ?_ | refine blk_alloc ?_ _)); exact BK10001.out⟩, ⟨by repeat (first | (with_reducible first | exact HB.out | apply below_alloc | apply pw_below_drewN | apply below_drew1 | refine below_set ?_ GE10001.out) | exact HB.out)⟩⟩
      ·rw [if_neg c10] at H
       have c10b0 : (a0_2.toList == ([] : List UInt8)) = false := beq_eq_false_iff_ne.mpr c10
       have c10b1 : (a0_2.toList != ([] : List UInt8)) = true := bne_iff_ne.mpr c10
       replace H := Option.bind_eq_some_iff.mp H
       obtain ⟨t10003, A170, H⟩ := H
       replace H : (if t10003 = true then (if a0_3.toList = ([] : List UInt8) then (dataflowref46_Check.j1 kj1 (a0_3.toList == ([42] : List UInt8)) a0_0 a0_1 a0_2 a0_3 a0_4) else ((dataflowref45_Word.f kj1 a0_3).bind fun t10004 => (if t10004 = true then (dataflowref46_Check.j1 kj1 (a0_3.toList == ([42] : List UInt8)) a0_0 a0_1 a0_2 a0_3 a0_4) else (dataflowref46_Check.j1 kj1 true a0_0 a0_1 a0_2 a0_3 a0_4)))) else (dataflowref46_Check.j1 kj1 true a0_0 a0_1 a0_2 a0_3 a0_4)) = some r := H
       have A17 := Aside0.mk A170
       clear A170
       by_cases c18 : t10003 = true
       ·subst c18
        have H1 : (if a0_3.toList = ([] : List UInt8) then (dataflowref46_Check.j1 kj1 (a0_3.toList == ([42] : List UInt8)) a0_0 a0_1 a0_2 a0_3 a0_4) else ((dataflowref45_Word.f kj1 a0_3).bind fun t10004 => (if t10004 = true then (dataflowref46_Check.j1 kj1 (a0_3.toList == ([42] : List UInt8)) a0_0 a0_1 a0_2 a0_3 a0_4) else (dataflowref46_Check.j1 kj1 true a0_0 a0_1 a0_2 a0_3 a0_4)))) = some r := by rw [if_pos rfl] at H; exact H
        clear H
        have H := H1
        clear H1
        by_cases c19 : a0_3.toList = ([] : List UInt8)
        ·rw [if_pos c19] at H
         have c19b0 : (a0_3.toList == ([] : List UInt8)) = true := beq_iff_eq.mpr c19
         have c19b1 : (a0_3.toList != ([] : List UInt8)) = false := bne_eq_false_iff_eq.mpr c19
         clear c19
         have H' := Aside0.mk H
         clear H
         have hcz20_0 : wc.cell? ⟨gb10001, 0, none⟩ = some (.int .i64 a0_0) := (blk_cell BK10001.out 0).trans rfl
         have hcz20_1 : wc.cell? ⟨gb10001, 1, none⟩ = some (.string a0_1) := (blk_cell BK10001.out 1).trans rfl
         have hcz20_2 : wc.cell? ⟨gb10001, 2, none⟩ = some (.string a0_2) := (blk_cell BK10001.out 2).trans rfl
         have hcz20_3 : wc.cell? ⟨gb10001, 3, none⟩ = some (.string a0_3) := (blk_cell BK10001.out 3).trans rfl
         have hcz20_4 : wc.cell? ⟨gb10001, 4, none⟩ = some (.string a0_4) := (blk_cell BK10001.out 4).trans rfl
         have hfz20_0 := blk_frozen BK10001.out 0
         have hfz20_1 := blk_frozen BK10001.out 1
         have hfz20_2 := blk_frozen BK10001.out 2
         have hfz20_3 := blk_frozen BK10001.out 3
         have hfz20_4 := blk_frozen BK10001.out 4
         go_wp2_with (first | (go_at_call 26; (with_reducible refine (dataflowref07_Ident.calls kj1 a0_2 true _ A17.out).mono ?_); rintro e w21 ⟨rfl, hb⟩; have n0_ := Aside0.mk (blk_below (g := gb10001) (o := .cells #[.int .i64 a0_0, .string a0_1, .string a0_2, .string a0_3, .string a0_4] 23 (0, 0)) (by (with_reducible repeat (first | refine blk_drewN ?_ _ | refine blk_drew ?_ | refine blk_alloc ?_ _)); exact BK10001.out) hb); have n1_ := Aside0.mk (below_step (by repeat (first | (with_reducible first | exact HB.out | apply below_alloc | apply pw_below_drewN | apply below_drew1 | refine below_set ?_ GE10001.out) | exact HB.out)) hb); clear BK10001; clear HB; have BK10001 := n0_; have HB := n1_; clear n0_ n1_; (try clear hb); (try clear hb2); (try clear hk); (try clear hi); have hcz22_0 : w21.cell? ⟨gb10001, 0, none⟩ = some (.int .i64 a0_0) := (blk_cell BK10001.out 0).trans rfl; have hcz22_1 : w21.cell? ⟨gb10001, 1, none⟩ = some (.string a0_1) := (blk_cell BK10001.out 1).trans rfl; have hcz22_2 : w21.cell? ⟨gb10001, 2, none⟩ = some (.string a0_2) := (blk_cell BK10001.out 2).trans rfl; have hcz22_3 : w21.cell? ⟨gb10001, 3, none⟩ = some (.string a0_3) := (blk_cell BK10001.out 3).trans rfl; have hcz22_4 : w21.cell? ⟨gb10001, 4, none⟩ = some (.string a0_4) := (blk_cell BK10001.out 4).trans rfl; have hfz22_0 := blk_frozen BK10001.out 0; have hfz22_1 := blk_frozen BK10001.out 1; have hfz22_2 := blk_frozen BK10001.out 2; have hfz22_3 := blk_frozen BK10001.out 3; have hfz22_4 := blk_frozen BK10001.out 4))
         go_meet
         case rel => exact ⟨_, ((a0_3.toList == ([42] : List UInt8))), (by first | rfl | (simp; done) | (simp [*]; done)), H', ⟨by have := HJ1.out; first | omega | exact Nat.le_refl _⟩, ⟨by (with_reducible repeat (first | refine blk_drewN ?_ _ | refine blk_drew ?_ | refine blk_alloc ?_ _)); exact BK10001.out⟩, ⟨by repeat (first | (with_reducible first | exact HB.out | apply below_alloc | apply pw_below_drewN | apply below_drew1 | refine below_set ?_ GE10001.out) | exact HB.out)⟩⟩
        ·rw [if_neg c19] at H
         have c19b0 : (a0_3.toList == ([] : List UInt8)) = false := beq_eq_false_iff_ne.mpr c19
         have c19b1 : (a0_3.toList != ([] : List UInt8)) = true := bne_iff_ne.mpr c19
         replace H := Option.bind_eq_some_iff.mp H
         obtain ⟨t10004, A230, H⟩ := H
         replace H : (if t10004 = true then (dataflowref46_Check.j1 kj1 (a0_3.toList == ([42] : List UInt8)) a0_0 a0_1 a0_2 a0_3 a0_4) else (dataflowref46_Check.j1 kj1 true a0_0 a0_1 a0_2 a0_3 a0_4)) = some r := H
         have A23 := Aside0.mk A230
         clear A230
         by_cases c24 : t10004 = true
         ·subst c24
          have H1 : (dataflowref46_Check.j1 kj1 (a0_3.toList == ([42] : List UInt8)) a0_0 a0_1 a0_2 a0_3 a0_4) = some r := by rw [if_pos rfl] at H; exact H
          clear H
          have H := H1
          clear H1
          have H' := Aside0.mk H
          clear H
          have hcz25_0 : wc.cell? ⟨gb10001, 0, none⟩ = some (.int .i64 a0_0) := (blk_cell BK10001.out 0).trans rfl
          have hcz25_1 : wc.cell? ⟨gb10001, 1, none⟩ = some (.string a0_1) := (blk_cell BK10001.out 1).trans rfl
          have hcz25_2 : wc.cell? ⟨gb10001, 2, none⟩ = some (.string a0_2) := (blk_cell BK10001.out 2).trans rfl
          have hcz25_3 : wc.cell? ⟨gb10001, 3, none⟩ = some (.string a0_3) := (blk_cell BK10001.out 3).trans rfl
          have hcz25_4 : wc.cell? ⟨gb10001, 4, none⟩ = some (.string a0_4) := (blk_cell BK10001.out 4).trans rfl
          have hfz25_0 := blk_frozen BK10001.out 0
          have hfz25_1 := blk_frozen BK10001.out 1
          have hfz25_2 := blk_frozen BK10001.out 2
          have hfz25_3 := blk_frozen BK10001.out 3
          have hfz25_4 := blk_frozen BK10001.out 4
          go_wp2_with (first | (go_at_call 26; (with_reducible refine (dataflowref07_Ident.calls kj1 a0_2 true _ A17.out).mono ?_); rintro e w26 ⟨rfl, hb⟩; have n0_ := Aside0.mk (blk_below (g := gb10001) (o := .cells #[.int .i64 a0_0, .string a0_1, .string a0_2, .string a0_3, .string a0_4] 23 (0, 0)) (by (with_reducible repeat (first | refine blk_drewN ?_ _ | refine blk_drew ?_ | refine blk_alloc ?_ _)); exact BK10001.out) hb); have n1_ := Aside0.mk (below_step (by repeat (first | (with_reducible first | exact HB.out | apply below_alloc | apply pw_below_drewN | apply below_drew1 | refine below_set ?_ GE10001.out) | exact HB.out)) hb); clear BK10001; clear HB; have BK10001 := n0_; have HB := n1_; clear n0_ n1_; (try clear hb); (try clear hb2); (try clear hk); (try clear hi); have hcz27_0 : w26.cell? ⟨gb10001, 0, none⟩ = some (.int .i64 a0_0) := (blk_cell BK10001.out 0).trans rfl; have hcz27_1 : w26.cell? ⟨gb10001, 1, none⟩ = some (.string a0_1) := (blk_cell BK10001.out 1).trans rfl; have hcz27_2 : w26.cell? ⟨gb10001, 2, none⟩ = some (.string a0_2) := (blk_cell BK10001.out 2).trans rfl; have hcz27_3 : w26.cell? ⟨gb10001, 3, none⟩ = some (.string a0_3) := (blk_cell BK10001.out 3).trans rfl; have hcz27_4 : w26.cell? ⟨gb10001, 4, none⟩ = some (.string a0_4) := (blk_cell BK10001.out 4).trans rfl; have hfz27_0 := blk_frozen BK10001.out 0; have hfz27_1 := blk_frozen BK10001.out 1; have hfz27_2 := blk_frozen BK10001.out 2; have hfz27_3 := blk_frozen BK10001.out 3; have hfz27_4 := blk_frozen BK10001.out 4) | (go_at_call 27; (with_reducible refine (dataflowref45_Word.calls kj1 a0_3 true _ A23.out).mono ?_); rintro e w' ⟨rfl, ⟨nd, rfl⟩⟩))
          go_meet
          case rel => exact ⟨_, ((a0_3.toList == ([42] : List UInt8))), (by first | rfl | (simp; done) | (simp [*]; done)), H', ⟨by have := HJ1.out; first | omega | exact Nat.le_refl _⟩, ⟨by (with_reducible repeat (first | refine blk_drewN ?_ _ | refine blk_drew ?_ | refine blk_alloc ?_ _)); exact BK10001.out⟩, ⟨by repeat (first | (with_reducible first | exact HB.out | apply below_alloc | apply pw_below_drewN | apply below_drew1 | refine below_set ?_ GE10001.out) | exact HB.out)⟩⟩
         ·replace c24 := Bool.eq_false_iff.mpr c24
          subst c24
          have H1 : (dataflowref46_Check.j1 kj1 true a0_0 a0_1 a0_2 a0_3 a0_4) = some r := by rw [if_neg (show ¬ (false = true) by decide)] at H; exact H
          clear H
          have H := H1
          clear H1
          have H' := Aside0.mk H
          clear H
          have hcz28_0 : wc.cell? ⟨gb10001, 0, none⟩ = some (.int .i64 a0_0) := (blk_cell BK10001.out 0).trans rfl
          have hcz28_1 : wc.cell? ⟨gb10001, 1, none⟩ = some (.string a0_1) := (blk_cell BK10001.out 1).trans rfl
          have hcz28_2 : wc.cell? ⟨gb10001, 2, none⟩ = some (.string a0_2) := (blk_cell BK10001.out 2).trans rfl
          have hcz28_3 : wc.cell? ⟨gb10001, 3, none⟩ = some (.string a0_3) := (blk_cell BK10001.out 3).trans rfl
          have hcz28_4 : wc.cell? ⟨gb10001, 4, none⟩ = some (.string a0_4) := (blk_cell BK10001.out 4).trans rfl
          have hfz28_0 := blk_frozen BK10001.out 0
          have hfz28_1 := blk_frozen BK10001.out 1
          have hfz28_2 := blk_frozen BK10001.out 2
          have hfz28_3 := blk_frozen BK10001.out 3
          have hfz28_4 := blk_frozen BK10001.out 4
          go_wp2_with (first | (go_at_call 26; (with_reducible refine (dataflowref07_Ident.calls kj1 a0_2 true _ A17.out).mono ?_); rintro e w29 ⟨rfl, hb⟩; have n0_ := Aside0.mk (blk_below (g := gb10001) (o := .cells #[.int .i64 a0_0, .string a0_1, .string a0_2, .string a0_3, .string a0_4] 23 (0, 0)) (by (with_reducible repeat (first | refine blk_drewN ?_ _ | refine blk_drew ?_ | refine blk_alloc ?_ _)); exact BK10001.out) hb); have n1_ := Aside0.mk (below_step (by repeat (first | (with_reducible first | exact HB.out | apply below_alloc | apply pw_below_drewN | apply below_drew1 | refine below_set ?_ GE10001.out) | exact HB.out)) hb); clear BK10001; clear HB; have BK10001 := n0_; have HB := n1_; clear n0_ n1_; (try clear hb); (try clear hb2); (try clear hk); (try clear hi); have hcz30_0 : w29.cell? ⟨gb10001, 0, none⟩ = some (.int .i64 a0_0) := (blk_cell BK10001.out 0).trans rfl; have hcz30_1 : w29.cell? ⟨gb10001, 1, none⟩ = some (.string a0_1) := (blk_cell BK10001.out 1).trans rfl; have hcz30_2 : w29.cell? ⟨gb10001, 2, none⟩ = some (.string a0_2) := (blk_cell BK10001.out 2).trans rfl; have hcz30_3 : w29.cell? ⟨gb10001, 3, none⟩ = some (.string a0_3) := (blk_cell BK10001.out 3).trans rfl; have hcz30_4 : w29.cell? ⟨gb10001, 4, none⟩ = some (.string a0_4) := (blk_cell BK10001.out 4).trans rfl; have hfz30_0 := blk_frozen BK10001.out 0; have hfz30_1 := blk_frozen BK10001.out 1; have hfz30_2 := blk_frozen BK10001.out 2; have hfz30_3 := blk_frozen BK10001.out 3; have hfz30_4 := blk_frozen BK10001.out 4) | (go_at_call 27; (with_reducible refine (dataflowref45_Word.calls kj1 a0_3 false _ A23.out).mono ?_); rintro e w' ⟨rfl, ⟨nd, rfl⟩⟩))
          go_meet
          case rel => exact ⟨_, (true), (by first | rfl | (simp; done) | (simp [*]; done)), H', ⟨by have := HJ1.out; first | omega | exact Nat.le_refl _⟩, ⟨by (with_reducible repeat (first | refine blk_drewN ?_ _ | refine blk_drew ?_ | refine blk_alloc ?_ _)); exact BK10001.out⟩, ⟨by repeat (first | (with_reducible first | exact HB.out | apply below_alloc | apply pw_below_drewN | apply below_drew1 | refine below_set ?_ GE10001.out) | exact HB.out)⟩⟩
       ·replace c18 := Bool.eq_false_iff.mpr c18
        subst c18
        have H1 : (dataflowref46_Check.j1 kj1 true a0_0 a0_1 a0_2 a0_3 a0_4) = some r := by rw [if_neg (show ¬ (false = true) by decide)] at H; exact H
        clear H
        have H := H1
        clear H1
        have H' := Aside0.mk H
        clear H
        have hcz31_0 : wc.cell? ⟨gb10001, 0, none⟩ = some (.int .i64 a0_0) := (blk_cell BK10001.out 0).trans rfl
        have hcz31_1 : wc.cell? ⟨gb10001, 1, none⟩ = some (.string a0_1) := (blk_cell BK10001.out 1).trans rfl
        have hcz31_2 : wc.cell? ⟨gb10001, 2, none⟩ = some (.string a0_2) := (blk_cell BK10001.out 2).trans rfl
        have hcz31_3 : wc.cell? ⟨gb10001, 3, none⟩ = some (.string a0_3) := (blk_cell BK10001.out 3).trans rfl
        have hcz31_4 : wc.cell? ⟨gb10001, 4, none⟩ = some (.string a0_4) := (blk_cell BK10001.out 4).trans rfl
        have hfz31_0 := blk_frozen BK10001.out 0
        have hfz31_1 := blk_frozen BK10001.out 1
        have hfz31_2 := blk_frozen BK10001.out 2
        have hfz31_3 := blk_frozen BK10001.out 3
        have hfz31_4 := blk_frozen BK10001.out 4
        go_wp2_with (first | (go_at_call 26; (with_reducible refine (dataflowref07_Ident.calls kj1 a0_2 false _ A17.out).mono ?_); rintro e w32 ⟨rfl, hb⟩; have n0_ := Aside0.mk (blk_below (g := gb10001) (o := .cells #[.int .i64 a0_0, .string a0_1, .string a0_2, .string a0_3, .string a0_4] 23 (0, 0)) (by (with_reducible repeat (first | refine blk_drewN ?_ _ | refine blk_drew ?_ | refine blk_alloc ?_ _)); exact BK10001.out) hb); have n1_ := Aside0.mk (below_step (by repeat (first | (with_reducible first | exact HB.out | apply below_alloc | apply pw_below_drewN | apply below_drew1 | refine below_set ?_ GE10001.out) | exact HB.out)) hb); clear BK10001; clear HB; have BK10001 := n0_; have HB := n1_; clear n0_ n1_; (try clear hb); (try clear hb2); (try clear hk); (try clear hi)))
        go_meet
        case rel => exact ⟨_, (true), (by first | rfl | (simp; done) | (simp [*]; done)), H', ⟨by have := HJ1.out; first | omega | exact Nat.le_refl _⟩, ⟨by (with_reducible repeat (first | refine blk_drewN ?_ _ | refine blk_drew ?_ | refine blk_alloc ?_ _)); exact BK10001.out⟩, ⟨by repeat (first | (with_reducible first | exact HB.out | apply below_alloc | apply pw_below_drewN | apply below_drew1 | refine below_set ?_ GE10001.out) | exact HB.out)⟩⟩
     ·rw [if_neg c9] at H
      have c9b0 : (a0_1.toList == ([] : List UInt8)) = false := beq_eq_false_iff_ne.mpr c9
      have c9b1 : (a0_1.toList != ([] : List UInt8)) = true := bne_iff_ne.mpr c9
      (first | rw [c9b0] | (simp only [i64_w, i32_w]; rw [c9b0]) | skip)
      replace H := Option.bind_eq_some_iff.mp H
      obtain ⟨t10005, A330, H⟩ := H
      replace H : (if t10005 = true then (if a0_2.toList = ([] : List UInt8) then (if a0_3.toList = ([] : List UInt8) then (dataflowref46_Check.j1 kj1 (a0_3.toList == ([42] : List UInt8)) a0_0 a0_1 a0_2 a0_3 a0_4) else ((dataflowref45_Word.f kj1 a0_3).bind fun t10006 => (if t10006 = true then (dataflowref46_Check.j1 kj1 (a0_3.toList == ([42] : List UInt8)) a0_0 a0_1 a0_2 a0_3 a0_4) else (dataflowref46_Check.j1 kj1 true a0_0 a0_1 a0_2 a0_3 a0_4)))) else ((dataflowref07_Ident.f kj1 a0_2).bind fun t10007 => (if t10007 = true then (if a0_3.toList = ([] : List UInt8) then (dataflowref46_Check.j1 kj1 (a0_3.toList == ([42] : List UInt8)) a0_0 a0_1 a0_2 a0_3 a0_4) else ((dataflowref45_Word.f kj1 a0_3).bind fun t10008 => (if t10008 = true then (dataflowref46_Check.j1 kj1 (a0_3.toList == ([42] : List UInt8)) a0_0 a0_1 a0_2 a0_3 a0_4) else (dataflowref46_Check.j1 kj1 true a0_0 a0_1 a0_2 a0_3 a0_4)))) else (dataflowref46_Check.j1 kj1 true a0_0 a0_1 a0_2 a0_3 a0_4)))) else (dataflowref46_Check.j1 kj1 true a0_0 a0_1 a0_2 a0_3 a0_4)) = some r := H
      have A33 := Aside0.mk A330
      clear A330
      by_cases c34 : t10005 = true
      ·subst c34
       have H1 : (if a0_2.toList = ([] : List UInt8) then (if a0_3.toList = ([] : List UInt8) then (dataflowref46_Check.j1 kj1 (a0_3.toList == ([42] : List UInt8)) a0_0 a0_1 a0_2 a0_3 a0_4) else ((dataflowref45_Word.f kj1 a0_3).bind fun t10006 => (if t10006 = true then (dataflowref46_Check.j1 kj1 (a0_3.toList == ([42] : List UInt8)) a0_0 a0_1 a0_2 a0_3 a0_4) else (dataflowref46_Check.j1 kj1 true a0_0 a0_1 a0_2 a0_3 a0_4)))) else ((dataflowref07_Ident.f kj1 a0_2).bind fun t10007 => (if t10007 = true then (if a0_3.toList = ([] : List UInt8) then (dataflowref46_Check.j1 kj1 (a0_3.toList == ([42] : List UInt8)) a0_0 a0_1 a0_2 a0_3 a0_4) else ((dataflowref45_Word.f kj1 a0_3).bind fun t10008 => (if t10008 = true then (dataflowref46_Check.j1 kj1 (a0_3.toList == ([42] : List UInt8)) a0_0 a0_1 a0_2 a0_3 a0_4) else (dataflowref46_Check.j1 kj1 true a0_0 a0_1 a0_2 a0_3 a0_4)))) else (dataflowref46_Check.j1 kj1 true a0_0 a0_1 a0_2 a0_3 a0_4)))) = some r := by rw [if_pos rfl] at H; exact H
       clear H
       have H := H1
       clear H1
       by_cases c35 : a0_2.toList = ([] : List UInt8)
       ·rw [if_pos c35] at H
        have c35b0 : (a0_2.toList == ([] : List UInt8)) = true := beq_iff_eq.mpr c35
        have c35b1 : (a0_2.toList != ([] : List UInt8)) = false := bne_eq_false_iff_eq.mpr c35
        clear c35
        by_cases c36 : a0_3.toList = ([] : List UInt8)
        ·rw [if_pos c36] at H
         have c36b0 : (a0_3.toList == ([] : List UInt8)) = true := beq_iff_eq.mpr c36
         have c36b1 : (a0_3.toList != ([] : List UInt8)) = false := bne_eq_false_iff_eq.mpr c36
         clear c36
         have H' := Aside0.mk H
         clear H
         have hcz37_0 : wc.cell? ⟨gb10001, 0, none⟩ = some (.int .i64 a0_0) := (blk_cell BK10001.out 0).trans rfl
         have hcz37_1 : wc.cell? ⟨gb10001, 1, none⟩ = some (.string a0_1) := (blk_cell BK10001.out 1).trans rfl
         have hcz37_2 : wc.cell? ⟨gb10001, 2, none⟩ = some (.string a0_2) := (blk_cell BK10001.out 2).trans rfl
         have hcz37_3 : wc.cell? ⟨gb10001, 3, none⟩ = some (.string a0_3) := (blk_cell BK10001.out 3).trans rfl
         have hcz37_4 : wc.cell? ⟨gb10001, 4, none⟩ = some (.string a0_4) := (blk_cell BK10001.out 4).trans rfl
         have hfz37_0 := blk_frozen BK10001.out 0
         have hfz37_1 := blk_frozen BK10001.out 1
         have hfz37_2 := blk_frozen BK10001.out 2
         have hfz37_3 := blk_frozen BK10001.out 3
         have hfz37_4 := blk_frozen BK10001.out 4
         go_wp2_with (first | (go_at_call 26; (with_reducible refine (dataflowref07_Ident.calls kj1 a0_1 true _ A33.out).mono ?_); rintro e w38 ⟨rfl, hb⟩; have n0_ := Aside0.mk (blk_below (g := gb10001) (o := .cells #[.int .i64 a0_0, .string a0_1, .string a0_2, .string a0_3, .string a0_4] 23 (0, 0)) (by (with_reducible repeat (first | refine blk_drewN ?_ _ | refine blk_drew ?_ | refine blk_alloc ?_ _)); exact BK10001.out) hb); have n1_ := Aside0.mk (below_step (by repeat (first | (with_reducible first | exact HB.out | apply below_alloc | apply pw_below_drewN | apply below_drew1 | refine below_set ?_ GE10001.out) | exact HB.out)) hb); clear BK10001; clear HB; have BK10001 := n0_; have HB := n1_; clear n0_ n1_; (try clear hb); (try clear hb2); (try clear hk); (try clear hi); have hcz39_0 : w38.cell? ⟨gb10001, 0, none⟩ = some (.int .i64 a0_0) := (blk_cell BK10001.out 0).trans rfl; have hcz39_1 : w38.cell? ⟨gb10001, 1, none⟩ = some (.string a0_1) := (blk_cell BK10001.out 1).trans rfl; have hcz39_2 : w38.cell? ⟨gb10001, 2, none⟩ = some (.string a0_2) := (blk_cell BK10001.out 2).trans rfl; have hcz39_3 : w38.cell? ⟨gb10001, 3, none⟩ = some (.string a0_3) := (blk_cell BK10001.out 3).trans rfl; have hcz39_4 : w38.cell? ⟨gb10001, 4, none⟩ = some (.string a0_4) := (blk_cell BK10001.out 4).trans rfl; have hfz39_0 := blk_frozen BK10001.out 0; have hfz39_1 := blk_frozen BK10001.out 1; have hfz39_2 := blk_frozen BK10001.out 2; have hfz39_3 := blk_frozen BK10001.out 3; have hfz39_4 := blk_frozen BK10001.out 4))
         go_meet
         case rel => exact ⟨_, ((a0_3.toList == ([42] : List UInt8))), (by first | rfl | (simp; done) | (simp [*]; done)), H', ⟨by have := HJ1.out; first | omega | exact Nat.le_refl _⟩, ⟨by (with_reducible repeat (first | refine blk_drewN ?_ _ | refine blk_drew ?_ | refine blk_alloc ?_ _)); exact BK10001.out⟩, ⟨by repeat (first | (with_reducible first | exact HB.out | apply below_alloc | apply pw_below_drewN | apply below_drew1 | refine below_set ?_ GE10001.out) | exact HB.out)⟩⟩
        ·rw [if_neg c36] at H
         have c36b0 : (a0_3.toList == ([] : List UInt8)) = false := beq_eq_false_iff_ne.mpr c36
         have c36b1 : (a0_3.toList != ([] : List UInt8)) = true := bne_iff_ne.mpr c36
         replace H := Option.bind_eq_some_iff.mp H
         obtain ⟨t10006, A400, H⟩ := H
         replace H : (if t10006 = true then (dataflowref46_Check.j1 kj1 (a0_3.toList == ([42] : List UInt8)) a0_0 a0_1 a0_2 a0_3 a0_4) else (dataflowref46_Check.j1 kj1 true a0_0 a0_1 a0_2 a0_3 a0_4)) = some r := H
         have A40 := Aside0.mk A400
         clear A400
         by_cases c41 : t10006 = true
         ·subst c41
          have H1 : (dataflowref46_Check.j1 kj1 (a0_3.toList == ([42] : List UInt8)) a0_0 a0_1 a0_2 a0_3 a0_4) = some r := by rw [if_pos rfl] at H; exact H
          clear H
          have H := H1
          clear H1
          have H' := Aside0.mk H
          clear H
          have hcz42_0 : wc.cell? ⟨gb10001, 0, none⟩ = some (.int .i64 a0_0) := (blk_cell BK10001.out 0).trans rfl
          have hcz42_1 : wc.cell? ⟨gb10001, 1, none⟩ = some (.string a0_1) := (blk_cell BK10001.out 1).trans rfl
          have hcz42_2 : wc.cell? ⟨gb10001, 2, none⟩ = some (.string a0_2) := (blk_cell BK10001.out 2).trans rfl
          have hcz42_3 : wc.cell? ⟨gb10001, 3, none⟩ = some (.string a0_3) := (blk_cell BK10001.out 3).trans rfl
          have hcz42_4 : wc.cell? ⟨gb10001, 4, none⟩ = some (.string a0_4) := (blk_cell BK10001.out 4).trans rfl
          have hfz42_0 := blk_frozen BK10001.out 0
          have hfz42_1 := blk_frozen BK10001.out 1
          have hfz42_2 := blk_frozen BK10001.out 2
          have hfz42_3 := blk_frozen BK10001.out 3
          have hfz42_4 := blk_frozen BK10001.out 4
          go_wp2_with (first | (go_at_call 26; (with_reducible refine (dataflowref07_Ident.calls kj1 a0_1 true _ A33.out).mono ?_); rintro e w43 ⟨rfl, hb⟩; have n0_ := Aside0.mk (blk_below (g := gb10001) (o := .cells #[.int .i64 a0_0, .string a0_1, .string a0_2, .string a0_3, .string a0_4] 23 (0, 0)) (by (with_reducible repeat (first | refine blk_drewN ?_ _ | refine blk_drew ?_ | refine blk_alloc ?_ _)); exact BK10001.out) hb); have n1_ := Aside0.mk (below_step (by repeat (first | (with_reducible first | exact HB.out | apply below_alloc | apply pw_below_drewN | apply below_drew1 | refine below_set ?_ GE10001.out) | exact HB.out)) hb); clear BK10001; clear HB; have BK10001 := n0_; have HB := n1_; clear n0_ n1_; (try clear hb); (try clear hb2); (try clear hk); (try clear hi); have hcz44_0 : w43.cell? ⟨gb10001, 0, none⟩ = some (.int .i64 a0_0) := (blk_cell BK10001.out 0).trans rfl; have hcz44_1 : w43.cell? ⟨gb10001, 1, none⟩ = some (.string a0_1) := (blk_cell BK10001.out 1).trans rfl; have hcz44_2 : w43.cell? ⟨gb10001, 2, none⟩ = some (.string a0_2) := (blk_cell BK10001.out 2).trans rfl; have hcz44_3 : w43.cell? ⟨gb10001, 3, none⟩ = some (.string a0_3) := (blk_cell BK10001.out 3).trans rfl; have hcz44_4 : w43.cell? ⟨gb10001, 4, none⟩ = some (.string a0_4) := (blk_cell BK10001.out 4).trans rfl; have hfz44_0 := blk_frozen BK10001.out 0; have hfz44_1 := blk_frozen BK10001.out 1; have hfz44_2 := blk_frozen BK10001.out 2; have hfz44_3 := blk_frozen BK10001.out 3; have hfz44_4 := blk_frozen BK10001.out 4) | (go_at_call 27; (with_reducible refine (dataflowref45_Word.calls kj1 a0_3 true _ A40.out).mono ?_); rintro e w' ⟨rfl, ⟨nd, rfl⟩⟩))
          go_meet
          case rel => exact ⟨_, ((a0_3.toList == ([42] : List UInt8))), (by first | rfl | (simp; done) | (simp [*]; done)), H', ⟨by have := HJ1.out; first | omega | exact Nat.le_refl _⟩, ⟨by (with_reducible repeat (first | refine blk_drewN ?_ _ | refine blk_drew ?_ | refine blk_alloc ?_ _)); exact BK10001.out⟩, ⟨by repeat (first | (with_reducible first | exact HB.out | apply below_alloc | apply pw_below_drewN | apply below_drew1 | refine below_set ?_ GE10001.out) | exact HB.out)⟩⟩
         ·replace c41 := Bool.eq_false_iff.mpr c41
          subst c41
          have H1 : (dataflowref46_Check.j1 kj1 true a0_0 a0_1 a0_2 a0_3 a0_4) = some r := by rw [if_neg (show ¬ (false = true) by decide)] at H; exact H
          clear H
          have H := H1
          clear H1
          have H' := Aside0.mk H
          clear H
          have hcz45_0 : wc.cell? ⟨gb10001, 0, none⟩ = some (.int .i64 a0_0) := (blk_cell BK10001.out 0).trans rfl
          have hcz45_1 : wc.cell? ⟨gb10001, 1, none⟩ = some (.string a0_1) := (blk_cell BK10001.out 1).trans rfl
          have hcz45_2 : wc.cell? ⟨gb10001, 2, none⟩ = some (.string a0_2) := (blk_cell BK10001.out 2).trans rfl
          have hcz45_3 : wc.cell? ⟨gb10001, 3, none⟩ = some (.string a0_3) := (blk_cell BK10001.out 3).trans rfl
          have hcz45_4 : wc.cell? ⟨gb10001, 4, none⟩ = some (.string a0_4) := (blk_cell BK10001.out 4).trans rfl
          have hfz45_0 := blk_frozen BK10001.out 0
          have hfz45_1 := blk_frozen BK10001.out 1
          have hfz45_2 := blk_frozen BK10001.out 2
          have hfz45_3 := blk_frozen BK10001.out 3
          have hfz45_4 := blk_frozen BK10001.out 4
          go_wp2_with (first | (go_at_call 26; (with_reducible refine (dataflowref07_Ident.calls kj1 a0_1 true _ A33.out).mono ?_); rintro e w46 ⟨rfl, hb⟩; have n0_ := Aside0.mk (blk_below (g := gb10001) (o := .cells #[.int .i64 a0_0, .string a0_1, .string a0_2, .string a0_3, .string a0_4] 23 (0, 0)) (by (with_reducible repeat (first | refine blk_drewN ?_ _ | refine blk_drew ?_ | refine blk_alloc ?_ _)); exact BK10001.out) hb); have n1_ := Aside0.mk (below_step (by repeat (first | (with_reducible first | exact HB.out | apply below_alloc | apply pw_below_drewN | apply below_drew1 | refine below_set ?_ GE10001.out) | exact HB.out)) hb); clear BK10001; clear HB; have BK10001 := n0_; have HB := n1_; clear n0_ n1_; (try clear hb); (try clear hb2); (try clear hk); (try clear hi); have hcz47_0 : w46.cell? ⟨gb10001, 0, none⟩ = some (.int .i64 a0_0) := (blk_cell BK10001.out 0).trans rfl; have hcz47_1 : w46.cell? ⟨gb10001, 1, none⟩ = some (.string a0_1) := (blk_cell BK10001.out 1).trans rfl; have hcz47_2 : w46.cell? ⟨gb10001, 2, none⟩ = some (.string a0_2) := (blk_cell BK10001.out 2).trans rfl; have hcz47_3 : w46.cell? ⟨gb10001, 3, none⟩ = some (.string a0_3) := (blk_cell BK10001.out 3).trans rfl; have hcz47_4 : w46.cell? ⟨gb10001, 4, none⟩ = some (.string a0_4) := (blk_cell BK10001.out 4).trans rfl; have hfz47_0 := blk_frozen BK10001.out 0; have hfz47_1 := blk_frozen BK10001.out 1; have hfz47_2 := blk_frozen BK10001.out 2; have hfz47_3 := blk_frozen BK10001.out 3; have hfz47_4 := blk_frozen BK10001.out 4) | (go_at_call 27; (with_reducible refine (dataflowref45_Word.calls kj1 a0_3 false _ A40.out).mono ?_); rintro e w' ⟨rfl, ⟨nd, rfl⟩⟩))
          go_meet
          case rel => exact ⟨_, (true), (by first | rfl | (simp; done) | (simp [*]; done)), H', ⟨by have := HJ1.out; first | omega | exact Nat.le_refl _⟩, ⟨by (with_reducible repeat (first | refine blk_drewN ?_ _ | refine blk_drew ?_ | refine blk_alloc ?_ _)); exact BK10001.out⟩, ⟨by repeat (first | (with_reducible first | exact HB.out | apply below_alloc | apply pw_below_drewN | apply below_drew1 | refine below_set ?_ GE10001.out) | exact HB.out)⟩⟩
       ·rw [if_neg c35] at H
        have c35b0 : (a0_2.toList == ([] : List UInt8)) = false := beq_eq_false_iff_ne.mpr c35
        have c35b1 : (a0_2.toList != ([] : List UInt8)) = true := bne_iff_ne.mpr c35
        replace H := Option.bind_eq_some_iff.mp H
        obtain ⟨t10007, A480, H⟩ := H
        replace H : (if t10007 = true then (if a0_3.toList = ([] : List UInt8) then (dataflowref46_Check.j1 kj1 (a0_3.toList == ([42] : List UInt8)) a0_0 a0_1 a0_2 a0_3 a0_4) else ((dataflowref45_Word.f kj1 a0_3).bind fun t10008 => (if t10008 = true then (dataflowref46_Check.j1 kj1 (a0_3.toList == ([42] : List UInt8)) a0_0 a0_1 a0_2 a0_3 a0_4) else (dataflowref46_Check.j1 kj1 true a0_0 a0_1 a0_2 a0_3 a0_4)))) else (dataflowref46_Check.j1 kj1 true a0_0 a0_1 a0_2 a0_3 a0_4)) = some r := H
        have A48 := Aside0.mk A480
        clear A480
        by_cases c49 : t10007 = true
        ·subst c49
         have H1 : (if a0_3.toList = ([] : List UInt8) then (dataflowref46_Check.j1 kj1 (a0_3.toList == ([42] : List UInt8)) a0_0 a0_1 a0_2 a0_3 a0_4) else ((dataflowref45_Word.f kj1 a0_3).bind fun t10008 => (if t10008 = true then (dataflowref46_Check.j1 kj1 (a0_3.toList == ([42] : List UInt8)) a0_0 a0_1 a0_2 a0_3 a0_4) else (dataflowref46_Check.j1 kj1 true a0_0 a0_1 a0_2 a0_3 a0_4)))) = some r := by rw [if_pos rfl] at H; exact H
         clear H
         have H := H1
         clear H1
         by_cases c50 : a0_3.toList = ([] : List UInt8)
         ·rw [if_pos c50] at H
          have c50b0 : (a0_3.toList == ([] : List UInt8)) = true := beq_iff_eq.mpr c50
          have c50b1 : (a0_3.toList != ([] : List UInt8)) = false := bne_eq_false_iff_eq.mpr c50
          clear c50
          have H' := Aside0.mk H
          clear H
          have hcz51_0 : wc.cell? ⟨gb10001, 0, none⟩ = some (.int .i64 a0_0) := (blk_cell BK10001.out 0).trans rfl
          have hcz51_1 : wc.cell? ⟨gb10001, 1, none⟩ = some (.string a0_1) := (blk_cell BK10001.out 1).trans rfl
          have hcz51_2 : wc.cell? ⟨gb10001, 2, none⟩ = some (.string a0_2) := (blk_cell BK10001.out 2).trans rfl
          have hcz51_3 : wc.cell? ⟨gb10001, 3, none⟩ = some (.string a0_3) := (blk_cell BK10001.out 3).trans rfl
          have hcz51_4 : wc.cell? ⟨gb10001, 4, none⟩ = some (.string a0_4) := (blk_cell BK10001.out 4).trans rfl
          have hfz51_0 := blk_frozen BK10001.out 0
          have hfz51_1 := blk_frozen BK10001.out 1
          have hfz51_2 := blk_frozen BK10001.out 2
          have hfz51_3 := blk_frozen BK10001.out 3
          have hfz51_4 := blk_frozen BK10001.out 4
          go_wp2_with (first | (go_at_call 26; (with_reducible refine (dataflowref07_Ident.calls kj1 a0_1 true _ A33.out).mono ?_); rintro e w52 ⟨rfl, hb⟩; have n0_ := Aside0.mk (blk_below (g := gb10001) (o := .cells #[.int .i64 a0_0, .string a0_1, .string a0_2, .string a0_3, .string a0_4] 23 (0, 0)) (by (with_reducible repeat (first | refine blk_drewN ?_ _ | refine blk_drew ?_ | refine blk_alloc ?_ _)); exact BK10001.out) hb); have n1_ := Aside0.mk (below_step (by repeat (first | (with_reducible first | exact HB.out | apply below_alloc | apply pw_below_drewN | apply below_drew1 | refine below_set ?_ GE10001.out) | exact HB.out)) hb); clear BK10001; clear HB; have BK10001 := n0_; have HB := n1_; clear n0_ n1_; (try clear hb); (try clear hb2); (try clear hk); (try clear hi); have hcz53_0 : w52.cell? ⟨gb10001, 0, none⟩ = some (.int .i64 a0_0) := (blk_cell BK10001.out 0).trans rfl; have hcz53_1 : w52.cell? ⟨gb10001, 1, none⟩ = some (.string a0_1) := (blk_cell BK10001.out 1).trans rfl; have hcz53_2 : w52.cell? ⟨gb10001, 2, none⟩ = some (.string a0_2) := (blk_cell BK10001.out 2).trans rfl; have hcz53_3 : w52.cell? ⟨gb10001, 3, none⟩ = some (.string a0_3) := (blk_cell BK10001.out 3).trans rfl; have hcz53_4 : w52.cell? ⟨gb10001, 4, none⟩ = some (.string a0_4) := (blk_cell BK10001.out 4).trans rfl; have hfz53_0 := blk_frozen BK10001.out 0; have hfz53_1 := blk_frozen BK10001.out 1; have hfz53_2 := blk_frozen BK10001.out 2; have hfz53_3 := blk_frozen BK10001.out 3; have hfz53_4 := blk_frozen BK10001.out 4) | (go_at_call 26; (with_reducible refine (dataflowref07_Ident.calls kj1 a0_2 true _ A48.out).mono ?_); rintro e w54 ⟨rfl, hb⟩; have n0_ := Aside0.mk (blk_below (g := gb10001) (o := .cells #[.int .i64 a0_0, .string a0_1, .string a0_2, .string a0_3, .string a0_4] 23 (0, 0)) (by (with_reducible repeat (first | refine blk_drewN ?_ _ | refine blk_drew ?_ | refine blk_alloc ?_ _)); exact BK10001.out) hb); have n1_ := Aside0.mk (below_step (by repeat (first | (with_reducible first | exact HB.out | apply below_alloc | apply pw_below_drewN | apply below_drew1 | refine below_set ?_ GE10001.out) | exact HB.out)) hb); clear BK10001; clear HB; have BK10001 := n0_; have HB := n1_; clear n0_ n1_; (try clear hb); (try clear hb2); (try clear hk); (try clear hi); have hcz55_0 : w54.cell? ⟨gb10001, 0, none⟩ = some (.int .i64 a0_0) := (blk_cell BK10001.out 0).trans rfl; have hcz55_1 : w54.cell? ⟨gb10001, 1, none⟩ = some (.string a0_1) := (blk_cell BK10001.out 1).trans rfl; have hcz55_2 : w54.cell? ⟨gb10001, 2, none⟩ = some (.string a0_2) := (blk_cell BK10001.out 2).trans rfl; have hcz55_3 : w54.cell? ⟨gb10001, 3, none⟩ = some (.string a0_3) := (blk_cell BK10001.out 3).trans rfl; have hcz55_4 : w54.cell? ⟨gb10001, 4, none⟩ = some (.string a0_4) := (blk_cell BK10001.out 4).trans rfl; have hfz55_0 := blk_frozen BK10001.out 0; have hfz55_1 := blk_frozen BK10001.out 1; have hfz55_2 := blk_frozen BK10001.out 2; have hfz55_3 := blk_frozen BK10001.out 3; have hfz55_4 := blk_frozen BK10001.out 4))
          go_meet
          case rel => exact ⟨_, ((a0_3.toList == ([42] : List UInt8))), (by first | rfl | (simp; done) | (simp [*]; done)), H', ⟨by have := HJ1.out; first | omega | exact Nat.le_refl _⟩, ⟨by (with_reducible repeat (first | refine blk_drewN ?_ _ | refine blk_drew ?_ | refine blk_alloc ?_ _)); exact BK10001.out⟩, ⟨by repeat (first | (with_reducible first | exact HB.out | apply below_alloc | apply pw_below_drewN | apply below_drew1 | refine below_set ?_ GE10001.out) | exact HB.out)⟩⟩
         ·rw [if_neg c50] at H
          have c50b0 : (a0_3.toList == ([] : List UInt8)) = false := beq_eq_false_iff_ne.mpr c50
          have c50b1 : (a0_3.toList != ([] : List UInt8)) = true := bne_iff_ne.mpr c50
          replace H := Option.bind_eq_some_iff.mp H
          obtain ⟨t10008, A560, H⟩ := H
          replace H : (if t10008 = true then (dataflowref46_Check.j1 kj1 (a0_3.toList == ([42] : List UInt8)) a0_0 a0_1 a0_2 a0_3 a0_4) else (dataflowref46_Check.j1 kj1 true a0_0 a0_1 a0_2 a0_3 a0_4)) = some r := H
          have A56 := Aside0.mk A560
          clear A560
          by_cases c57 : t10008 = true
          ·subst c57
           have H1 : (dataflowref46_Check.j1 kj1 (a0_3.toList == ([42] : List UInt8)) a0_0 a0_1 a0_2 a0_3 a0_4) = some r := by rw [if_pos rfl] at H; exact H
           clear H
           have H := H1
           clear H1
           have H' := Aside0.mk H
           clear H
           have hcz58_0 : wc.cell? ⟨gb10001, 0, none⟩ = some (.int .i64 a0_0) := (blk_cell BK10001.out 0).trans rfl
           have hcz58_1 : wc.cell? ⟨gb10001, 1, none⟩ = some (.string a0_1) := (blk_cell BK10001.out 1).trans rfl
           have hcz58_2 : wc.cell? ⟨gb10001, 2, none⟩ = some (.string a0_2) := (blk_cell BK10001.out 2).trans rfl
           have hcz58_3 : wc.cell? ⟨gb10001, 3, none⟩ = some (.string a0_3) := (blk_cell BK10001.out 3).trans rfl
           have hcz58_4 : wc.cell? ⟨gb10001, 4, none⟩ = some (.string a0_4) := (blk_cell BK10001.out 4).trans rfl
           have hfz58_0 := blk_frozen BK10001.out 0
           have hfz58_1 := blk_frozen BK10001.out 1
           have hfz58_2 := blk_frozen BK10001.out 2
           have hfz58_3 := blk_frozen BK10001.out 3
           have hfz58_4 := blk_frozen BK10001.out 4
           go_wp2_with (first | (go_at_call 26; (with_reducible refine (dataflowref07_Ident.calls kj1 a0_1 true _ A33.out).mono ?_); rintro e w59 ⟨rfl, hb⟩; have n0_ := Aside0.mk (blk_below (g := gb10001) (o := .cells #[.int .i64 a0_0, .string a0_1, .string a0_2, .string a0_3, .string a0_4] 23 (0, 0)) (by (with_reducible repeat (first | refine blk_drewN ?_ _ | refine blk_drew ?_ | refine blk_alloc ?_ _)); exact BK10001.out) hb); have n1_ := Aside0.mk (below_step (by repeat (first | (with_reducible first | exact HB.out | apply below_alloc | apply pw_below_drewN | apply below_drew1 | refine below_set ?_ GE10001.out) | exact HB.out)) hb); clear BK10001; clear HB; have BK10001 := n0_; have HB := n1_; clear n0_ n1_; (try clear hb); (try clear hb2); (try clear hk); (try clear hi); have hcz60_0 : w59.cell? ⟨gb10001, 0, none⟩ = some (.int .i64 a0_0) := (blk_cell BK10001.out 0).trans rfl; have hcz60_1 : w59.cell? ⟨gb10001, 1, none⟩ = some (.string a0_1) := (blk_cell BK10001.out 1).trans rfl; have hcz60_2 : w59.cell? ⟨gb10001, 2, none⟩ = some (.string a0_2) := (blk_cell BK10001.out 2).trans rfl; have hcz60_3 : w59.cell? ⟨gb10001, 3, none⟩ = some (.string a0_3) := (blk_cell BK10001.out 3).trans rfl; have hcz60_4 : w59.cell? ⟨gb10001, 4, none⟩ = some (.string a0_4) := (blk_cell BK10001.out 4).trans rfl; have hfz60_0 := blk_frozen BK10001.out 0; have hfz60_1 := blk_frozen BK10001.out 1; have hfz60_2 := blk_frozen BK10001.out 2; have hfz60_3 := blk_frozen BK10001.out 3; have hfz60_4 := blk_frozen BK10001.out 4) | (go_at_call 26; (with_reducible refine (dataflowref07_Ident.calls kj1 a0_2 true _ A48.out).mono ?_); rintro e w61 ⟨rfl, hb⟩; have n0_ := Aside0.mk (blk_below (g := gb10001) (o := .cells #[.int .i64 a0_0, .string a0_1, .string a0_2, .string a0_3, .string a0_4] 23 (0, 0)) (by (with_reducible repeat (first | refine blk_drewN ?_ _ | refine blk_drew ?_ | refine blk_alloc ?_ _)); exact BK10001.out) hb); have n1_ := Aside0.mk (below_step (by repeat (first | (with_reducible first | exact HB.out | apply below_alloc | apply pw_below_drewN | apply below_drew1 | refine below_set ?_ GE10001.out) | exact HB.out)) hb); clear BK10001; clear HB; have BK10001 := n0_; have HB := n1_; clear n0_ n1_; (try clear hb); (try clear hb2); (try clear hk); (try clear hi); have hcz62_0 : w61.cell? ⟨gb10001, 0, none⟩ = some (.int .i64 a0_0) := (blk_cell BK10001.out 0).trans rfl; have hcz62_1 : w61.cell? ⟨gb10001, 1, none⟩ = some (.string a0_1) := (blk_cell BK10001.out 1).trans rfl; have hcz62_2 : w61.cell? ⟨gb10001, 2, none⟩ = some (.string a0_2) := (blk_cell BK10001.out 2).trans rfl; have hcz62_3 : w61.cell? ⟨gb10001, 3, none⟩ = some (.string a0_3) := (blk_cell BK10001.out 3).trans rfl; have hcz62_4 : w61.cell? ⟨gb10001, 4, none⟩ = some (.string a0_4) := (blk_cell BK10001.out 4).trans rfl; have hfz62_0 := blk_frozen BK10001.out 0; have hfz62_1 := blk_frozen BK10001.out 1; have hfz62_2 := blk_frozen BK10001.out 2; have hfz62_3 := blk_frozen BK10001.out 3; have hfz62_4 := blk_frozen BK10001.out 4) | (go_at_call 27; (with_reducible refine (dataflowref45_Word.calls kj1 a0_3 true _ A56.out).mono ?_); rintro e w' ⟨rfl, ⟨nd, rfl⟩⟩))
           go_meet
           case rel => exact ⟨_, ((a0_3.toList == ([42] : List UInt8))), (by first | rfl | (simp; done) | (simp [*]; done)), H', ⟨by have := HJ1.out; first | omega | exact Nat.le_refl _⟩, ⟨by (with_reducible repeat (first | refine blk_drewN ?_ _ | refine blk_drew ?_ | refine blk_alloc ?_ _)); exact BK10001.out⟩, ⟨by repeat (first | (with_reducible first | exact HB.out | apply below_alloc | apply pw_below_drewN | apply below_drew1 | refine below_set ?_ GE10001.out) | exact HB.out)⟩⟩
          ·replace c57 := Bool.eq_false_iff.mpr c57
           subst c57
           have H1 : (dataflowref46_Check.j1 kj1 true a0_0 a0_1 a0_2 a0_3 a0_4) = some r := by rw [if_neg (show ¬ (false = true) by decide)] at H; exact H
           clear H
           have H := H1
           clear H1
           have H' := Aside0.mk H
           clear H
           have hcz63_0 : wc.cell? ⟨gb10001, 0, none⟩ = some (.int .i64 a0_0) := (blk_cell BK10001.out 0).trans rfl
           have hcz63_1 : wc.cell? ⟨gb10001, 1, none⟩ = some (.string a0_1) := (blk_cell BK10001.out 1).trans rfl
           have hcz63_2 : wc.cell? ⟨gb10001, 2, none⟩ = some (.string a0_2) := (blk_cell BK10001.out 2).trans rfl
           have hcz63_3 : wc.cell? ⟨gb10001, 3, none⟩ = some (.string a0_3) := (blk_cell BK10001.out 3).trans rfl
           have hcz63_4 : wc.cell? ⟨gb10001, 4, none⟩ = some (.string a0_4) := (blk_cell BK10001.out 4).trans rfl
           have hfz63_0 := blk_frozen BK10001.out 0
           have hfz63_1 := blk_frozen BK10001.out 1
           have hfz63_2 := blk_frozen BK10001.out 2
           have hfz63_3 := blk_frozen BK10001.out 3
           have hfz63_4 := blk_frozen BK10001.out 4
           go_wp2_with (first | (go_at_call 26; (with_reducible refine (dataflowref07_Ident.calls kj1 a0_1 true _ A33.out).mono ?_); rintro e w64 ⟨rfl, hb⟩; have n0_ := Aside0.mk (blk_below (g := gb10001) (o := .cells #[.int .i64 a0_0, .string a0_1, .string a0_2, .string a0_3, .string a0_4] 23 (0, 0)) (by (with_reducible repeat (first | refine blk_drewN ?_ _ | refine blk_drew ?_ | refine blk_alloc ?_ _)); exact BK10001.out) hb); have n1_ := Aside0.mk (below_step (by repeat (first | (with_reducible first | exact HB.out | apply below_alloc | apply pw_below_drewN | apply below_drew1 | refine below_set ?_ GE10001.out) | exact HB.out)) hb); clear BK10001; clear HB; have BK10001 := n0_; have HB := n1_; clear n0_ n1_; (try clear hb); (try clear hb2); (try clear hk); (try clear hi); have hcz65_0 : w64.cell? ⟨gb10001, 0, none⟩ = some (.int .i64 a0_0) := (blk_cell BK10001.out 0).trans rfl; have hcz65_1 : w64.cell? ⟨gb10001, 1, none⟩ = some (.string a0_1) := (blk_cell BK10001.out 1).trans rfl; have hcz65_2 : w64.cell? ⟨gb10001, 2, none⟩ = some (.string a0_2) := (blk_cell BK10001.out 2).trans rfl; have hcz65_3 : w64.cell? ⟨gb10001, 3, none⟩ = some (.string a0_3) := (blk_cell BK10001.out 3).trans rfl; have hcz65_4 : w64.cell? ⟨gb10001, 4, none⟩ = some (.string a0_4) := (blk_cell BK10001.out 4).trans rfl; have hfz65_0 := blk_frozen BK10001.out 0; have hfz65_1 := blk_frozen BK10001.out 1; have hfz65_2 := blk_frozen BK10001.out 2; have hfz65_3 := blk_frozen BK10001.out 3; have hfz65_4 := blk_frozen BK10001.out 4) | (go_at_call 26; (with_reducible refine (dataflowref07_Ident.calls kj1 a0_2 true _ A48.out).mono ?_); rintro e w66 ⟨rfl, hb⟩; have n0_ := Aside0.mk (blk_below (g := gb10001) (o := .cells #[.int .i64 a0_0, .string a0_1, .string a0_2, .string a0_3, .string a0_4] 23 (0, 0)) (by (with_reducible repeat (first | refine blk_drewN ?_ _ | refine blk_drew ?_ | refine blk_alloc ?_ _)); exact BK10001.out) hb); have n1_ := Aside0.mk (below_step (by repeat (first | (with_reducible first | exact HB.out | apply below_alloc | apply pw_below_drewN | apply below_drew1 | refine below_set ?_ GE10001.out) | exact HB.out)) hb); clear BK10001; clear HB; have BK10001 := n0_; have HB := n1_; clear n0_ n1_; (try clear hb); (try clear hb2); (try clear hk); (try clear hi); have hcz67_0 : w66.cell? ⟨gb10001, 0, none⟩ = some (.int .i64 a0_0) := (blk_cell BK10001.out 0).trans rfl; have hcz67_1 : w66.cell? ⟨gb10001, 1, none⟩ = some (.string a0_1) := (blk_cell BK10001.out 1).trans rfl; have hcz67_2 : w66.cell? ⟨gb10001, 2, none⟩ = some (.string a0_2) := (blk_cell BK10001.out 2).trans rfl; have hcz67_3 : w66.cell? ⟨gb10001, 3, none⟩ = some (.string a0_3) := (blk_cell BK10001.out 3).trans rfl; have hcz67_4 : w66.cell? ⟨gb10001, 4, none⟩ = some (.string a0_4) := (blk_cell BK10001.out 4).trans rfl; have hfz67_0 := blk_frozen BK10001.out 0; have hfz67_1 := blk_frozen BK10001.out 1; have hfz67_2 := blk_frozen BK10001.out 2; have hfz67_3 := blk_frozen BK10001.out 3; have hfz67_4 := blk_frozen BK10001.out 4) | (go_at_call 27; (with_reducible refine (dataflowref45_Word.calls kj1 a0_3 false _ A56.out).mono ?_); rintro e w' ⟨rfl, ⟨nd, rfl⟩⟩))
           go_meet
           case rel => exact ⟨_, (true), (by first | rfl | (simp; done) | (simp [*]; done)), H', ⟨by have := HJ1.out; first | omega | exact Nat.le_refl _⟩, ⟨by (with_reducible repeat (first | refine blk_drewN ?_ _ | refine blk_drew ?_ | refine blk_alloc ?_ _)); exact BK10001.out⟩, ⟨by repeat (first | (with_reducible first | exact HB.out | apply below_alloc | apply pw_below_drewN | apply below_drew1 | refine below_set ?_ GE10001.out) | exact HB.out)⟩⟩
        ·replace c49 := Bool.eq_false_iff.mpr c49
         subst c49
         have H1 : (dataflowref46_Check.j1 kj1 true a0_0 a0_1 a0_2 a0_3 a0_4) = some r := by rw [if_neg (show ¬ (false = true) by decide)] at H; exact H
         clear H
         have H := H1
         clear H1
         have H' := Aside0.mk H
         clear H
         have hcz68_0 : wc.cell? ⟨gb10001, 0, none⟩ = some (.int .i64 a0_0) := (blk_cell BK10001.out 0).trans rfl
         have hcz68_1 : wc.cell? ⟨gb10001, 1, none⟩ = some (.string a0_1) := (blk_cell BK10001.out 1).trans rfl
         have hcz68_2 : wc.cell? ⟨gb10001, 2, none⟩ = some (.string a0_2) := (blk_cell BK10001.out 2).trans rfl
         have hcz68_3 : wc.cell? ⟨gb10001, 3, none⟩ = some (.string a0_3) := (blk_cell BK10001.out 3).trans rfl
         have hcz68_4 : wc.cell? ⟨gb10001, 4, none⟩ = some (.string a0_4) := (blk_cell BK10001.out 4).trans rfl
         have hfz68_0 := blk_frozen BK10001.out 0
         have hfz68_1 := blk_frozen BK10001.out 1
         have hfz68_2 := blk_frozen BK10001.out 2
         have hfz68_3 := blk_frozen BK10001.out 3
         have hfz68_4 := blk_frozen BK10001.out 4
         go_wp2_with (first | (go_at_call 26; (with_reducible refine (dataflowref07_Ident.calls kj1 a0_1 true _ A33.out).mono ?_); rintro e w69 ⟨rfl, hb⟩; have n0_ := Aside0.mk (blk_below (g := gb10001) (o := .cells #[.int .i64 a0_0, .string a0_1, .string a0_2, .string a0_3, .string a0_4] 23 (0, 0)) (by (with_reducible repeat (first | refine blk_drewN ?_ _ | refine blk_drew ?_ | refine blk_alloc ?_ _)); exact BK10001.out) hb); have n1_ := Aside0.mk (below_step (by repeat (first | (with_reducible first | exact HB.out | apply below_alloc | apply pw_below_drewN | apply below_drew1 | refine below_set ?_ GE10001.out) | exact HB.out)) hb); clear BK10001; clear HB; have BK10001 := n0_; have HB := n1_; clear n0_ n1_; (try clear hb); (try clear hb2); (try clear hk); (try clear hi); have hcz70_0 : w69.cell? ⟨gb10001, 0, none⟩ = some (.int .i64 a0_0) := (blk_cell BK10001.out 0).trans rfl; have hcz70_1 : w69.cell? ⟨gb10001, 1, none⟩ = some (.string a0_1) := (blk_cell BK10001.out 1).trans rfl; have hcz70_2 : w69.cell? ⟨gb10001, 2, none⟩ = some (.string a0_2) := (blk_cell BK10001.out 2).trans rfl; have hcz70_3 : w69.cell? ⟨gb10001, 3, none⟩ = some (.string a0_3) := (blk_cell BK10001.out 3).trans rfl; have hcz70_4 : w69.cell? ⟨gb10001, 4, none⟩ = some (.string a0_4) := (blk_cell BK10001.out 4).trans rfl; have hfz70_0 := blk_frozen BK10001.out 0; have hfz70_1 := blk_frozen BK10001.out 1; have hfz70_2 := blk_frozen BK10001.out 2; have hfz70_3 := blk_frozen BK10001.out 3; have hfz70_4 := blk_frozen BK10001.out 4) | (go_at_call 26; (with_reducible refine (dataflowref07_Ident.calls kj1 a0_2 false _ A48.out).mono ?_); rintro e w71 ⟨rfl, hb⟩; have n0_ := Aside0.mk (blk_below (g := gb10001) (o := .cells #[.int .i64 a0_0, .string a0_1, .string a0_2, .string a0_3, .string a0_4] 23 (0, 0)) (by (with_reducible repeat (first | refine blk_drewN ?_ _ | refine blk_drew ?_ | refine blk_alloc ?_ _)); exact BK10001.out) hb); have n1_ := Aside0.mk (below_step (by repeat (first | (with_reducible first | exact HB.out | apply below_alloc | apply pw_below_drewN | apply below_drew1 | refine below_set ?_ GE10001.out) | exact HB.out)) hb); clear BK10001; clear HB; have BK10001 := n0_; have HB := n1_; clear n0_ n1_; (try clear hb); (try clear hb2); (try clear hk); (try clear hi)))
         go_meet
         case rel => exact ⟨_, (true), (by first | rfl | (simp; done) | (simp [*]; done)), H', ⟨by have := HJ1.out; first | omega | exact Nat.le_refl _⟩, ⟨by (with_reducible repeat (first | refine blk_drewN ?_ _ | refine blk_drew ?_ | refine blk_alloc ?_ _)); exact BK10001.out⟩, ⟨by repeat (first | (with_reducible first | exact HB.out | apply below_alloc | apply pw_below_drewN | apply below_drew1 | refine below_set ?_ GE10001.out) | exact HB.out)⟩⟩
      ·replace c34 := Bool.eq_false_iff.mpr c34
       subst c34
       have H1 : (dataflowref46_Check.j1 kj1 true a0_0 a0_1 a0_2 a0_3 a0_4) = some r := by rw [if_neg (show ¬ (false = true) by decide)] at H; exact H
       clear H
       have H := H1
       clear H1
       have H' := Aside0.mk H
       clear H
       have hcz72_0 : wc.cell? ⟨gb10001, 0, none⟩ = some (.int .i64 a0_0) := (blk_cell BK10001.out 0).trans rfl
       have hcz72_1 : wc.cell? ⟨gb10001, 1, none⟩ = some (.string a0_1) := (blk_cell BK10001.out 1).trans rfl
       have hcz72_2 : wc.cell? ⟨gb10001, 2, none⟩ = some (.string a0_2) := (blk_cell BK10001.out 2).trans rfl
       have hcz72_3 : wc.cell? ⟨gb10001, 3, none⟩ = some (.string a0_3) := (blk_cell BK10001.out 3).trans rfl
       have hcz72_4 : wc.cell? ⟨gb10001, 4, none⟩ = some (.string a0_4) := (blk_cell BK10001.out 4).trans rfl
       have hfz72_0 := blk_frozen BK10001.out 0
       have hfz72_1 := blk_frozen BK10001.out 1
       have hfz72_2 := blk_frozen BK10001.out 2
       have hfz72_3 := blk_frozen BK10001.out 3
       have hfz72_4 := blk_frozen BK10001.out 4
       go_wp2_with (first | (go_at_call 26; (with_reducible refine (dataflowref07_Ident.calls kj1 a0_1 false _ A33.out).mono ?_); rintro e w73 ⟨rfl, hb⟩; have n0_ := Aside0.mk (blk_below (g := gb10001) (o := .cells #[.int .i64 a0_0, .string a0_1, .string a0_2, .string a0_3, .string a0_4] 23 (0, 0)) (by (with_reducible repeat (first | refine blk_drewN ?_ _ | refine blk_drew ?_ | refine blk_alloc ?_ _)); exact BK10001.out) hb); have n1_ := Aside0.mk (below_step (by repeat (first | (with_reducible first | exact HB.out | apply below_alloc | apply pw_below_drewN | apply below_drew1 | refine below_set ?_ GE10001.out) | exact HB.out)) hb); clear BK10001; clear HB; have BK10001 := n0_; have HB := n1_; clear n0_ n1_; (try clear hb); (try clear hb2); (try clear hk); (try clear hi)))
       go_meet
       case rel => exact ⟨_, (true), (by first | rfl | (simp; done) | (simp [*]; done)), H', ⟨by have := HJ1.out; first | omega | exact Nat.le_refl _⟩, ⟨by (with_reducible repeat (first | refine blk_drewN ?_ _ | refine blk_drew ?_ | refine blk_alloc ?_ _)); exact BK10001.out⟩, ⟨by repeat (first | (with_reducible first | exact HB.out | apply below_alloc | apply pw_below_drewN | apply below_drew1 | refine below_set ?_ GE10001.out) | exact HB.out)⟩⟩
    case rest =>
     clear HC8
     try clear c1
     try clear c2
     try clear p2
     try clear c3
     try clear c4
     try clear c4b0
     try clear c5
     try clear c7
     try clear c9
     try clear c9b0
     try clear c9b1
     try clear c10
     try clear c10b0
     try clear c10b1
     try clear c11
     try clear c11b0
     try clear c11b1
     try clear c14
     try clear c18
     try clear c19
     try clear c19b0
     try clear c19b1
     try clear c24
     try clear c34
     try clear c35
     try clear c35b0
     try clear c35b1
     try clear c36
     try clear c36b0
     try clear c36b1
     try clear c41
     try clear c49
     try clear c50
     try clear c50b0
     try clear c50b1
     try clear c57
     try clear hcz12_0
     try clear hcz12_1
     try clear hcz12_2
     try clear hcz12_3
     try clear hcz12_4
     try clear hcz15_0
     try clear hcz15_1
     try clear hcz15_2
     try clear hcz15_3
     try clear hcz15_4
     try clear hcz16_0
     try clear hcz16_1
     try clear hcz16_2
     try clear hcz16_3
     try clear hcz16_4
     try clear hcz20_0
     try clear hcz20_1
     try clear hcz20_2
     try clear hcz20_3
     try clear hcz20_4
     try clear hcz22_0
     try clear hcz22_1
     try clear hcz22_2
     try clear hcz22_3
     try clear hcz22_4
     try clear hcz25_0
     try clear hcz25_1
     try clear hcz25_2
     try clear hcz25_3
     try clear hcz25_4
     try clear hcz27_0
     try clear hcz27_1
     try clear hcz27_2
     try clear hcz27_3
     try clear hcz27_4
     try clear hcz28_0
     try clear hcz28_1
     try clear hcz28_2
     try clear hcz28_3
     try clear hcz28_4
     try clear hcz30_0
     try clear hcz30_1
     try clear hcz30_2
     try clear hcz30_3
     try clear hcz30_4
     try clear hcz31_0
     try clear hcz31_1
     try clear hcz31_2
     try clear hcz31_3
     try clear hcz31_4
     try clear hcz37_0
     try clear hcz37_1
     try clear hcz37_2
     try clear hcz37_3
     try clear hcz37_4
     try clear hcz39_0
     try clear hcz39_1
     try clear hcz39_2
     try clear hcz39_3
     try clear hcz39_4
     try clear hcz42_0
     try clear hcz42_1
     try clear hcz42_2
     try clear hcz42_3
     try clear hcz42_4
     try clear hcz44_0
     try clear hcz44_1
     try clear hcz44_2
     try clear hcz44_3
     try clear hcz44_4
     try clear hcz45_0
     try clear hcz45_1
     try clear hcz45_2
     try clear hcz45_3
     try clear hcz45_4
     try clear hcz47_0
     try clear hcz47_1
     try clear hcz47_2
     try clear hcz47_3
     try clear hcz47_4
     try clear hcz51_0
     try clear hcz51_1
     try clear hcz51_2
     try clear hcz51_3
     try clear hcz51_4
     try clear hcz53_0
     try clear hcz53_1
     try clear hcz53_2
     try clear hcz53_3
     try clear hcz53_4
     try clear hcz55_0
     try clear hcz55_1
     try clear hcz55_2
     try clear hcz55_3
     try clear hcz55_4
     try clear hcz58_0
     try clear hcz58_1
     try clear hcz58_2
     try clear hcz58_3
     try clear hcz58_4
     try clear hcz5_0
     try clear hcz5_1
     try clear hcz5_2
     try clear hcz5_3
     try clear hcz5_4
     try clear hcz60_0
     try clear hcz60_1
     try clear hcz60_2
     try clear hcz60_3
     try clear hcz60_4
     try clear hcz62_0
     try clear hcz62_1
     try clear hcz62_2
     try clear hcz62_3
     try clear hcz62_4
     try clear hcz63_0
     try clear hcz63_1
     try clear hcz63_2
     try clear hcz63_3
     try clear hcz63_4
     try clear hcz65_0
     try clear hcz65_1
     try clear hcz65_2
     try clear hcz65_3
     try clear hcz65_4
     try clear hcz67_0
     try clear hcz67_1
     try clear hcz67_2
     try clear hcz67_3
     try clear hcz67_4
     try clear hcz68_0
     try clear hcz68_1
     try clear hcz68_2
     try clear hcz68_3
     try clear hcz68_4
     try clear hcz6_0
     try clear hcz6_1
     try clear hcz6_2
     try clear hcz6_3
     try clear hcz6_4
     try clear hcz70_0
     try clear hcz70_1
     try clear hcz70_2
     try clear hcz70_3
     try clear hcz70_4
     try clear hcz72_0
     try clear hcz72_1
     try clear hcz72_2
     try clear hcz72_3
     try clear hcz72_4
     try clear hfz12_0
     try clear hfz12_1
     try clear hfz12_2
     try clear hfz12_3
     try clear hfz12_4
     try clear hfz15_0
     try clear hfz15_1
     try clear hfz15_2
     try clear hfz15_3
     try clear hfz15_4
     try clear hfz16_0
     try clear hfz16_1
     try clear hfz16_2
     try clear hfz16_3
     try clear hfz16_4
     try clear hfz20_0
     try clear hfz20_1
     try clear hfz20_2
     try clear hfz20_3
     try clear hfz20_4
     try clear hfz22_0
     try clear hfz22_1
     try clear hfz22_2
     try clear hfz22_3
     try clear hfz22_4
     try clear hfz25_0
     try clear hfz25_1
     try clear hfz25_2
     try clear hfz25_3
     try clear hfz25_4
     try clear hfz27_0
     try clear hfz27_1
     try clear hfz27_2
     try clear hfz27_3
     try clear hfz27_4
     try clear hfz28_0
     try clear hfz28_1
     try clear hfz28_2
     try clear hfz28_3
     try clear hfz28_4
     try clear hfz30_0
     try clear hfz30_1
     try clear hfz30_2
     try clear hfz30_3
     try clear hfz30_4
     try clear hfz31_0
     try clear hfz31_1
     try clear hfz31_2
     try clear hfz31_3
     try clear hfz31_4
     try clear hfz37_0
     try clear hfz37_1
     try clear hfz37_2
     try clear hfz37_3
     try clear hfz37_4
     try clear hfz39_0
     try clear hfz39_1
     try clear hfz39_2
     try clear hfz39_3
     try clear hfz39_4
     try clear hfz42_0
     try clear hfz42_1
     try clear hfz42_2
     try clear hfz42_3
     try clear hfz42_4
     try clear hfz44_0
     try clear hfz44_1
     try clear hfz44_2
     try clear hfz44_3
     try clear hfz44_4
     try clear hfz45_0
     try clear hfz45_1
     try clear hfz45_2
     try clear hfz45_3
     try clear hfz45_4
     try clear hfz47_0
     try clear hfz47_1
     try clear hfz47_2
     try clear hfz47_3
     try clear hfz47_4
     try clear hfz51_0
     try clear hfz51_1
     try clear hfz51_2
     try clear hfz51_3
     try clear hfz51_4
     try clear hfz53_0
     try clear hfz53_1
     try clear hfz53_2
     try clear hfz53_3
     try clear hfz53_4
     try clear hfz55_0
     try clear hfz55_1
     try clear hfz55_2
     try clear hfz55_3
     try clear hfz55_4
     try clear hfz58_0
     try clear hfz58_1
     try clear hfz58_2
     try clear hfz58_3
     try clear hfz58_4
     try clear hfz5_0
     try clear hfz5_1
     try clear hfz5_2
     try clear hfz5_3
     try clear hfz5_4
     try clear hfz60_0
     try clear hfz60_1
     try clear hfz60_2
     try clear hfz60_3
     try clear hfz60_4
     try clear hfz62_0
     try clear hfz62_1
     try clear hfz62_2
     try clear hfz62_3
     try clear hfz62_4
     try clear hfz63_0
     try clear hfz63_1
     try clear hfz63_2
     try clear hfz63_3
     try clear hfz63_4
     try clear hfz65_0
     try clear hfz65_1
     try clear hfz65_2
     try clear hfz65_3
     try clear hfz65_4
     try clear hfz67_0
     try clear hfz67_1
     try clear hfz67_2
     try clear hfz67_3
     try clear hfz67_4
     try clear hfz68_0
     try clear hfz68_1
     try clear hfz68_2
     try clear hfz68_3
     try clear hfz68_4
     try clear hfz6_0
     try clear hfz6_1
     try clear hfz6_2
     try clear hfz6_3
     try clear hfz6_4
     try clear hfz70_0
     try clear hfz70_1
     try clear hfz70_2
     try clear hfz70_3
     try clear hfz70_4
     try clear hfz72_0
     try clear hfz72_1
     try clear hfz72_2
     try clear hfz72_3
     try clear hfz72_4
     try clear p2
     obtain ⟨kq, x46_7, rfl, HA, HJ7, BK10001, HB⟩ := hcut
     cases kq with
     | zero => exact absurd HA.out (by simp [dataflowref46_Check.j1])
     | succ kj7 =>
      have H := HA.out
      clear HA
      simp only [dataflowref46_Check.j1] at H
      by_cases c74 : x46_7 = true
      ·subst c74
       have H1 : (some 5) = some r := by rw [if_pos rfl] at H; exact H
       clear H
       have H := H1
       clear H1
       obtain rfl := Option.some.inj H
       go_wp2
       go_ret
       exact ⟨by first | rfl | (simp [errW_none, errW_some] <;> rfl) | (simp [*, errW_none, errW_some] <;> rfl), by repeat (first | (with_reducible first | exact HB.out | apply below_alloc | apply pw_below_drewN | apply below_drew1 | refine below_set ?_ GE10001.out) | exact HB.out)⟩
      ·replace c74 := Bool.eq_false_iff.mpr c74
       subst c74
       have H1 : ((dataflowref46_reason.f kj7 a0_4).bind fun t10009 => (if t10009 = true then (some 0) else (some 23))) = some r := by rw [if_neg (show ¬ (false = true) by decide)] at H; exact H
       clear H
       have H := H1
       clear H1
       replace H := Option.bind_eq_some_iff.mp H
       obtain ⟨t10009, A750, H⟩ := H
       replace H : (if t10009 = true then (some 0) else (some 23)) = some r := H
       have A75 := Aside0.mk A750
       clear A750
       by_cases c76 : t10009 = true
       ·subst c76
        have H1 : (some 0) = some r := by rw [if_pos rfl] at H; exact H
        clear H
        have H := H1
        clear H1
        obtain rfl := Option.some.inj H
        have hcz77_0 : wc.cell? ⟨gb10001, 0, none⟩ = some (.int .i64 a0_0) := (blk_cell BK10001.out 0).trans rfl
        have hcz77_1 : wc.cell? ⟨gb10001, 1, none⟩ = some (.string a0_1) := (blk_cell BK10001.out 1).trans rfl
        have hcz77_2 : wc.cell? ⟨gb10001, 2, none⟩ = some (.string a0_2) := (blk_cell BK10001.out 2).trans rfl
        have hcz77_3 : wc.cell? ⟨gb10001, 3, none⟩ = some (.string a0_3) := (blk_cell BK10001.out 3).trans rfl
        have hcz77_4 : wc.cell? ⟨gb10001, 4, none⟩ = some (.string a0_4) := (blk_cell BK10001.out 4).trans rfl
        have hfz77_0 := blk_frozen BK10001.out 0
        have hfz77_1 := blk_frozen BK10001.out 1
        have hfz77_2 := blk_frozen BK10001.out 2
        have hfz77_3 := blk_frozen BK10001.out 3
        have hfz77_4 := blk_frozen BK10001.out 4
        go_wp2_with (first | ((with_reducible refine gate_callee (f := 28) rfl ?_); refine goesL_ (some 49) rfl rfl Tryd.func28 (by kernel_rfl) rfl #[.string a0_4] rfl (by (try simp only [List.map_toArray, List.map_cons, List.map_nil]); first | done | rfl | (simp only [List.length_drop, List.length_take]; rfl)) ?_; (with_reducible refine (dataflowref46_reason.calls kj7 a0_4 true _ A75.out).mono ?_); rintro e w' ⟨rfl, ⟨nd, rfl⟩⟩; refine ⟨_, rfl, ?_⟩))
        go_ret
        exact ⟨by first | rfl | (simp [errW_none, errW_some] <;> rfl) | (simp [*, errW_none, errW_some] <;> rfl), by repeat (first | (with_reducible first | exact HB.out | apply below_alloc | apply pw_below_drewN | apply below_drew1 | refine below_set ?_ GE10001.out) | exact HB.out)⟩
       ·replace c76 := Bool.eq_false_iff.mpr c76
        subst c76
        have H1 : (some 23) = some r := by rw [if_neg (show ¬ (false = true) by decide)] at H; exact H
        clear H
        have H := H1
        clear H1
        obtain rfl := Option.some.inj H
        have hcz78_0 : wc.cell? ⟨gb10001, 0, none⟩ = some (.int .i64 a0_0) := (blk_cell BK10001.out 0).trans rfl
        have hcz78_1 : wc.cell? ⟨gb10001, 1, none⟩ = some (.string a0_1) := (blk_cell BK10001.out 1).trans rfl
        have hcz78_2 : wc.cell? ⟨gb10001, 2, none⟩ = some (.string a0_2) := (blk_cell BK10001.out 2).trans rfl
        have hcz78_3 : wc.cell? ⟨gb10001, 3, none⟩ = some (.string a0_3) := (blk_cell BK10001.out 3).trans rfl
        have hcz78_4 : wc.cell? ⟨gb10001, 4, none⟩ = some (.string a0_4) := (blk_cell BK10001.out 4).trans rfl
        have hfz78_0 := blk_frozen BK10001.out 0
        have hfz78_1 := blk_frozen BK10001.out 1
        have hfz78_2 := blk_frozen BK10001.out 2
        have hfz78_3 := blk_frozen BK10001.out 3
        have hfz78_4 := blk_frozen BK10001.out 4
        go_wp2_with (first | ((with_reducible refine gate_callee (f := 28) rfl ?_); refine goesL_ (some 49) rfl rfl Tryd.func28 (by kernel_rfl) rfl #[.string a0_4] rfl (by (try simp only [List.map_toArray, List.map_cons, List.map_nil]); first | done | rfl | (simp only [List.length_drop, List.length_take]; rfl)) ?_; (with_reducible refine (dataflowref46_reason.calls kj7 a0_4 false _ A75.out).mono ?_); rintro e w' ⟨rfl, ⟨nd, rfl⟩⟩; refine ⟨_, rfl, ?_⟩))
        go_ret
        exact ⟨by first | rfl | (simp [errW_none, errW_some] <;> rfl) | (simp [*, errW_none, errW_some] <;> rfl), by repeat (first | (with_reducible first | exact HB.out | apply below_alloc | apply pw_below_drewN | apply below_drew1 | refine below_set ?_ GE10001.out) | exact HB.out)⟩

end Go.Proofs.YtnoangbidnigdaaDoor.H

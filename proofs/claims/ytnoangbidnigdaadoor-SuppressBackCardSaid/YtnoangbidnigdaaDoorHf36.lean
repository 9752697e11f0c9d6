/- Printed by a program of this session (xprint.py, over the kit's printer): Go functions as Lean functions, each with the proof that the call does what the Lean function says. -/
import Derived.Test.YtnoangbidnigdaaDoorH0
import Derived.Test.YtnoangbidnigdaaDoorHf8
import Derived.Test.YtnoangbidnigdaaDoorHf55
import Derived.Test.YtnoangbidnigdaaDoorHf56
import Derived.Test.YtnoangbidnigdaaDoorHf57
namespace Go.Proofs.YtnoangbidnigdaaDoor.H
open Go.RowKit Go.Proofs.YtnoangbidnigdaaDoorW.PrintWords Go.Proofs.YtnoangbidnigdaaDoorW.PrintLast Go.Proofs.YtnoangbidnigdaaDoorW.PrintMore
attribute [local go_sem] max2_int min2_int max_two min_two max_three min_three max_four min_four   -- for this text's walks alone
attribute [local go_sem] xs_gtr xs_leq xs_geq
set_option linter.unusedVariables false
set_option linter.unusedSimpArgs false

/-! ### suppress_note: function 36 -/
def suppress_note.j0 : Nat → List ByteArray → Bool → List ByteArray → Option (Int × ByteArray × ByteArray × ByteArray × ByteArray × Option Int)
 | 0, _, _, _ => none
 | k + 1, x4, x17, x900000 => if x17 = true then (some (0, (⟨#[]⟩ : ByteArray), (⟨#[]⟩ : ByteArray), (⟨#[]⟩ : ByteArray), (⟨#[]⟩ : ByteArray), some 2)) else (if 1 < (x4.length : Int) then ((slices_Index_string_string.f k x900000 (rdOf ByteArray.empty x4 1)).bind fun t37007 => (if t37007 < 0 then (some (0, (⟨#[]⟩ : ByteArray), (⟨#[]⟩ : ByteArray), (⟨#[]⟩ : ByteArray), (⟨#[]⟩ : ByteArray), some 2)) else (if 2 < (x4.length : Int) then ((suppress_unstar.f (rdOf ByteArray.empty x4 2)).bind fun t37009 => (if 3 < (x4.length : Int) then ((suppress_unstar.f (rdOf ByteArray.empty x4 3)).bind fun t37011 => (if 4 < (x4.length : Int) then ((suppress_unstar.f (rdOf ByteArray.empty x4 4)).bind fun t37013 => (if 5 < (x4.length : Int) then (if (rdOf ByteArray.empty x4 2).toList = ([] : List UInt8) then (some (0, (⟨#[]⟩ : ByteArray), (⟨#[]⟩ : ByteArray), (⟨#[]⟩ : ByteArray), (⟨#[]⟩ : ByteArray), some 2)) else (if (rdOf ByteArray.empty x4 3).toList = ([] : List UInt8) then (some (0, (⟨#[]⟩ : ByteArray), (⟨#[]⟩ : ByteArray), (⟨#[]⟩ : ByteArray), (⟨#[]⟩ : ByteArray), some 2)) else (if (rdOf ByteArray.empty x4 4).toList = ([] : List UInt8) then (some (0, (⟨#[]⟩ : ByteArray), (⟨#[]⟩ : ByteArray), (⟨#[]⟩ : ByteArray), (⟨#[]⟩ : ByteArray), some 2)) else ((suppress_Check.f k t37007 t37009 t37011 t37013 (rdOf ByteArray.empty x4 5)).bind fun t37019 => (some (t37007, t37009, t37011, t37013, rdOf ByteArray.empty x4 5, some t37019)))))) else (none))) else (none))) else (none))) else (none)))) else (none))
def suppress_note.f (k : Nat) (a0 : ByteArray) : Option (Int × ByteArray × ByteArray × ByteArray × ByteArray × Option Int) := (strings_SplitN.f a0 (⟨#[32]⟩ : ByteArray) 6).bind fun t37002 => (if (t37002.length : Int) < 6 then (suppress_note.j0 k t37002 true wordsL) else (if 0 < (t37002.length : Int) then (suppress_note.j0 k t37002 ((rdOf ByteArray.empty t37002 0).toList != ([115, 117, 112, 112, 114, 101, 115, 115] : List UInt8)) wordsL) else (none)))
theorem suppress_note.mono_l : ∀ k, (∀ y0 y1 y2, LeO (suppress_note.j0 k y0 y1 y2) (suppress_note.j0 (k + 1) y0 y1 y2))
 | 0 => fun _ _ _ r h => by simp [suppress_note.j0] at h
 | k + 1 => by
  have ih0 := suppress_note.mono_l k
  ·intro y0 y1 y2
   unfold suppress_note.j0
   repeat' first
   | (with_reducible exact ih0 _ _ _)
   | (with_reducible exact slices_Index_string_string.mono _ _ _)
   | (with_reducible exact suppress_Check.mono _ _ _ _ _ _)
   | (with_reducible exact LeO.refl _)
   | (with_reducible exact LeO.none _)
   | (with_reducible refine LeO.ite ?_ ?_)
   | (with_reducible refine LeO.bind ?_ (fun _ => ?_))
   | exact ih0 _ _ _
   | exact slices_Index_string_string.mono _ _ _
   | exact suppress_Check.mono _ _ _ _ _ _
   | exact LeO.none _
   | refine LeO.ite ?_ ?_
   | refine LeO.bind ?_ (fun _ => ?_)
theorem suppress_note.mono : ∀ a0 k, LeO (suppress_note.f k a0) (suppress_note.f (k + 1) a0) := by
 intro a0 k
 have ih0 := suppress_note.mono_l k
 unfold suppress_note.f
 repeat' first
   | (with_reducible exact ih0 _ _ _)
   | (with_reducible exact slices_Index_string_string.mono _ _ _)
   | (with_reducible exact suppress_Check.mono _ _ _ _ _ _)
   | (with_reducible exact LeO.refl _)
   | (with_reducible exact LeO.none _)
   | (with_reducible refine LeO.ite ?_ ?_)
   | (with_reducible refine LeO.bind ?_ (fun _ => ?_))
   | exact ih0 _ _ _
   | exact slices_Index_string_string.mono _ _ _
   | exact suppress_Check.mono _ _ _ _ _ _
   | exact LeO.none _
   | refine LeO.ite ?_ ?_
   | refine LeO.bind ?_ (fun _ => ?_)
def suppress_note.T7 : Bool × List (List Nat × List Nat) := (true, [([], []), ([], []), ([1], [1]), ([2], [2]), ([3], [3]), ([], []), ([5], [5]), ([6], [6]), ([7, 4], [7]), ([], []), ([9], [9]), ([10], [10]), ([11, 8], [11]), ([], []), ([13], [13]), ([14], [14]), ([0, 4, 8, 12, 15], [0, 4, 8, 12, 15]), ([], []), ([17, 16, 12, 0, 1, 2, 3, 4, 5, 6, 7, 8, 9, 10, 11, 12, 13, 14, 15, 16, 17], [16, 17])])
def suppress_note.B7 : List Nat := [0, 0, 2, 6, 14, 0, 32, 96, 254, 0, 512, 1536, 4094, 0, 8192, 24576, 65535, 0, 262143]
theorem suppress_note.tab7 : rtab .any (opsOf Tryd.f36 7) = suppress_note.T7 := by kernel_rfl
theorem suppress_note.bits7 : waitsOk suppress_note.T7.2 suppress_note.B7 = true := by kernel_rfl
set_option maxHeartbeats 8000000 in
set_option maxRecDepth 100000 in
theorem suppress_note.calls (k : Nat) (a0 : ByteArray) (r1 : Int) (r2 : ByteArray) (r3 : ByteArray) (r4 : ByteArray) (r5 : ByteArray) (r6 : Option Int) (w : World) (hgh : Gh w) (h : suppress_note.f k a0 = some (r1, r2, r3, r4, r5, r6)) :
  Calls Tryd.prog 36 #[.string a0] w fun e w' => e = .returned (.tuple #[.agg #[.int .i64 r1, .string r2, .string r3, .string r4, .string r5], errW r6]) ∧ Below w.heap.size w w' := by
 have hu23 := Tryd.underlying23
 have hu61 := Tryd.underlying61
 have hu29 := Tryd.underlying29
 have HB := Aside0.mk (Below.refl w.heap.size w)
 have HGH := Aside0.mk hgh
 clear hgh
 have HRG0 := Aside0.mk (Gh.wd_C HGH.out)
 have HCG0 := Aside0.mk (show wordsL.length ≤ 5 by decide)
 have H : ((strings_SplitN.f a0 (⟨#[32]⟩ : ByteArray) 6).bind fun t37002 => (if (t37002.length : Int) < 6 then (suppress_note.j0 k t37002 true wordsL) else (if 0 < (t37002.length : Int) then (suppress_note.j0 k t37002 ((rdOf ByteArray.empty t37002 0).toList != ([115, 117, 112, 112, 114, 101, 115, 115] : List UInt8)) wordsL) else (none)))) = some (r1, r2, r3, r4, r5, r6) := h
 clear h
 replace H := Option.bind_eq_some_iff.mp H
 obtain ⟨t37002, A20, H⟩ := H
 replace H : (if (t37002.length : Int) < 6 then (suppress_note.j0 k t37002 true wordsL) else (if 0 < (t37002.length : Int) then (suppress_note.j0 k t37002 ((rdOf ByteArray.empty t37002 0).toList != ([115, 117, 112, 112, 114, 101, 115, 115] : List UInt8)) wordsL) else (none))) = some (r1, r2, r3, r4, r5, r6) := H
 have A2 := Aside0.mk A20
 clear A20
 have HC3 := Aside0.mk H
 clear H
 go_enter Tryd.func36, Tryd.ntmps36
 go_upto_region 2 with (first | ((with_reducible refine gate_dst (N := 2) rfl ?_); refine box_event ?hg (N := 2) ?hd (cs := #[.int .i64 0, .string (⟨#[]⟩ : ByteArray), .string (⟨#[]⟩ : ByteArray), .string (⟨#[]⟩ : ByteArray), .string (⟨#[]⟩ : ByteArray)]) (t := 23) ?hr ?_; (case hd => rfl); (case hg => rfl); (case hr => first | (go_simp; done) | (go_simp; rfl)); intro gb37001 hg w4 hbox hb; have n0_ := Aside0.mk (below_step (by repeat (first | (with_reducible first | exact HB.out | apply below_alloc | apply pw_below_drewN | apply below_drew1) | exact HB.out)) hb); have n1_ := Aside0.mk (hbox); have n2_ := Aside0.mk ((by rw [hg]; exact (below_size (by repeat (first | (with_reducible first | exact HB.out | apply below_alloc | apply pw_below_drewN | apply below_drew1) | exact HB.out))) : w.heap.size ≤ gb37001)); have n3_ := Aside0.mk ((by rw [hg]; exact (below_size (by repeat (first | (with_reducible first | exact HB.out | apply below_alloc | apply pw_below_drewN | apply below_drew1) | exact HB.out))) : w.heap.size ≤ gb37001)); clear HB; have HB := n0_; have BK37001 := n1_; have GW37001 := n2_; have GE37001 := n3_; clear n0_ n1_ n2_ n3_; clear hb hbox hg) | ((with_reducible refine gate_callee (f := 55) rfl ?_); refine goesL_ (some 8) rfl rfl Tryd.func55 (by kernel_rfl) rfl #[.string a0, .string (⟨#[32]⟩ : ByteArray), .int .i64 6] rfl (by (try simp only [List.map_toArray, List.map_cons, List.map_nil]); first | done | rfl | (simp only [List.length_drop, List.length_take]; rfl)) ?_; (with_reducible refine (strings_SplitN.calls a0 (⟨#[32]⟩ : ByteArray) 6 t37002 _ ?side1 A2.out).mono ?_); (case side1 => exact Gh.below HGH.out (by repeat (first | (with_reducible first | exact HB.out | apply below_alloc | apply pw_below_drewN | apply below_drew1 | refine below_set ?_ GE37001.out) | exact HB.out))); rintro e w5 ⟨v37003, rfl, ho0, hb⟩; refine ⟨_, rfl, ?_⟩; have n0_ := Aside0.mk (Kd.R_lower ho0 (below_size (by repeat (first | (with_reducible first | exact HB.out | apply below_alloc | apply pw_below_drewN | apply below_drew1 | refine below_set ?_ GE37001.out) | exact HB.out)))); have n1_ := Aside0.mk (blk_below (g := gb37001) (o := .cells #[.int .i64 0, .string (⟨#[]⟩ : ByteArray), .string (⟨#[]⟩ : ByteArray), .string (⟨#[]⟩ : ByteArray), .string (⟨#[]⟩ : ByteArray)] 23 (0, 0)) (by (with_reducible repeat (first | refine blk_drewN ?_ _ | refine blk_drew ?_ | refine blk_alloc ?_ _)); exact BK37001.out) hb); have n2_ := Aside0.mk (below_step (by repeat (first | (with_reducible first | exact HB.out | apply below_alloc | apply pw_below_drewN | apply below_drew1 | refine below_set ?_ GE37001.out) | exact HB.out)) hb); clear BK37001; clear HB; have HO37004 := n0_; have BK37001 := n1_; have HB := n2_; clear n0_ n1_ n2_; (try clear hb); (try clear hb2); (try clear hk); (try clear hi); (try clear ho0)))
 (try simp only [Act.put, List.setIfInBounds_toArray, List.set_cons_zero, List.set_cons_succ])
 go_cut [17] (fun v17 wc => ∃ (kq : Nat) (x17_2 : Bool), v17 = .bool x17_2 ∧ Aside0 (suppress_note.j0 kq t37002 x17_2 wordsL = some (r1, r2, r3, r4, r5, r6)) ∧ Aside0 (kq ≤ k) ∧ Aside0 (Kd.R Kd.string 9 wc w.heap.size (fun _ => True) v37003 t37002) ∧ Aside0 (wc.heap[gb37001]? = some (.cells #[.int .i64 0, .string (⟨#[]⟩ : ByteArray), .string (⟨#[]⟩ : ByteArray), .string (⟨#[]⟩ : ByteArray), .string (⟨#[]⟩ : ByteArray)] 23 (0, 0))) ∧ Aside0 (Below w.heap.size w wc))
 case first =>
  have H := HC3.out
  clear HC3
  by_cases c6 : (t37002.length : Int) < 6
  ·rw [if_pos c6] at H
   have c6b0 : decide ((t37002.length : Int) < 6) = true := decide_eq_true c6
   have c6b1 : decide (t37002.length < 6) = true := decide_eq_true (by omega)
   clear c6
   (first | rw [c6b0] | (simp only [i64_w, i32_w]; rw [c6b0]) | skip)
   have H' := Aside0.mk H
   clear H
   obtain ⟨Ao7, co7, eo7⟩ := Kd.R_slice HO37004.out
   subst eo7
   go_wp2
   go_meet
   case rel => exact ⟨_, (true), (by first | rfl | (simp; done) | (simp [*]; done)), H', ⟨by first | omega | exact Nat.le_refl _⟩, ⟨by (with_reducible repeat (first | apply Kd.R_alloc | apply Kd.R_drewN | apply Kd.R_drew)); exact HO37004.out⟩, ⟨by (with_reducible repeat (first | refine blk_drewN ?_ _ | refine blk_drew ?_ | refine blk_alloc ?_ _)); exact BK37001.out⟩, ⟨by repeat (first | (with_reducible first | exact HB.out | apply below_alloc | apply pw_below_drewN | apply below_drew1 | refine below_set ?_ GE37001.out) | exact HB.out)⟩⟩
  ·rw [if_neg c6] at H
   have c6b0 : decide ((t37002.length : Int) < 6) = false := decide_eq_false c6
   have c6b1 : decide (t37002.length < 6) = false := decide_eq_false (by omega)
   clear c6
   (first | rw [c6b0] | (simp only [i64_w, i32_w]; rw [c6b0]) | skip)
   by_cases c8 : 0 < (t37002.length : Int)
   ·rw [if_pos c8] at H
    have c8b0 : decide (0 < (t37002.length : Int)) = true := decide_eq_true c8
    have c8b1 : decide (0 < t37002.length) = true := decide_eq_true (by omega)
    clear c8
    have H' := Aside0.mk H
    clear H
    obtain ⟨Ao9, co9, eo9⟩ := Kd.R_slice HO37004.out
    subst eo9
    have p37005 : 0 ≤ (0 : Int) := (by omega)
    have q37005 : 0 < (t37002.length : Int) := of_decide_eq_true (by first | (with_reducible assumption) | assumption)
    obtain ⟨ad37005, e37005, hx37005_0⟩ := Kd.at_string (Kd.R_reads' HO37004.out).2.2 0 p37005 q37005
    cases e37005
    have qi37005 : (0 < t37002.length) = True := eq_true (by omega)
    (try rw [show ((0 : Int)).toNat = 0 from rfl] at hx37005_0)
    (try rw [Addr.add_zero'] at hx37005_0)
    replace p37005 := eq_true p37005
    replace q37005 := eq_true q37005
    go_wp2
    go_meet
    case rel => exact ⟨_, (((rdOf ByteArray.empty t37002 0).toList != ([115, 117, 112, 112, 114, 101, 115, 115] : List UInt8))), (by first | rfl | (simp; done) | (simp [*]; done)), H', ⟨by first | omega | exact Nat.le_refl _⟩, ⟨by (with_reducible repeat (first | apply Kd.R_alloc | apply Kd.R_drewN | apply Kd.R_drew)); exact HO37004.out⟩, ⟨by (with_reducible repeat (first | refine blk_drewN ?_ _ | refine blk_drew ?_ | refine blk_alloc ?_ _)); exact BK37001.out⟩, ⟨by repeat (first | (with_reducible first | exact HB.out | apply below_alloc | apply pw_below_drewN | apply below_drew1 | refine below_set ?_ GE37001.out) | exact HB.out)⟩⟩
   ·rw [if_neg c8] at H
    exact absurd H (by simp)
 case rest =>
  clear HC3
  try clear p2
  try clear c3
  try clear p3
  try clear q3
  try clear hx3
  try clear qi3
  try clear c5
  try clear c6
  try clear c6b0
  try clear c6b1
  try clear c8
  try clear c8b0
  try clear c8b1
  try clear hx37005_0
  try clear p37005
  try clear q37005
  obtain ⟨kq, x17_2, rfl, HA, HJ2, HO_4, BK37001, HB⟩ := hcut
  cases kq with
  | zero => exact absurd HA.out (by simp [suppress_note.j0])
  | succ kj2 =>
   have H := HA.out
   clear HA
   simp only [suppress_note.j0] at H
   by_cases c10 : x17_2 = true
   ·subst c10
    have H1 : (some (0, (⟨#[]⟩ : ByteArray), (⟨#[]⟩ : ByteArray), (⟨#[]⟩ : ByteArray), (⟨#[]⟩ : ByteArray), some 2)) = some (r1, r2, r3, r4, r5, r6) := by rw [if_pos rfl] at H; exact H
    clear H
    have H := H1
    clear H1
    simp only [Option.some.injEq, Prod.mk.injEq] at H
    obtain ⟨rfl, rfl, rfl, rfl, rfl, rfl⟩ := H
    have hcz11_0 : wc.cell? ⟨gb37001, 0, none⟩ = some (.int .i64 0) := (blk_cell BK37001.out 0).trans rfl
    have hcz11_1 : wc.cell? ⟨gb37001, 1, none⟩ = some (.string (⟨#[]⟩ : ByteArray)) := (blk_cell BK37001.out 1).trans rfl
    have hcz11_2 : wc.cell? ⟨gb37001, 2, none⟩ = some (.string (⟨#[]⟩ : ByteArray)) := (blk_cell BK37001.out 2).trans rfl
    have hcz11_3 : wc.cell? ⟨gb37001, 3, none⟩ = some (.string (⟨#[]⟩ : ByteArray)) := (blk_cell BK37001.out 3).trans rfl
    have hcz11_4 : wc.cell? ⟨gb37001, 4, none⟩ = some (.string (⟨#[]⟩ : ByteArray)) := (blk_cell BK37001.out 4).trans rfl
    have hfz11_0 := blk_frozen BK37001.out 0
    have hfz11_1 := blk_frozen BK37001.out 1
    have hfz11_2 := blk_frozen BK37001.out 2
    have hfz11_3 := blk_frozen BK37001.out 3
    have hfz11_4 := blk_frozen BK37001.out 4
    go_wp2
    refine bodyPost_ret (results_ct rfl _ _ gb37001 23 #[.int .i64 0, .string (⟨#[]⟩ : ByteArray), .string (⟨#[]⟩ : ByteArray), .string (⟨#[]⟩ : ByteArray), .string (⟨#[]⟩ : ByteArray)] (0, 0) _ rfl (by (with_reducible repeat (first | refine blk_drewN ?_ _ | refine blk_drew ?_ | refine blk_alloc ?_ _)); refine blk_put (cs := #[.int .i64 0, .string (⟨#[]⟩ : ByteArray), .string (⟨#[]⟩ : ByteArray), .string (⟨#[]⟩ : ByteArray), .string (⟨#[]⟩ : ByteArray)]) ?_ 4 _ rfl; (with_reducible repeat (first | refine blk_drewN ?_ _ | refine blk_drew ?_ | refine blk_alloc ?_ _)); refine blk_put (cs := #[.int .i64 0, .string (⟨#[]⟩ : ByteArray), .string (⟨#[]⟩ : ByteArray), .string (⟨#[]⟩ : ByteArray), .string (⟨#[]⟩ : ByteArray)]) ?_ 3 _ rfl; (with_reducible repeat (first | refine blk_drewN ?_ _ | refine blk_drew ?_ | refine blk_alloc ?_ _)); refine blk_put (cs := #[.int .i64 0, .string (⟨#[]⟩ : ByteArray), .string (⟨#[]⟩ : ByteArray), .string (⟨#[]⟩ : ByteArray), .string (⟨#[]⟩ : ByteArray)]) ?_ 2 _ rfl; (with_reducible repeat (first | refine blk_drewN ?_ _ | refine blk_drew ?_ | refine blk_alloc ?_ _)); refine blk_put (cs := #[.int .i64 0, .string (⟨#[]⟩ : ByteArray), .string (⟨#[]⟩ : ByteArray), .string (⟨#[]⟩ : ByteArray), .string (⟨#[]⟩ : ByteArray)]) ?_ 1 _ rfl; (with_reducible repeat (first | refine blk_drewN ?_ _ | refine blk_drew ?_ | refine blk_alloc ?_ _)); refine blk_put (cs := #[.int .i64 0, .string (⟨#[]⟩ : ByteArray), .string (⟨#[]⟩ : ByteArray), .string (⟨#[]⟩ : ByteArray), .string (⟨#[]⟩ : ByteArray)]) ?_ 0 _ rfl; (with_reducible repeat (first | refine blk_drewN ?_ _ | refine blk_drew ?_ | refine blk_alloc ?_ _)); exact BK37001.out) Tryd.underlying23 rfl (by kernel_rfl)) rfl ?_
    exact ⟨by first | rfl | (simp [errW_none, errW_some] <;> rfl) | (simp [*, errW_none, errW_some] <;> rfl), by repeat (first | (with_reducible first | exact HB.out | apply below_alloc | apply pw_below_drewN | apply below_drew1 | refine below_set ?_ GE37001.out) | exact HB.out)⟩
   ·replace c10 := Bool.eq_false_iff.mpr c10
    subst c10
    have H1 : (if 1 < (t37002.length : Int) then ((slices_Index_string_string.f kj2 wordsL (rdOf ByteArray.empty t37002 1)).bind fun t37007 => (if t37007 < 0 then (some (0, (⟨#[]⟩ : ByteArray), (⟨#[]⟩ : ByteArray), (⟨#[]⟩ : ByteArray), (⟨#[]⟩ : ByteArray), some 2)) else (if 2 < (t37002.length : Int) then ((suppress_unstar.f (rdOf ByteArray.empty t37002 2)).bind fun t37009 => (if 3 < (t37002.length : Int) then ((suppress_unstar.f (rdOf ByteArray.empty t37002 3)).bind fun t37011 => (if 4 < (t37002.length : Int) then ((suppress_unstar.f (rdOf ByteArray.empty t37002 4)).bind fun t37013 => (if 5 < (t37002.length : Int) then (if (rdOf ByteArray.empty t37002 2).toList = ([] : List UInt8) then (some (0, (⟨#[]⟩ : ByteArray), (⟨#[]⟩ : ByteArray), (⟨#[]⟩ : ByteArray), (⟨#[]⟩ : ByteArray), some 2)) else (if (rdOf ByteArray.empty t37002 3).toList = ([] : List UInt8) then (some (0, (⟨#[]⟩ : ByteArray), (⟨#[]⟩ : ByteArray), (⟨#[]⟩ : ByteArray), (⟨#[]⟩ : ByteArray), some 2)) else (if (rdOf ByteArray.empty t37002 4).toList = ([] : List UInt8) then (some (0, (⟨#[]⟩ : ByteArray), (⟨#[]⟩ : ByteArray), (⟨#[]⟩ : ByteArray), (⟨#[]⟩ : ByteArray), some 2)) else ((suppress_Check.f kj2 t37007 t37009 t37011 t37013 (rdOf ByteArray.empty t37002 5)).bind fun t37019 => (some (t37007, t37009, t37011, t37013, rdOf ByteArray.empty t37002 5, some t37019)))))) else (none))) else (none))) else (none))) else (none)))) else (none)) = some (r1, r2, r3, r4, r5, r6) := by rw [if_neg (show ¬ (false = true) by decide)] at H; exact H
    clear H
    have H := H1
    clear H1
    by_cases c12 : 1 < (t37002.length : Int)
    ·rw [if_pos c12] at H
     have c12b0 : decide (1 < (t37002.length : Int)) = true := decide_eq_true c12
     have c12b1 : decide (1 < t37002.length) = true := decide_eq_true (by omega)
     clear c12
     replace H := Option.bind_eq_some_iff.mp H
     obtain ⟨t37007, A130, H⟩ := H
     replace H : (if t37007 < 0 then (some (0, (⟨#[]⟩ : ByteArray), (⟨#[]⟩ : ByteArray), (⟨#[]⟩ : ByteArray), (⟨#[]⟩ : ByteArray), some 2)) else (if 2 < (t37002.length : Int) then ((suppress_unstar.f (rdOf ByteArray.empty t37002 2)).bind fun t37009 => (if 3 < (t37002.length : Int) then ((suppress_unstar.f (rdOf ByteArray.empty t37002 3)).bind fun t37011 => (if 4 < (t37002.length : Int) then ((suppress_unstar.f (rdOf ByteArray.empty t37002 4)).bind fun t37013 => (if 5 < (t37002.length : Int) then (if (rdOf ByteArray.empty t37002 2).toList = ([] : List UInt8) then (some (0, (⟨#[]⟩ : ByteArray), (⟨#[]⟩ : ByteArray), (⟨#[]⟩ : ByteArray), (⟨#[]⟩ : ByteArray), some 2)) else (if (rdOf ByteArray.empty t37002 3).toList = ([] : List UInt8) then (some (0, (⟨#[]⟩ : ByteArray), (⟨#[]⟩ : ByteArray), (⟨#[]⟩ : ByteArray), (⟨#[]⟩ : ByteArray), some 2)) else (if (rdOf ByteArray.empty t37002 4).toList = ([] : List UInt8) then (some (0, (⟨#[]⟩ : ByteArray), (⟨#[]⟩ : ByteArray), (⟨#[]⟩ : ByteArray), (⟨#[]⟩ : ByteArray), some 2)) else ((suppress_Check.f kj2 t37007 t37009 t37011 t37013 (rdOf ByteArray.empty t37002 5)).bind fun t37019 => (some (t37007, t37009, t37011, t37013, rdOf ByteArray.empty t37002 5, some t37019)))))) else (none))) else (none))) else (none))) else (none))) = some (r1, r2, r3, r4, r5, r6) := H
     have A13 := Aside0.mk A130
     clear A130
     try go_wp2
     have n0_ := Aside0.mk (Kd.R_drew HO_4.out)
     have n1_ := Aside0.mk (blk_drew BK37001.out)
     have n2_ := Aside0.mk (below_drew1 HB.out)
     clear HO_4
     clear BK37001
     clear HB
     have HO_4 := n0_
     have BK37001 := n1_
     have HB := n2_
     clear n0_ n1_ n2_
     obtain ⟨Ao66, co66, eo66⟩ := Kd.R_slice HO_4.out
     (first | subst eo66 | (injection eo66 with f1_ f2_ f3_; have f4_ := f1_.symm; have f5_ := f3_.symm; clear f1_ f2_ f3_; subst f4_; subst f5_))
     have p37006 : 0 ≤ (1 : Int) := (by omega)
     have q37006 : 1 < (t37002.length : Int) := of_decide_eq_true (by first | (with_reducible assumption) | assumption)
     obtain ⟨ad37006, e37006, hx37006_0⟩ := Kd.at_string (Kd.R_reads' HO_4.out).2.2 1 p37006 q37006
     cases e37006
     (try simp only [show (1 : Int).toNat = 1 from rfl, Nat.reduceMul, Nat.reduceEqDiff, Go.Addr.add, ↓reduceIte] at hx37006_0)
     have qi37006 : (1 < t37002.length) = True := eq_true (by omega)
     (try rw [show ((1 : Int)).toNat = 1 from rfl] at hx37006_0)
     replace p37006 := eq_true p37006
     replace q37006 := eq_true q37006
     refine start_ (n := 6) (S := fun w' => w'.cell? ⟨ad37006.block, ad37006.off + 1, none⟩ = some (.string (rdOf ByteArray.empty t37002 1))) (ds := []) #[false, false, false, false, false, false] (by kernel_rfl) rfl rfl (hx37006_0) (fun hHeld => ?_)
     generalize wc.drew = w65 at HO_4 BK37001 HB hx37006_0 hHeld ⊢
     refine pure_ (i := 0) (N := some 20) (v := ?_) (a' := ?_) #[true, false, false, false, false, false] rfl rfl (by kernel_rfl) (fun _ _ _ h => h) (Or.inl ⟨by rfl, ?_⟩) ?_ ?_
     rotate_left
     ·intro w'
      go_simp
      with_reducible rfl
     rotate_left
     ·simp only [Act.put, List.setIfInBounds_toArray, List.set_cons_zero, List.set_cons_succ, i64_w, i32_w]
      rfl
     refine pure_ (i := 1) (N := some 21) (v := ?_) (a' := ?_) #[true, true, false, false, false, false] rfl rfl (by kernel_rfl) (fun _ _ _ h => h) (Or.inl ⟨by rfl, ?_⟩) ?_ ?_
     rotate_left
     ·intro w'
      go_simp
      with_reducible rfl
     rotate_left
     ·simp only [Act.put, List.setIfInBounds_toArray, List.set_cons_zero, List.set_cons_succ, i64_w, i32_w]
      rfl
     refine pure_ (i := 2) (N := some 22) (v := ?_) (a' := ?_) #[true, true, true, false, false, false] rfl rfl (by kernel_rfl) (fun _ _ _ h => h) (Or.inl ⟨by rfl, ?_⟩) ?_ ?_
     rotate_left
     ·intro w'
      go_simp
      with_reducible rfl
     rotate_left
     ·simp only [Act.put, List.setIfInBounds_toArray, List.set_cons_zero, List.set_cons_succ, i64_w, i32_w]
      rfl
     refine take_ (i := 3) (N := some 23) (v := ?_) (a' := ?_) #[true, true, true, true, false, false] rfl rfl (by kernel_rfl) (fun _ _ _ h => h) (Or.inl ⟨by rfl, ?_⟩) hHeld ?_ ?_
     rotate_left
     ·intro w' s0
      go_simp
      with_reducible rfl
     rotate_left
     ·simp only [Act.put, List.setIfInBounds_toArray, List.set_cons_zero, List.set_cons_succ, i64_w, i32_w]
      rfl
     refine one_ (i := 4) (N := some 24) #[true, true, true, true, true, false] rfl rfl (by kernel_rfl) (by decide) (fun K hK => ?_)
     refine goes_ Tryd.func56 (by kernel_rfl) rfl #[.slice (some ⟨0, 0, none⟩) wordsL.length 5, .string (rdOf ByteArray.empty t37002 1)] (by rfl) rfl rfl (by (try simp only [List.map_toArray, List.map_cons, List.map_nil]); first | done | rfl | (simp only [List.length_drop, List.length_take]; rfl)) ?_
     with_reducible refine (slices_Index_string_string.calls kj2 _ _ wordsL (rdOf ByteArray.empty t37002 1) t37007 _ ?side1 ?side2 A13.out).mono ?_
     (case side1 => repeat (first | exact (Kd.C_below HRG0.out HB.out) | (with_reducible refine Kd.C_alloc ?_ _) | (with_reducible refine Kd.C_drewN ?_ _) | (with_reducible refine Kd.C_drew ?_)))
     (case side2 => exact HCG0.out)
     rintro e w' ⟨rfl, ⟨nd, rfl⟩⟩
     refine ⟨_, rfl, ?_⟩
     refine hK.out _ _ (hHeld) (fun hHeld => ?_)
     clear hK K
     refine norm_ (a' := ?_) ?_ ?_
     rotate_left
     ·show Act.put _ (some 24) _ = _
      simp only [Act.put, List.setIfInBounds_toArray, List.set_cons_zero, List.set_cons_succ, i64_w, i32_w]
      rfl
     refine pure_ (i := 5) (N := some 5) (v := ?_) (a' := ?_) #[true, true, true, true, true, true] rfl rfl (by kernel_rfl) (fun _ _ _ h => h) (Or.inl ⟨by rfl, ?_⟩) ?_ ?_
     rotate_left
     ·intro w'
      go_simp
      with_reducible rfl
     rotate_left
     ·simp only [Act.put, List.setIfInBounds_toArray, List.set_cons_zero, List.set_cons_succ, i64_w, i32_w]
      rfl
     refine done_ (by kernel_rfl) ?_
     by_cases c14 : t37007 < 0
     ·rw [if_pos c14] at H
      have c14b0 : decide (t37007 < 0) = true := decide_eq_true c14
      clear c14
      simp only [Option.some.injEq, Prod.mk.injEq] at H
      obtain ⟨rfl, rfl, rfl, rfl, rfl, rfl⟩ := H
      have hcz17_0 : w65.cell? ⟨gb37001, 0, none⟩ = some (.int .i64 0) := (blk_cell BK37001.out 0).trans rfl
      have hcz17_1 : w65.cell? ⟨gb37001, 1, none⟩ = some (.string (⟨#[]⟩ : ByteArray)) := (blk_cell BK37001.out 1).trans rfl
      have hcz17_2 : w65.cell? ⟨gb37001, 2, none⟩ = some (.string (⟨#[]⟩ : ByteArray)) := (blk_cell BK37001.out 2).trans rfl
      have hcz17_3 : w65.cell? ⟨gb37001, 3, none⟩ = some (.string (⟨#[]⟩ : ByteArray)) := (blk_cell BK37001.out 3).trans rfl
      have hcz17_4 : w65.cell? ⟨gb37001, 4, none⟩ = some (.string (⟨#[]⟩ : ByteArray)) := (blk_cell BK37001.out 4).trans rfl
      have hfz17_0 := blk_frozen BK37001.out 0
      have hfz17_1 := blk_frozen BK37001.out 1
      have hfz17_2 := blk_frozen BK37001.out 2
      have hfz17_3 := blk_frozen BK37001.out 3
      have hfz17_4 := blk_frozen BK37001.out 4
      try go_wp2
      refine bodyPost_ret (results_ct rfl _ _ gb37001 23 #[.int .i64 0, .string (⟨#[]⟩ : ByteArray), .string (⟨#[]⟩ : ByteArray), .string (⟨#[]⟩ : ByteArray), .string (⟨#[]⟩ : ByteArray)] (0, 0) _ rfl (by (with_reducible repeat (first | refine blk_drewN ?_ _ | refine blk_drew ?_ | refine blk_alloc ?_ _)); refine blk_put (cs := #[.int .i64 0, .string (⟨#[]⟩ : ByteArray), .string (⟨#[]⟩ : ByteArray), .string (⟨#[]⟩ : ByteArray), .string (⟨#[]⟩ : ByteArray)]) ?_ 4 _ rfl; (with_reducible repeat (first | refine blk_drewN ?_ _ | refine blk_drew ?_ | refine blk_alloc ?_ _)); refine blk_put (cs := #[.int .i64 0, .string (⟨#[]⟩ : ByteArray), .string (⟨#[]⟩ : ByteArray), .string (⟨#[]⟩ : ByteArray), .string (⟨#[]⟩ : ByteArray)]) ?_ 3 _ rfl; (with_reducible repeat (first | refine blk_drewN ?_ _ | refine blk_drew ?_ | refine blk_alloc ?_ _)); refine blk_put (cs := #[.int .i64 0, .string (⟨#[]⟩ : ByteArray), .string (⟨#[]⟩ : ByteArray), .string (⟨#[]⟩ : ByteArray), .string (⟨#[]⟩ : ByteArray)]) ?_ 2 _ rfl; (with_reducible repeat (first | refine blk_drewN ?_ _ | refine blk_drew ?_ | refine blk_alloc ?_ _)); refine blk_put (cs := #[.int .i64 0, .string (⟨#[]⟩ : ByteArray), .string (⟨#[]⟩ : ByteArray), .string (⟨#[]⟩ : ByteArray), .string (⟨#[]⟩ : ByteArray)]) ?_ 1 _ rfl; (with_reducible repeat (first | refine blk_drewN ?_ _ | refine blk_drew ?_ | refine blk_alloc ?_ _)); refine blk_put (cs := #[.int .i64 0, .string (⟨#[]⟩ : ByteArray), .string (⟨#[]⟩ : ByteArray), .string (⟨#[]⟩ : ByteArray), .string (⟨#[]⟩ : ByteArray)]) ?_ 0 _ rfl; (with_reducible repeat (first | refine blk_drewN ?_ _ | refine blk_drew ?_ | refine blk_alloc ?_ _)); exact BK37001.out) Tryd.underlying23 rfl (by kernel_rfl)) rfl ?_
      exact ⟨by first | rfl | (simp [errW_none, errW_some] <;> rfl) | (simp [*, errW_none, errW_some] <;> rfl), by repeat (first | (with_reducible first | exact HB.out | apply below_alloc | apply pw_below_drewN | apply below_drew1 | refine below_set ?_ GE37001.out) | exact HB.out)⟩
     ·rw [if_neg c14] at H
      have c14b0 : decide (t37007 < 0) = false := decide_eq_false c14
      clear c14
      by_cases c18 : 2 < (t37002.length : Int)
      ·rw [if_pos c18] at H
       have c18b0 : decide (2 < (t37002.length : Int)) = true := decide_eq_true c18
       have c18b1 : decide (2 < t37002.length) = true := decide_eq_true (by omega)
       clear c18
       replace H := Option.bind_eq_some_iff.mp H
       obtain ⟨t37009, A190, H⟩ := H
       replace H : (if 3 < (t37002.length : Int) then ((suppress_unstar.f (rdOf ByteArray.empty t37002 3)).bind fun t37011 => (if 4 < (t37002.length : Int) then ((suppress_unstar.f (rdOf ByteArray.empty t37002 4)).bind fun t37013 => (if 5 < (t37002.length : Int) then (if (rdOf ByteArray.empty t37002 2).toList = ([] : List UInt8) then (some (0, (⟨#[]⟩ : ByteArray), (⟨#[]⟩ : ByteArray), (⟨#[]⟩ : ByteArray), (⟨#[]⟩ : ByteArray), some 2)) else (if (rdOf ByteArray.empty t37002 3).toList = ([] : List UInt8) then (some (0, (⟨#[]⟩ : ByteArray), (⟨#[]⟩ : ByteArray), (⟨#[]⟩ : ByteArray), (⟨#[]⟩ : ByteArray), some 2)) else (if (rdOf ByteArray.empty t37002 4).toList = ([] : List UInt8) then (some (0, (⟨#[]⟩ : ByteArray), (⟨#[]⟩ : ByteArray), (⟨#[]⟩ : ByteArray), (⟨#[]⟩ : ByteArray), some 2)) else ((suppress_Check.f kj2 t37007 t37009 t37011 t37013 (rdOf ByteArray.empty t37002 5)).bind fun t37019 => (some (t37007, t37009, t37011, t37013, rdOf ByteArray.empty t37002 5, some t37019)))))) else (none))) else (none))) else (none)) = some (r1, r2, r3, r4, r5, r6) := H
       have A19 := Aside0.mk A190
       clear A190
       by_cases c20 : 3 < (t37002.length : Int)
       ·rw [if_pos c20] at H
        have c20b0 : decide (3 < (t37002.length : Int)) = true := decide_eq_true c20
        have c20b1 : decide (3 < t37002.length) = true := decide_eq_true (by omega)
        clear c20
        replace H := Option.bind_eq_some_iff.mp H
        obtain ⟨t37011, A210, H⟩ := H
        replace H : (if 4 < (t37002.length : Int) then ((suppress_unstar.f (rdOf ByteArray.empty t37002 4)).bind fun t37013 => (if 5 < (t37002.length : Int) then (if (rdOf ByteArray.empty t37002 2).toList = ([] : List UInt8) then (some (0, (⟨#[]⟩ : ByteArray), (⟨#[]⟩ : ByteArray), (⟨#[]⟩ : ByteArray), (⟨#[]⟩ : ByteArray), some 2)) else (if (rdOf ByteArray.empty t37002 3).toList = ([] : List UInt8) then (some (0, (⟨#[]⟩ : ByteArray), (⟨#[]⟩ : ByteArray), (⟨#[]⟩ : ByteArray), (⟨#[]⟩ : ByteArray), some 2)) else (if (rdOf ByteArray.empty t37002 4).toList = ([] : List UInt8) then (some (0, (⟨#[]⟩ : ByteArray), (⟨#[]⟩ : ByteArray), (⟨#[]⟩ : ByteArray), (⟨#[]⟩ : ByteArray), some 2)) else ((suppress_Check.f kj2 t37007 t37009 t37011 t37013 (rdOf ByteArray.empty t37002 5)).bind fun t37019 => (some (t37007, t37009, t37011, t37013, rdOf ByteArray.empty t37002 5, some t37019)))))) else (none))) else (none)) = some (r1, r2, r3, r4, r5, r6) := H
        have A21 := Aside0.mk A210
        clear A210
        by_cases c22 : 4 < (t37002.length : Int)
        ·rw [if_pos c22] at H
         have c22b0 : decide (4 < (t37002.length : Int)) = true := decide_eq_true c22
         have c22b1 : decide (4 < t37002.length) = true := decide_eq_true (by omega)
         clear c22
         replace H := Option.bind_eq_some_iff.mp H
         obtain ⟨t37013, A230, H⟩ := H
         replace H : (if 5 < (t37002.length : Int) then (if (rdOf ByteArray.empty t37002 2).toList = ([] : List UInt8) then (some (0, (⟨#[]⟩ : ByteArray), (⟨#[]⟩ : ByteArray), (⟨#[]⟩ : ByteArray), (⟨#[]⟩ : ByteArray), some 2)) else (if (rdOf ByteArray.empty t37002 3).toList = ([] : List UInt8) then (some (0, (⟨#[]⟩ : ByteArray), (⟨#[]⟩ : ByteArray), (⟨#[]⟩ : ByteArray), (⟨#[]⟩ : ByteArray), some 2)) else (if (rdOf ByteArray.empty t37002 4).toList = ([] : List UInt8) then (some (0, (⟨#[]⟩ : ByteArray), (⟨#[]⟩ : ByteArray), (⟨#[]⟩ : ByteArray), (⟨#[]⟩ : ByteArray), some 2)) else ((suppress_Check.f kj2 t37007 t37009 t37011 t37013 (rdOf ByteArray.empty t37002 5)).bind fun t37019 => (some (t37007, t37009, t37011, t37013, rdOf ByteArray.empty t37002 5, some t37019)))))) else (none)) = some (r1, r2, r3, r4, r5, r6) := H
         have A23 := Aside0.mk A230
         clear A230
         by_cases c24 : 5 < (t37002.length : Int)
         ·rw [if_pos c24] at H
          have c24b0 : decide (5 < (t37002.length : Int)) = true := decide_eq_true c24
          have c24b1 : decide (5 < t37002.length) = true := decide_eq_true (by omega)
          clear c24
          try go_wp2
          (try (rw [drewN_self w65]; generalize hq_ : World.drewN w65 _ = w65; have n0_ : Aside0 (Kd.R Kd.string 9 w65 w.heap.size (fun _ => True) (.slice (some ad37006) t37002.length co66) t37002) := ⟨by rw [← hq_]; exact (by (with_reducible repeat (first | apply Kd.R_alloc | apply Kd.R_drewN | apply Kd.R_drew)); exact HO_4.out)⟩; have n1_ : Aside0 (w65.heap[gb37001]? = some (.cells #[.int .i64 0, .string (⟨#[]⟩ : ByteArray), .string (⟨#[]⟩ : ByteArray), .string (⟨#[]⟩ : ByteArray), .string (⟨#[]⟩ : ByteArray)] 23 (0, 0))) := ⟨by rw [← hq_]; exact (by (with_reducible repeat (first | refine blk_drewN ?_ _ | refine blk_drew ?_ | refine blk_alloc ?_ _)); exact BK37001.out)⟩; have n2_ : Aside0 (Below w.heap.size w w65) := ⟨by rw [← hq_]; exact (by repeat (first | (with_reducible first | exact HB.out | apply below_alloc | apply pw_below_drewN | apply below_drew1 | refine below_set ?_ GE37001.out) | exact HB.out))⟩; clear HO_4 BK37001 HB hq_; have HO_4 := n0_; have BK37001 := n1_; have HB := n2_; clear n0_ n1_ n2_))
          have n0_ := Aside0.mk (Kd.R_drew HO_4.out)
          have n1_ := Aside0.mk (blk_drew BK37001.out)
          have n2_ := Aside0.mk (below_drew1 HB.out)
          clear HO_4
          clear BK37001
          clear HB
          have HO_4 := n0_
          have BK37001 := n1_
          have HB := n2_
          clear n0_ n1_ n2_
          have p37008 : 0 ≤ (2 : Int) := (by omega)
          have q37008 : 2 < (t37002.length : Int) := of_decide_eq_true (by first | (with_reducible assumption) | assumption)
          obtain ⟨ad37008, e37008, hx37008_0⟩ := Kd.at_string (Kd.R_reads' HO_4.out).2.2 2 p37008 q37008
          obtain rfl : ad37006 = ad37008 := (by injection e37008)
          (try simp only [show (2 : Int).toNat = 2 from rfl, Nat.reduceMul, Nat.reduceEqDiff, Go.Addr.add, ↓reduceIte] at hx37008_0)
          have qi37008 : (2 < t37002.length) = True := eq_true (by omega)
          (try rw [show ((2 : Int)).toNat = 2 from rfl] at hx37008_0)
          replace p37008 := eq_true p37008
          replace q37008 := eq_true q37008
          have p37010 : 0 ≤ (3 : Int) := (by omega)
          have q37010 : 3 < (t37002.length : Int) := of_decide_eq_true (by first | (with_reducible assumption) | assumption)
          obtain ⟨ad37010, e37010, hx37010_0⟩ := Kd.at_string (Kd.R_reads' HO_4.out).2.2 3 p37010 q37010
          obtain rfl : ad37006 = ad37010 := (by injection e37010)
          (try simp only [show (3 : Int).toNat = 3 from rfl, Nat.reduceMul, Nat.reduceEqDiff, Go.Addr.add, ↓reduceIte] at hx37010_0)
          have qi37010 : (3 < t37002.length) = True := eq_true (by omega)
          (try rw [show ((3 : Int)).toNat = 3 from rfl] at hx37010_0)
          replace p37010 := eq_true p37010
          replace q37010 := eq_true q37010
          have p37012 : 0 ≤ (4 : Int) := (by omega)
          have q37012 : 4 < (t37002.length : Int) := of_decide_eq_true (by first | (with_reducible assumption) | assumption)
          obtain ⟨ad37012, e37012, hx37012_0⟩ := Kd.at_string (Kd.R_reads' HO_4.out).2.2 4 p37012 q37012
          obtain rfl : ad37006 = ad37012 := (by injection e37012)
          (try simp only [show (4 : Int).toNat = 4 from rfl, Nat.reduceMul, Nat.reduceEqDiff, Go.Addr.add, ↓reduceIte] at hx37012_0)
          have qi37012 : (4 < t37002.length) = True := eq_true (by omega)
          (try rw [show ((4 : Int)).toNat = 4 from rfl] at hx37012_0)
          replace p37012 := eq_true p37012
          replace q37012 := eq_true q37012
          have p37014 : 0 ≤ (5 : Int) := (by omega)
          have q37014 : 5 < (t37002.length : Int) := of_decide_eq_true (by first | (with_reducible assumption) | assumption)
          obtain ⟨ad37014, e37014, hx37014_0⟩ := Kd.at_string (Kd.R_reads' HO_4.out).2.2 5 p37014 q37014
          obtain rfl : ad37006 = ad37014 := (by injection e37014)
          (try simp only [show (5 : Int).toNat = 5 from rfl, Nat.reduceMul, Nat.reduceEqDiff, Go.Addr.add, ↓reduceIte] at hx37014_0)
          have qi37014 : (5 < t37002.length) = True := eq_true (by omega)
          (try rw [show ((5 : Int)).toNat = 5 from rfl] at hx37014_0)
          replace p37014 := eq_true p37014
          replace q37014 := eq_true q37014
          refine start_ (n := 19) (S := fun w' => w'.cell? ⟨ad37006.block, ad37006.off + 2, none⟩ = some (.string (rdOf ByteArray.empty t37002 2)) ∧ w'.cell? ⟨ad37006.block, ad37006.off + 3, none⟩ = some (.string (rdOf ByteArray.empty t37002 3)) ∧ w'.cell? ⟨ad37006.block, ad37006.off + 4, none⟩ = some (.string (rdOf ByteArray.empty t37002 4)) ∧ w'.cell? ⟨ad37006.block, ad37006.off + 5, none⟩ = some (.string (rdOf ByteArray.empty t37002 5))) (ds := []) #[false, false, false, false, false, false, false, false, false, false, false, false, false, false, false, false, false, false, false] (by kernel_rfl) rfl rfl ⟨hx37008_0, hx37010_0, hx37012_0, hx37014_0⟩ (fun hHeld => ?_); refine with_tabW suppress_note.tab7 suppress_note.bits7 (fun HT_ HW_ => ?_)
          generalize w65.drew = w67 at HO_4 BK37001 HB hx37008_0 hx37010_0 hx37012_0 hx37014_0 hHeld ⊢
          refine pure_ (i := 0) (N := some 29) (v := ?_) (a' := ?_) #[true, false, false, false, false, false, false, false, false, false, false, false, false, false, false, false, false, false, false] rfl rfl (any_of HT_.out (by kernel_rfl)) (fun _ _ _ h => h) (Or.inl ⟨by rfl, ?_⟩) ?_ ?_
          rotate_left
          ·intro w'
           go_simp
           with_reducible rfl
          rotate_left
          ·simp only [Act.put, List.setIfInBounds_toArray, List.set_cons_zero, List.set_cons_succ, i64_w, i32_w]
           rfl
          refine pure_ (i := 1) (N := some 30) (v := ?_) (a' := ?_) #[true, true, false, false, false, false, false, false, false, false, false, false, false, false, false, false, false, false, false] rfl rfl (any_of HT_.out (by kernel_rfl)) (fun _ _ _ h => h) (Or.inl ⟨by rfl, ?_⟩) ?_ ?_
          rotate_left
          ·intro w'
           go_simp
           with_reducible rfl
          rotate_left
          ·simp only [Act.put, List.setIfInBounds_toArray, List.set_cons_zero, List.set_cons_succ, i64_w, i32_w]
           rfl
          refine pure_ (i := 2) (N := some 31) (v := ?_) (a' := ?_) #[true, true, true, false, false, false, false, false, false, false, false, false, false, false, false, false, false, false, false] rfl rfl (any_of HT_.out (by kernel_rfl)) (fun _ _ _ h => h) (Or.inl ⟨by rfl, ?_⟩) ?_ ?_
          rotate_left
          ·intro w'
           go_simp
           with_reducible rfl
          rotate_left
          ·simp only [Act.put, List.setIfInBounds_toArray, List.set_cons_zero, List.set_cons_succ, i64_w, i32_w]
           rfl
          refine pure_ (i := 5) (N := some 34) (v := ?_) (a' := ?_) #[true, true, true, false, false, true, false, false, false, false, false, false, false, false, false, false, false, false, false] rfl rfl (any_of HT_.out (by kernel_rfl)) (fun _ _ _ h => h) (Or.inl ⟨by rfl, ?_⟩) ?_ ?_
          rotate_left
          ·intro w'
           go_simp
           with_reducible rfl
          rotate_left
          ·simp only [Act.put, List.setIfInBounds_toArray, List.set_cons_zero, List.set_cons_succ, i64_w, i32_w]
           rfl
          refine pure_ (i := 6) (N := some 35) (v := ?_) (a' := ?_) #[true, true, true, false, false, true, true, false, false, false, false, false, false, false, false, false, false, false, false] rfl rfl (any_of HT_.out (by kernel_rfl)) (fun _ _ _ h => h) (Or.inl ⟨by rfl, ?_⟩) ?_ ?_
          rotate_left
          ·intro w'
           go_simp
           with_reducible rfl
          rotate_left
          ·simp only [Act.put, List.setIfInBounds_toArray, List.set_cons_zero, List.set_cons_succ, i64_w, i32_w]
           rfl
          refine pure_ (i := 9) (N := some 38) (v := ?_) (a' := ?_) #[true, true, true, false, false, true, true, false, false, true, false, false, false, false, false, false, false, false, false] rfl rfl (any_of HT_.out (by kernel_rfl)) (fun _ _ _ h => h) (Or.inl ⟨by rfl, ?_⟩) ?_ ?_
          rotate_left
          ·intro w'
           go_simp
           with_reducible rfl
          rotate_left
          ·simp only [Act.put, List.setIfInBounds_toArray, List.set_cons_zero, List.set_cons_succ, i64_w, i32_w]
           rfl
          refine pure_ (i := 10) (N := some 39) (v := ?_) (a' := ?_) #[true, true, true, false, false, true, true, false, false, true, true, false, false, false, false, false, false, false, false] rfl rfl (any_of HT_.out (by kernel_rfl)) (fun _ _ _ h => h) (Or.inl ⟨by rfl, ?_⟩) ?_ ?_
          rotate_left
          ·intro w'
           go_simp
           with_reducible rfl
          rotate_left
          ·simp only [Act.put, List.setIfInBounds_toArray, List.set_cons_zero, List.set_cons_succ, i64_w, i32_w]
           rfl
          refine pure_ (i := 13) (N := some 42) (v := ?_) (a' := ?_) #[true, true, true, false, false, true, true, false, false, true, true, false, false, true, false, false, false, false, false] rfl rfl (any_of HT_.out (by kernel_rfl)) (fun _ _ _ h => h) (Or.inl ⟨by rfl, ?_⟩) ?_ ?_
          rotate_left
          ·intro w'
           go_simp
           with_reducible rfl
          rotate_left
          ·simp only [Act.put, List.setIfInBounds_toArray, List.set_cons_zero, List.set_cons_succ, i64_w, i32_w]
           rfl
          refine pure_ (i := 14) (N := some 43) (v := ?_) (a' := ?_) #[true, true, true, false, false, true, true, false, false, true, true, false, false, true, true, false, false, false, false] rfl rfl (any_of HT_.out (by kernel_rfl)) (fun _ _ _ h => h) (Or.inl ⟨by rfl, ?_⟩) ?_ ?_
          rotate_left
          ·intro w'
           go_simp
           with_reducible rfl
          rotate_left
          ·simp only [Act.put, List.setIfInBounds_toArray, List.set_cons_zero, List.set_cons_succ, i64_w, i32_w]
           rfl
          refine take_ (i := 3) (N := some 32) (v := ?_) (a' := ?_) #[true, true, true, true, false, true, true, false, false, true, true, false, false, true, true, false, false, false, false] rfl rfl (take_ofW HT_.out HW_.out (by kernel_rfl)) (fun _ _ _ h => h) (Or.inl ⟨by rfl, ?_⟩) hHeld ?_ ?_
          rotate_left
          ·rintro w' ⟨s0, s1, s2, s3⟩
           go_simp
           with_reducible rfl
          rotate_left
          ·simp only [Act.put, List.setIfInBounds_toArray, List.set_cons_zero, List.set_cons_succ, i64_w, i32_w]
           rfl
          refine take_ (i := 7) (N := some 36) (v := ?_) (a' := ?_) #[true, true, true, true, false, true, true, true, false, true, true, false, false, true, true, false, false, false, false] rfl rfl (take_ofW HT_.out HW_.out (by kernel_rfl)) (fun _ _ _ h => h) (Or.inl ⟨by rfl, ?_⟩) hHeld ?_ ?_
          rotate_left
          ·rintro w' ⟨s0, s1, s2, s3⟩
           go_simp
           with_reducible rfl
          rotate_left
          ·simp only [Act.put, List.setIfInBounds_toArray, List.set_cons_zero, List.set_cons_succ, i64_w, i32_w]
           rfl
          refine take_ (i := 11) (N := some 40) (v := ?_) (a' := ?_) #[true, true, true, true, false, true, true, true, false, true, true, true, false, true, true, false, false, false, false] rfl rfl (take_ofW HT_.out HW_.out (by kernel_rfl)) (fun _ _ _ h => h) (Or.inl ⟨by rfl, ?_⟩) hHeld ?_ ?_
          rotate_left
          ·rintro w' ⟨s0, s1, s2, s3⟩
           go_simp
           with_reducible rfl
          rotate_left
          ·simp only [Act.put, List.setIfInBounds_toArray, List.set_cons_zero, List.set_cons_succ, i64_w, i32_w]
           rfl
          refine take_ (i := 15) (N := some 44) (v := ?_) (a' := ?_) #[true, true, true, true, false, true, true, true, false, true, true, true, false, true, true, true, false, false, false] rfl rfl (take_ofW HT_.out HW_.out (by kernel_rfl)) (fun _ _ _ h => h) (Or.inl ⟨by rfl, ?_⟩) hHeld ?_ ?_
          rotate_left
          ·rintro w' ⟨s0, s1, s2, s3⟩
           go_simp
           with_reducible rfl
          rotate_left
          ·simp only [Act.put, List.setIfInBounds_toArray, List.set_cons_zero, List.set_cons_succ, i64_w, i32_w]
           rfl
          refine join_ (σ := Nat) 1 #[true, true, true, true, true, true, true, true, true, true, true, true, true, true, true, true, true, true, false] (fun s_ => [(33, .string t37009), (37, .string t37011), (41, .string t37013), (6, .pointer (some ⟨s_, 0, none⟩)), (45, .agg #[.int .i64 t37007, .string t37009, .string t37011, .string t37013, .string (rdOf ByteArray.empty t37002 5)])]) (fun s_ w' => (w'.cell? ⟨ad37006.block, ad37006.off + 2, none⟩ = some (.string (rdOf ByteArray.empty t37002 2)) ∧ w'.cell? ⟨ad37006.block, ad37006.off + 3, none⟩ = some (.string (rdOf ByteArray.empty t37002 3)) ∧ w'.cell? ⟨ad37006.block, ad37006.off + 4, none⟩ = some (.string (rdOf ByteArray.empty t37002 4)) ∧ w'.cell? ⟨ad37006.block, ad37006.off + 5, none⟩ = some (.string (rdOf ByteArray.empty t37002 5))) ∧ (Kd.R Kd.string 9 w' w.heap.size (fun _ => True) (.slice (some ad37006) t37002.length co66) t37002) ∧ (w'.heap[gb37001]? = some (.cells #[.int .i64 0, .string (⟨#[]⟩ : ByteArray), .string (⟨#[]⟩ : ByteArray), .string (⟨#[]⟩ : ByteArray), .string (⟨#[]⟩ : ByteArray)] 23 (0, 0))) ∧ (w'.heap[s_]? = some (.cells #[.int .i64 0, .string (⟨#[]⟩ : ByteArray), .string (⟨#[]⟩ : ByteArray), .string (⟨#[]⟩ : ByteArray), .string (⟨#[]⟩ : ByteArray)] 23 (0, 0))) ∧ (w.heap.size ≤ s_) ∧ (w.heap.size ≤ s_) ∧ (gb37001 ≠ s_) ∧ (s_ ≠ gb37001) ∧ (Below w.heap.size w w')) ?_ ?_
          rotate_left
          ·intro hCont
           refine two_ (i := 4) (j := 17) (Ni := some 33) (Nj := some 6) #[true, true, true, true, true, true, true, true, false, true, true, true, false, true, true, true, false, false, false] #[true, true, true, true, false, true, true, true, false, true, true, true, false, true, true, true, false, true, false] rfl rfl rfl rfl (two_of HT_.out (by kernel_rfl)) (by decide) (by decide) (fun K hK => ?_) (fun K hK => ?_)
           ·skip
            refine goes_ Tryd.func57 (by kernel_rfl) rfl #[.string (rdOf ByteArray.empty t37002 2)] (by rfl) rfl rfl (by (try simp only [List.map_toArray, List.map_cons, List.map_nil]); first | done | rfl | (simp only [List.length_drop, List.length_take]; rfl)) ?_
            with_reducible refine (suppress_unstar.calls (rdOf ByteArray.empty t37002 2) t37009 _ A19.out).mono ?_
            rintro e w' ⟨rfl, ⟨nd, rfl⟩⟩
            refine ⟨_, rfl, ?_⟩
            refine hK.out _ _ ⟨hHeld.1, hHeld.2.1, hHeld.2.2.1, hHeld.2.2.2⟩ (fun hHeld => ?_)
            clear hK K
            refine norm_ (a' := ?_) ?_ ?_
            rotate_left
            ·show Act.put _ (some 33) _ = _
             simp only [Act.put, List.setIfInBounds_toArray, List.set_cons_zero, List.set_cons_succ, i64_w, i32_w]
             rfl
            refine two_ (i := 8) (j := 17) (Ni := some 37) (Nj := some 6) #[true, true, true, true, true, true, true, true, true, true, true, true, false, true, true, true, false, false, false] #[true, true, true, true, true, true, true, true, false, true, true, true, false, true, true, true, false, true, false] rfl rfl rfl rfl (two_of HT_.out (by kernel_rfl)) (by decide) (by decide) (fun K hK => ?_) (fun K hK => ?_)
            ·skip
             refine goes_ Tryd.func57 (by kernel_rfl) rfl #[.string (rdOf ByteArray.empty t37002 3)] (by rfl) rfl rfl (by (try simp only [List.map_toArray, List.map_cons, List.map_nil]); first | done | rfl | (simp only [List.length_drop, List.length_take]; rfl)) ?_
             with_reducible refine (suppress_unstar.calls (rdOf ByteArray.empty t37002 3) t37011 _ A21.out).mono ?_
             rintro e w' ⟨rfl, ⟨nd, rfl⟩⟩
             refine ⟨_, rfl, ?_⟩
             refine hK.out _ _ ⟨hHeld.1, hHeld.2.1, hHeld.2.2.1, hHeld.2.2.2⟩ (fun hHeld => ?_)
             clear hK K
             refine norm_ (a' := ?_) ?_ ?_
             rotate_left
             ·show Act.put _ (some 37) _ = _
              simp only [Act.put, List.setIfInBounds_toArray, List.set_cons_zero, List.set_cons_succ, i64_w, i32_w]
              rfl
             refine two_ (i := 12) (j := 17) (Ni := some 41) (Nj := some 6) #[true, true, true, true, true, true, true, true, true, true, true, true, true, true, true, true, false, false, false] #[true, true, true, true, true, true, true, true, true, true, true, true, false, true, true, true, false, true, false] rfl rfl rfl rfl (two_of HT_.out (by kernel_rfl)) (by decide) (by decide) (fun K hK => ?_) (fun K hK => ?_)
             ·skip
              refine goes_ Tryd.func57 (by kernel_rfl) rfl #[.string (rdOf ByteArray.empty t37002 4)] (by rfl) rfl rfl (by (try simp only [List.map_toArray, List.map_cons, List.map_nil]); first | done | rfl | (simp only [List.length_drop, List.length_take]; rfl)) ?_
              with_reducible refine (suppress_unstar.calls (rdOf ByteArray.empty t37002 4) t37013 _ A23.out).mono ?_
              rintro e w' ⟨rfl, ⟨nd, rfl⟩⟩
              refine ⟨_, rfl, ?_⟩
              refine hK.out _ _ ⟨hHeld.1, hHeld.2.1, hHeld.2.2.1, hHeld.2.2.2⟩ (fun hHeld => ?_)
              clear hK K
              refine norm_ (a' := ?_) ?_ ?_
              rotate_left
              ·show Act.put _ (some 41) _ = _
               simp only [Act.put, List.setIfInBounds_toArray, List.set_cons_zero, List.set_cons_succ, i64_w, i32_w]
               rfl
              refine pure_ (i := 16) (N := some 45) (v := ?_) (a' := ?_) #[true, true, true, true, true, true, true, true, true, true, true, true, true, true, true, true, true, false, false] rfl rfl (any_of HT_.out (by kernel_rfl)) (fun _ _ _ h => h) (Or.inl ⟨by rfl, ?_⟩) ?_ ?_
              rotate_left
              ·intro w'
               go_simp
               with_reducible rfl
              rotate_left
              ·simp only [Act.put, List.setIfInBounds_toArray, List.set_cons_zero, List.set_cons_succ, i64_w, i32_w]
               rfl
              refine one_ (i := 17) (N := some 6) #[true, true, true, true, true, true, true, true, true, true, true, true, true, true, true, true, true, true, false] rfl rfl (one_of HT_.out (by kernel_rfl)) (by decide) (fun K hK => ?_)
              refine box_step ?hg (N := 6) ?hd (cs := #[.int .i64 0, .string (⟨#[]⟩ : ByteArray), .string (⟨#[]⟩ : ByteArray), .string (⟨#[]⟩ : ByteArray), .string (⟨#[]⟩ : ByteArray)]) (t := 23) ?hr ?_; (case hd => rfl); (case hg => rfl); (case hr => first | (go_simp; done) | (go_simp; rfl))
              intro gb37015 hg w68 hbox hb
              have HS0_ := (hb.cell (World.block_lt_of_cell? _ _ (hHeld.1))).trans (hHeld.1)
              have HS1_ := (hb.cell (World.block_lt_of_cell? _ _ (hHeld.2.1))).trans (hHeld.2.1)
              have HS2_ := (hb.cell (World.block_lt_of_cell? _ _ (hHeld.2.2.1))).trans (hHeld.2.2.1)
              have HS3_ := (hb.cell (World.block_lt_of_cell? _ _ (hHeld.2.2.2))).trans (hHeld.2.2.2)
              have n0_ := Aside0.mk (Kd.R_below (by (with_reducible repeat (first | apply Kd.R_alloc | apply Kd.R_drewN | apply Kd.R_drew)); exact HO_4.out) hb)
              have n1_ := Aside0.mk (blk_below (g := gb37001) (o := .cells #[.int .i64 0, .string (⟨#[]⟩ : ByteArray), .string (⟨#[]⟩ : ByteArray), .string (⟨#[]⟩ : ByteArray), .string (⟨#[]⟩ : ByteArray)] 23 (0, 0)) (by (with_reducible repeat (first | refine blk_drewN ?_ _ | refine blk_drew ?_ | refine blk_alloc ?_ _)); exact BK37001.out) hb)
              have n2_ := Aside0.mk (below_step (by repeat (first | (with_reducible first | exact HB.out | apply below_alloc | apply pw_below_drewN | apply below_drew1 | refine below_set ?_ GE37001.out) | exact HB.out)) hb)
              have n3_ := Aside0.mk (hbox)
              have n4_ := Aside0.mk ((by rw [hg]; exact (below_size (by repeat (first | (with_reducible first | exact HB.out | apply below_alloc | apply pw_below_drewN | apply below_drew1 | refine below_set ?_ GE37001.out) | exact HB.out))) : w.heap.size ≤ gb37015))
              have n5_ := Aside0.mk ((by rw [hg]; exact (below_size (by repeat (first | (with_reducible first | exact HB.out | apply below_alloc | apply pw_below_drewN | apply below_drew1 | refine below_set ?_ GE37001.out) | exact HB.out))) : w.heap.size ≤ gb37015))
              have n6_ := Aside0.mk ((by rw [hg]; exact Nat.ne_of_lt (blk_lt (g := gb37001) (o := .cells #[.int .i64 0, .string (⟨#[]⟩ : ByteArray), .string (⟨#[]⟩ : ByteArray), .string (⟨#[]⟩ : ByteArray), .string (⟨#[]⟩ : ByteArray)] 23 (0, 0)) (by (with_reducible repeat (first | refine blk_drewN ?_ _ | refine blk_drew ?_ | refine blk_alloc ?_ _)); exact BK37001.out)) : gb37001 ≠ gb37015))
              have n7_ := Aside0.mk ((by rw [hg]; exact Nat.ne_of_gt (blk_lt (g := gb37001) (o := .cells #[.int .i64 0, .string (⟨#[]⟩ : ByteArray), .string (⟨#[]⟩ : ByteArray), .string (⟨#[]⟩ : ByteArray), .string (⟨#[]⟩ : ByteArray)] 23 (0, 0)) (by (with_reducible repeat (first | refine blk_drewN ?_ _ | refine blk_drew ?_ | refine blk_alloc ?_ _)); exact BK37001.out)) : gb37015 ≠ gb37001))
              clear HO_4
              clear BK37001
              clear HB
              have HO_4 := n0_
              have BK37001 := n1_
              have HB := n2_
              have BK37015 := n3_
              have GW37015 := n4_
              have GE37015 := n5_
              have NB37001_37015 := n6_
              have NB37015_37001 := n7_
              clear n0_ n1_ n2_ n3_ n4_ n5_ n6_ n7_
              clear hb hbox hg
              refine hK.out _ _ ⟨HS0_, HS1_, HS2_, HS3_⟩ (fun hHeld => ?_)
              clear hK K
              refine norm_ (a' := ?_) ?_ ?_
              rotate_left
              ·show Act.put _ (some 6) _ = _
               simp only [Act.put, List.setIfInBounds_toArray, List.set_cons_zero, List.set_cons_succ, i64_w, i32_w]
               rfl
              exact norm_ (by simp only [putAll, Act.put, List.setIfInBounds_toArray, List.set_cons_zero, List.set_cons_succ]) (hCont (gb37015) _ ⟨hHeld, (by (with_reducible repeat (first | apply Kd.R_alloc | apply Kd.R_drewN | apply Kd.R_drew)); exact HO_4.out), (by (with_reducible repeat (first | refine blk_drewN ?_ _ | refine blk_drew ?_ | refine blk_alloc ?_ _)); exact BK37001.out), (by (with_reducible repeat (first | refine blk_drewN ?_ _ | refine blk_drew ?_ | refine blk_alloc ?_ _)); exact BK37015.out), GW37015.out, GE37015.out, NB37001_37015.out, NB37015_37001.out, (by repeat (first | (with_reducible first | exact HB.out | apply below_alloc | apply pw_below_drewN | apply below_drew1 | refine below_set ?_ GE37001.out | refine below_set ?_ GE37015.out) | exact HB.out))⟩)
             ·skip
              refine box_step ?hg (N := 6) ?hd (cs := #[.int .i64 0, .string (⟨#[]⟩ : ByteArray), .string (⟨#[]⟩ : ByteArray), .string (⟨#[]⟩ : ByteArray), .string (⟨#[]⟩ : ByteArray)]) (t := 23) ?hr ?_; (case hd => rfl); (case hg => rfl); (case hr => first | (go_simp; done) | (go_simp; rfl))
              intro gb37015 hg w68 hbox hb
              have HS0_ := (hb.cell (World.block_lt_of_cell? _ _ (hHeld.1))).trans (hHeld.1)
              have HS1_ := (hb.cell (World.block_lt_of_cell? _ _ (hHeld.2.1))).trans (hHeld.2.1)
              have HS2_ := (hb.cell (World.block_lt_of_cell? _ _ (hHeld.2.2.1))).trans (hHeld.2.2.1)
              have HS3_ := (hb.cell (World.block_lt_of_cell? _ _ (hHeld.2.2.2))).trans (hHeld.2.2.2)
              have n0_ := Aside0.mk (Kd.R_below (by (with_reducible repeat (first | apply Kd.R_alloc | apply Kd.R_drewN | apply Kd.R_drew)); exact HO_4.out) hb)
              have n1_ := Aside0.mk (blk_below (g := gb37001) (o := .cells #[.int .i64 0, .string (⟨#[]⟩ : ByteArray), .string (⟨#[]⟩ : ByteArray), .string (⟨#[]⟩ : ByteArray), .string (⟨#[]⟩ : ByteArray)] 23 (0, 0)) (by (with_reducible repeat (first | refine blk_drewN ?_ _ | refine blk_drew ?_ | refine blk_alloc ?_ _)); exact BK37001.out) hb)
              have n2_ := Aside0.mk (below_step (by repeat (first | (with_reducible first | exact HB.out | apply below_alloc | apply pw_below_drewN | apply below_drew1 | refine below_set ?_ GE37001.out) | exact HB.out)) hb)
              have n3_ := Aside0.mk (hbox)
              have n4_ := Aside0.mk ((by rw [hg]; exact (below_size (by repeat (first | (with_reducible first | exact HB.out | apply below_alloc | apply pw_below_drewN | apply below_drew1 | refine below_set ?_ GE37001.out) | exact HB.out))) : w.heap.size ≤ gb37015))
              have n5_ := Aside0.mk ((by rw [hg]; exact (below_size (by repeat (first | (with_reducible first | exact HB.out | apply below_alloc | apply pw_below_drewN | apply below_drew1 | refine below_set ?_ GE37001.out) | exact HB.out))) : w.heap.size ≤ gb37015))
              have n6_ := Aside0.mk ((by rw [hg]; exact Nat.ne_of_lt (blk_lt (g := gb37001) (o := .cells #[.int .i64 0, .string (⟨#[]⟩ : ByteArray), .string (⟨#[]⟩ : ByteArray), .string (⟨#[]⟩ : ByteArray), .string (⟨#[]⟩ : ByteArray)] 23 (0, 0)) (by (with_reducible repeat (first | refine blk_drewN ?_ _ | refine blk_drew ?_ | refine blk_alloc ?_ _)); exact BK37001.out)) : gb37001 ≠ gb37015))
              have n7_ := Aside0.mk ((by rw [hg]; exact Nat.ne_of_gt (blk_lt (g := gb37001) (o := .cells #[.int .i64 0, .string (⟨#[]⟩ : ByteArray), .string (⟨#[]⟩ : ByteArray), .string (⟨#[]⟩ : ByteArray), .string (⟨#[]⟩ : ByteArray)] 23 (0, 0)) (by (with_reducible repeat (first | refine blk_drewN ?_ _ | refine blk_drew ?_ | refine blk_alloc ?_ _)); exact BK37001.out)) : gb37015 ≠ gb37001))
              clear HO_4
              clear BK37001
              clear HB
              have HO_4 := n0_
              have BK37001 := n1_
              have HB := n2_
              have BK37015 := n3_
              have GW37015 := n4_
              have GE37015 := n5_
              have NB37001_37015 := n6_
              have NB37015_37001 := n7_
              clear n0_ n1_ n2_ n3_ n4_ n5_ n6_ n7_
              clear hb hbox hg
              refine hK.out _ _ ⟨HS0_, HS1_, HS2_, HS3_⟩ (fun hHeld => ?_)
              clear hK K
              refine norm_ (a' := ?_) ?_ ?_
              rotate_left
              ·show Act.put _ (some 6) _ = _
               simp only [Act.put, List.setIfInBounds_toArray, List.set_cons_zero, List.set_cons_succ, i64_w, i32_w]
               rfl
              refine one_ (i := 12) (N := some 41) #[true, true, true, true, true, true, true, true, true, true, true, true, true, true, true, true, false, true, false] rfl rfl (one_of HT_.out (by kernel_rfl)) (by decide) (fun K hK => ?_)
              refine goes_ Tryd.func57 (by kernel_rfl) rfl #[.string (rdOf ByteArray.empty t37002 4)] (by rfl) rfl rfl (by (try simp only [List.map_toArray, List.map_cons, List.map_nil]); first | done | rfl | (simp only [List.length_drop, List.length_take]; rfl)) ?_
              with_reducible refine (suppress_unstar.calls (rdOf ByteArray.empty t37002 4) t37013 _ A23.out).mono ?_
              rintro e w' ⟨rfl, ⟨nd, rfl⟩⟩
              refine ⟨_, rfl, ?_⟩
              refine hK.out _ _ ⟨hHeld.1, hHeld.2.1, hHeld.2.2.1, hHeld.2.2.2⟩ (fun hHeld => ?_)
              clear hK K
              refine norm_ (a' := ?_) ?_ ?_
              rotate_left
              ·show Act.put _ (some 41) _ = _
               simp only [Act.put, List.setIfInBounds_toArray, List.set_cons_zero, List.set_cons_succ, i64_w, i32_w]
               rfl
              refine pure_ (i := 16) (N := some 45) (v := ?_) (a' := ?_) #[true, true, true, true, true, true, true, true, true, true, true, true, true, true, true, true, true, true, false] rfl rfl (any_of HT_.out (by kernel_rfl)) (fun _ _ _ h => h) (Or.inl ⟨by rfl, ?_⟩) ?_ ?_
              rotate_left
              ·intro w'
               go_simp
               with_reducible rfl
              rotate_left
              ·simp only [Act.put, List.setIfInBounds_toArray, List.set_cons_zero, List.set_cons_succ, i64_w, i32_w]
               rfl
              exact norm_ (by simp only [putAll, Act.put, List.setIfInBounds_toArray, List.set_cons_zero, List.set_cons_succ]) (hCont (gb37015) _ ⟨hHeld, (by (with_reducible repeat (first | apply Kd.R_alloc | apply Kd.R_drewN | apply Kd.R_drew)); exact HO_4.out), (by (with_reducible repeat (first | refine blk_drewN ?_ _ | refine blk_drew ?_ | refine blk_alloc ?_ _)); exact BK37001.out), (by (with_reducible repeat (first | refine blk_drewN ?_ _ | refine blk_drew ?_ | refine blk_alloc ?_ _)); exact BK37015.out), GW37015.out, GE37015.out, NB37001_37015.out, NB37015_37001.out, (by repeat (first | (with_reducible first | exact HB.out | apply below_alloc | apply pw_below_drewN | apply below_drew1 | refine below_set ?_ GE37001.out | refine below_set ?_ GE37015.out) | exact HB.out))⟩)
            ·skip
             refine box_step ?hg (N := 6) ?hd (cs := #[.int .i64 0, .string (⟨#[]⟩ : ByteArray), .string (⟨#[]⟩ : ByteArray), .string (⟨#[]⟩ : ByteArray), .string (⟨#[]⟩ : ByteArray)]) (t := 23) ?hr ?_; (case hd => rfl); (case hg => rfl); (case hr => first | (go_simp; done) | (go_simp; rfl))
             intro gb37015 hg w68 hbox hb
             have HS0_ := (hb.cell (World.block_lt_of_cell? _ _ (hHeld.1))).trans (hHeld.1)
             have HS1_ := (hb.cell (World.block_lt_of_cell? _ _ (hHeld.2.1))).trans (hHeld.2.1)
             have HS2_ := (hb.cell (World.block_lt_of_cell? _ _ (hHeld.2.2.1))).trans (hHeld.2.2.1)
             have HS3_ := (hb.cell (World.block_lt_of_cell? _ _ (hHeld.2.2.2))).trans (hHeld.2.2.2)
             have n0_ := Aside0.mk (Kd.R_below (by (with_reducible repeat (first | apply Kd.R_alloc | apply Kd.R_drewN | apply Kd.R_drew)); exact HO_4.out) hb)
             have n1_ := Aside0.mk (blk_below (g := gb37001) (o := .cells #[.int .i64 0, .string (⟨#[]⟩ : ByteArray), .string (⟨#[]⟩ : ByteArray), .string (⟨#[]⟩ : ByteArray), .string (⟨#[]⟩ : ByteArray)] 23 (0, 0)) (by (with_reducible repeat (first | refine blk_drewN ?_ _ | refine blk_drew ?_ | refine blk_alloc ?_ _)); exact BK37001.out) hb)
             have n2_ := Aside0.mk (below_step (by repeat (first | (with_reducible first | exact HB.out | apply below_alloc | apply pw_below_drewN | apply below_drew1 | refine below_set ?_ GE37001.out) | exact HB.out)) hb)
             have n3_ := Aside0.mk (hbox)
             have n4_ := Aside0.mk ((by rw [hg]; exact (below_size (by repeat (first | (with_reducible first | exact HB.out | apply below_alloc | apply pw_below_drewN | apply below_drew1 | refine below_set ?_ GE37001.out) | exact HB.out))) : w.heap.size ≤ gb37015))
             have n5_ := Aside0.mk ((by rw [hg]; exact (below_size (by repeat (first | (with_reducible first | exact HB.out | apply below_alloc | apply pw_below_drewN | apply below_drew1 | refine below_set ?_ GE37001.out) | exact HB.out))) : w.heap.size ≤ gb37015))
             have n6_ := Aside0.mk ((by rw [hg]; exact Nat.ne_of_lt (blk_lt (g := gb37001) (o := .cells #[.int .i64 0, .string (⟨#[]⟩ : ByteArray), .string (⟨#[]⟩ : ByteArray), .string (⟨#[]⟩ : ByteArray), .string (⟨#[]⟩ : ByteArray)] 23 (0, 0)) (by (with_reducible repeat (first | refine blk_drewN ?_ _ | refine blk_drew ?_ | refine blk_alloc ?_ _)); exact BK37001.out)) : gb37001 ≠ gb37015))
             have n7_ := Aside0.mk ((by rw [hg]; exact Nat.ne_of_gt (blk_lt (g := gb37001) (o := .cells #[.int .i64 0, .string (⟨#[]⟩ : ByteArray), .string (⟨#[]⟩ : ByteArray), .string (⟨#[]⟩ : ByteArray), .string (⟨#[]⟩ : ByteArray)] 23 (0, 0)) (by (with_reducible repeat (first | refine blk_drewN ?_ _ | refine blk_drew ?_ | refine blk_alloc ?_ _)); exact BK37001.out)) : gb37015 ≠ gb37001))
             clear HO_4
             clear BK37001
             clear HB
             have HO_4 := n0_
             have BK37001 := n1_
             have HB := n2_
             have BK37015 := n3_
             have GW37015 := n4_
             have GE37015 := n5_
             have NB37001_37015 := n6_
             have NB37015_37001 := n7_
             clear n0_ n1_ n2_ n3_ n4_ n5_ n6_ n7_
             clear hb hbox hg
             refine hK.out _ _ ⟨HS0_, HS1_, HS2_, HS3_⟩ (fun hHeld => ?_)
             clear hK K
             refine norm_ (a' := ?_) ?_ ?_
             rotate_left
             ·show Act.put _ (some 6) _ = _
              simp only [Act.put, List.setIfInBounds_toArray, List.set_cons_zero, List.set_cons_succ, i64_w, i32_w]
              rfl
             refine one_ (i := 8) (N := some 37) #[true, true, true, true, true, true, true, true, true, true, true, true, false, true, true, true, false, true, false] rfl rfl (one_of HT_.out (by kernel_rfl)) (by decide) (fun K hK => ?_)
             refine goes_ Tryd.func57 (by kernel_rfl) rfl #[.string (rdOf ByteArray.empty t37002 3)] (by rfl) rfl rfl (by (try simp only [List.map_toArray, List.map_cons, List.map_nil]); first | done | rfl | (simp only [List.length_drop, List.length_take]; rfl)) ?_
             with_reducible refine (suppress_unstar.calls (rdOf ByteArray.empty t37002 3) t37011 _ A21.out).mono ?_
             rintro e w' ⟨rfl, ⟨nd, rfl⟩⟩
             refine ⟨_, rfl, ?_⟩
             refine hK.out _ _ ⟨hHeld.1, hHeld.2.1, hHeld.2.2.1, hHeld.2.2.2⟩ (fun hHeld => ?_)
             clear hK K
             refine norm_ (a' := ?_) ?_ ?_
             rotate_left
             ·show Act.put _ (some 37) _ = _
              simp only [Act.put, List.setIfInBounds_toArray, List.set_cons_zero, List.set_cons_succ, i64_w, i32_w]
              rfl
             refine one_ (i := 12) (N := some 41) #[true, true, true, true, true, true, true, true, true, true, true, true, true, true, true, true, false, true, false] rfl rfl (one_of HT_.out (by kernel_rfl)) (by decide) (fun K hK => ?_)
             refine goes_ Tryd.func57 (by kernel_rfl) rfl #[.string (rdOf ByteArray.empty t37002 4)] (by rfl) rfl rfl (by (try simp only [List.map_toArray, List.map_cons, List.map_nil]); first | done | rfl | (simp only [List.length_drop, List.length_take]; rfl)) ?_
             with_reducible refine (suppress_unstar.calls (rdOf ByteArray.empty t37002 4) t37013 _ A23.out).mono ?_
             rintro e w' ⟨rfl, ⟨nd, rfl⟩⟩
             refine ⟨_, rfl, ?_⟩
             refine hK.out _ _ ⟨hHeld.1, hHeld.2.1, hHeld.2.2.1, hHeld.2.2.2⟩ (fun hHeld => ?_)
             clear hK K
             refine norm_ (a' := ?_) ?_ ?_
             rotate_left
             ·show Act.put _ (some 41) _ = _
              simp only [Act.put, List.setIfInBounds_toArray, List.set_cons_zero, List.set_cons_succ, i64_w, i32_w]
              rfl
             refine pure_ (i := 16) (N := some 45) (v := ?_) (a' := ?_) #[true, true, true, true, true, true, true, true, true, true, true, true, true, true, true, true, true, true, false] rfl rfl (any_of HT_.out (by kernel_rfl)) (fun _ _ _ h => h) (Or.inl ⟨by rfl, ?_⟩) ?_ ?_
             rotate_left
             ·intro w'
              go_simp
              with_reducible rfl
             rotate_left
             ·simp only [Act.put, List.setIfInBounds_toArray, List.set_cons_zero, List.set_cons_succ, i64_w, i32_w]
              rfl
             exact norm_ (by simp only [putAll, Act.put, List.setIfInBounds_toArray, List.set_cons_zero, List.set_cons_succ]) (hCont (gb37015) _ ⟨hHeld, (by (with_reducible repeat (first | apply Kd.R_alloc | apply Kd.R_drewN | apply Kd.R_drew)); exact HO_4.out), (by (with_reducible repeat (first | refine blk_drewN ?_ _ | refine blk_drew ?_ | refine blk_alloc ?_ _)); exact BK37001.out), (by (with_reducible repeat (first | refine blk_drewN ?_ _ | refine blk_drew ?_ | refine blk_alloc ?_ _)); exact BK37015.out), GW37015.out, GE37015.out, NB37001_37015.out, NB37015_37001.out, (by repeat (first | (with_reducible first | exact HB.out | apply below_alloc | apply pw_below_drewN | apply below_drew1 | refine below_set ?_ GE37001.out | refine below_set ?_ GE37015.out) | exact HB.out))⟩)
           ·skip
            refine box_step ?hg (N := 6) ?hd (cs := #[.int .i64 0, .string (⟨#[]⟩ : ByteArray), .string (⟨#[]⟩ : ByteArray), .string (⟨#[]⟩ : ByteArray), .string (⟨#[]⟩ : ByteArray)]) (t := 23) ?hr ?_; (case hd => rfl); (case hg => rfl); (case hr => first | (go_simp; done) | (go_simp; rfl))
            intro gb37015 hg w68 hbox hb
            have HS0_ := (hb.cell (World.block_lt_of_cell? _ _ (hHeld.1))).trans (hHeld.1)
            have HS1_ := (hb.cell (World.block_lt_of_cell? _ _ (hHeld.2.1))).trans (hHeld.2.1)
            have HS2_ := (hb.cell (World.block_lt_of_cell? _ _ (hHeld.2.2.1))).trans (hHeld.2.2.1)
            have HS3_ := (hb.cell (World.block_lt_of_cell? _ _ (hHeld.2.2.2))).trans (hHeld.2.2.2)
            have n0_ := Aside0.mk (Kd.R_below (by (with_reducible repeat (first | apply Kd.R_alloc | apply Kd.R_drewN | apply Kd.R_drew)); exact HO_4.out) hb)
            have n1_ := Aside0.mk (blk_below (g := gb37001) (o := .cells #[.int .i64 0, .string (⟨#[]⟩ : ByteArray), .string (⟨#[]⟩ : ByteArray), .string (⟨#[]⟩ : ByteArray), .string (⟨#[]⟩ : ByteArray)] 23 (0, 0)) (by (with_reducible repeat (first | refine blk_drewN ?_ _ | refine blk_drew ?_ | refine blk_alloc ?_ _)); exact BK37001.out) hb)
            have n2_ := Aside0.mk (below_step (by repeat (first | (with_reducible first | exact HB.out | apply below_alloc | apply pw_below_drewN | apply below_drew1 | refine below_set ?_ GE37001.out) | exact HB.out)) hb)
            have n3_ := Aside0.mk (hbox)
            have n4_ := Aside0.mk ((by rw [hg]; exact (below_size (by repeat (first | (with_reducible first | exact HB.out | apply below_alloc | apply pw_below_drewN | apply below_drew1 | refine below_set ?_ GE37001.out) | exact HB.out))) : w.heap.size ≤ gb37015))
            have n5_ := Aside0.mk ((by rw [hg]; exact (below_size (by repeat (first | (with_reducible first | exact HB.out | apply below_alloc | apply pw_below_drewN | apply below_drew1 | refine below_set ?_ GE37001.out) | exact HB.out))) : w.heap.size ≤ gb37015))
            have n6_ := Aside0.mk ((by rw [hg]; exact Nat.ne_of_lt (blk_lt (g := gb37001) (o := .cells #[.int .i64 0, .string (⟨#[]⟩ : ByteArray), .string (⟨#[]⟩ : ByteArray), .string (⟨#[]⟩ : ByteArray), .string (⟨#[]⟩ : ByteArray)] 23 (0, 0)) (by (with_reducible repeat (first | refine blk_drewN ?_ _ | refine blk_drew ?_ | refine blk_alloc ?_ _)); exact BK37001.out)) : gb37001 ≠ gb37015))
            have n7_ := Aside0.mk ((by rw [hg]; exact Nat.ne_of_gt (blk_lt (g := gb37001) (o := .cells #[.int .i64 0, .string (⟨#[]⟩ : ByteArray), .string (⟨#[]⟩ : ByteArray), .string (⟨#[]⟩ : ByteArray), .string (⟨#[]⟩ : ByteArray)] 23 (0, 0)) (by (with_reducible repeat (first | refine blk_drewN ?_ _ | refine blk_drew ?_ | refine blk_alloc ?_ _)); exact BK37001.out)) : gb37015 ≠ gb37001))
            clear HO_4
            clear BK37001
            clear HB
            have HO_4 := n0_
            have BK37001 := n1_
            have HB := n2_
            have BK37015 := n3_
            have GW37015 := n4_
            have GE37015 := n5_
            have NB37001_37015 := n6_
            have NB37015_37001 := n7_
            clear n0_ n1_ n2_ n3_ n4_ n5_ n6_ n7_
            clear hb hbox hg
            refine hK.out _ _ ⟨HS0_, HS1_, HS2_, HS3_⟩ (fun hHeld => ?_)
            clear hK K
            refine norm_ (a' := ?_) ?_ ?_
            rotate_left
            ·show Act.put _ (some 6) _ = _
             simp only [Act.put, List.setIfInBounds_toArray, List.set_cons_zero, List.set_cons_succ, i64_w, i32_w]
             rfl
            refine one_ (i := 4) (N := some 33) #[true, true, true, true, true, true, true, true, false, true, true, true, false, true, true, true, false, true, false] rfl rfl (one_of HT_.out (by kernel_rfl)) (by decide) (fun K hK => ?_)
            refine goes_ Tryd.func57 (by kernel_rfl) rfl #[.string (rdOf ByteArray.empty t37002 2)] (by rfl) rfl rfl (by (try simp only [List.map_toArray, List.map_cons, List.map_nil]); first | done | rfl | (simp only [List.length_drop, List.length_take]; rfl)) ?_
            with_reducible refine (suppress_unstar.calls (rdOf ByteArray.empty t37002 2) t37009 _ A19.out).mono ?_
            rintro e w' ⟨rfl, ⟨nd, rfl⟩⟩
            refine ⟨_, rfl, ?_⟩
            refine hK.out _ _ ⟨hHeld.1, hHeld.2.1, hHeld.2.2.1, hHeld.2.2.2⟩ (fun hHeld => ?_)
            clear hK K
            refine norm_ (a' := ?_) ?_ ?_
            rotate_left
            ·show Act.put _ (some 33) _ = _
             simp only [Act.put, List.setIfInBounds_toArray, List.set_cons_zero, List.set_cons_succ, i64_w, i32_w]
             rfl
            refine one_ (i := 8) (N := some 37) #[true, true, true, true, true, true, true, true, true, true, true, true, false, true, true, true, false, true, false] rfl rfl (one_of HT_.out (by kernel_rfl)) (by decide) (fun K hK => ?_)
            refine goes_ Tryd.func57 (by kernel_rfl) rfl #[.string (rdOf ByteArray.empty t37002 3)] (by rfl) rfl rfl (by (try simp only [List.map_toArray, List.map_cons, List.map_nil]); first | done | rfl | (simp only [List.length_drop, List.length_take]; rfl)) ?_
            with_reducible refine (suppress_unstar.calls (rdOf ByteArray.empty t37002 3) t37011 _ A21.out).mono ?_
            rintro e w' ⟨rfl, ⟨nd, rfl⟩⟩
            refine ⟨_, rfl, ?_⟩
            refine hK.out _ _ ⟨hHeld.1, hHeld.2.1, hHeld.2.2.1, hHeld.2.2.2⟩ (fun hHeld => ?_)
            clear hK K
            refine norm_ (a' := ?_) ?_ ?_
            rotate_left
            ·show Act.put _ (some 37) _ = _
             simp only [Act.put, List.setIfInBounds_toArray, List.set_cons_zero, List.set_cons_succ, i64_w, i32_w]
             rfl
            refine one_ (i := 12) (N := some 41) #[true, true, true, true, true, true, true, true, true, true, true, true, true, true, true, true, false, true, false] rfl rfl (one_of HT_.out (by kernel_rfl)) (by decide) (fun K hK => ?_)
            refine goes_ Tryd.func57 (by kernel_rfl) rfl #[.string (rdOf ByteArray.empty t37002 4)] (by rfl) rfl rfl (by (try simp only [List.map_toArray, List.map_cons, List.map_nil]); first | done | rfl | (simp only [List.length_drop, List.length_take]; rfl)) ?_
            with_reducible refine (suppress_unstar.calls (rdOf ByteArray.empty t37002 4) t37013 _ A23.out).mono ?_
            rintro e w' ⟨rfl, ⟨nd, rfl⟩⟩
            refine ⟨_, rfl, ?_⟩
            refine hK.out _ _ ⟨hHeld.1, hHeld.2.1, hHeld.2.2.1, hHeld.2.2.2⟩ (fun hHeld => ?_)
            clear hK K
            refine norm_ (a' := ?_) ?_ ?_
            rotate_left
            ·show Act.put _ (some 41) _ = _
             simp only [Act.put, List.setIfInBounds_toArray, List.set_cons_zero, List.set_cons_succ, i64_w, i32_w]
             rfl
            refine pure_ (i := 16) (N := some 45) (v := ?_) (a' := ?_) #[true, true, true, true, true, true, true, true, true, true, true, true, true, true, true, true, true, true, false] rfl rfl (any_of HT_.out (by kernel_rfl)) (fun _ _ _ h => h) (Or.inl ⟨by rfl, ?_⟩) ?_ ?_
            rotate_left
            ·intro w'
             go_simp
             with_reducible rfl
            rotate_left
            ·simp only [Act.put, List.setIfInBounds_toArray, List.set_cons_zero, List.set_cons_succ, i64_w, i32_w]
             rfl
            exact norm_ (by simp only [putAll, Act.put, List.setIfInBounds_toArray, List.set_cons_zero, List.set_cons_succ]) (hCont (gb37015) _ ⟨hHeld, (by (with_reducible repeat (first | apply Kd.R_alloc | apply Kd.R_drewN | apply Kd.R_drew)); exact HO_4.out), (by (with_reducible repeat (first | refine blk_drewN ?_ _ | refine blk_drew ?_ | refine blk_alloc ?_ _)); exact BK37001.out), (by (with_reducible repeat (first | refine blk_drewN ?_ _ | refine blk_drew ?_ | refine blk_alloc ?_ _)); exact BK37015.out), GW37015.out, GE37015.out, NB37001_37015.out, NB37015_37001.out, (by repeat (first | (with_reducible first | exact HB.out | apply below_alloc | apply pw_below_drewN | apply below_drew1 | refine below_set ?_ GE37001.out | refine below_set ?_ GE37015.out) | exact HB.out))⟩)
          rintro gb37015 w69 ⟨hS_, h0_, h1_, h2_, h3_, h4_, h5_, h6_, h7_⟩
          have n0_ : Aside0 (Kd.R Kd.string 9 w69 w.heap.size (fun _ => True) (.slice (some ad37006) t37002.length co66) t37002) := ⟨h0_⟩
          have n1_ : Aside0 (w69.heap[gb37001]? = some (.cells #[.int .i64 0, .string (⟨#[]⟩ : ByteArray), .string (⟨#[]⟩ : ByteArray), .string (⟨#[]⟩ : ByteArray), .string (⟨#[]⟩ : ByteArray)] 23 (0, 0))) := ⟨h1_⟩
          have n2_ : Aside0 (w69.heap[gb37015]? = some (.cells #[.int .i64 0, .string (⟨#[]⟩ : ByteArray), .string (⟨#[]⟩ : ByteArray), .string (⟨#[]⟩ : ByteArray), .string (⟨#[]⟩ : ByteArray)] 23 (0, 0))) := ⟨h2_⟩
          have n3_ : Aside0 (w.heap.size ≤ gb37015) := ⟨h3_⟩
          have n4_ : Aside0 (w.heap.size ≤ gb37015) := ⟨h4_⟩
          have n5_ : Aside0 (gb37001 ≠ gb37015) := ⟨h5_⟩
          have n6_ : Aside0 (gb37015 ≠ gb37001) := ⟨h6_⟩
          have n7_ : Aside0 (Below w.heap.size w w69) := ⟨h7_⟩
          clear HO_4
          clear BK37001
          clear HB
          clear h0_ h1_ h2_ h3_ h4_ h5_ h6_ h7_
          have HO_4 := n0_
          have BK37001 := n1_
          have BK37015 := n2_
          have GW37015 := n3_
          have GE37015 := n4_
          have NB37001_37015 := n5_
          have NB37015_37001 := n6_
          have HB := n7_
          clear n0_ n1_ n2_ n3_ n4_ n5_ n6_ n7_
          have hHeld : w69.cell? ⟨ad37006.block, ad37006.off + 2, none⟩ = some (.string (rdOf ByteArray.empty t37002 2)) ∧ w69.cell? ⟨ad37006.block, ad37006.off + 3, none⟩ = some (.string (rdOf ByteArray.empty t37002 3)) ∧ w69.cell? ⟨ad37006.block, ad37006.off + 4, none⟩ = some (.string (rdOf ByteArray.empty t37002 4)) ∧ w69.cell? ⟨ad37006.block, ad37006.off + 5, none⟩ = some (.string (rdOf ByteArray.empty t37002 5)) := hS_
          refine norm_ (a' := ?_) ?_ ?_
          rotate_left
          ·simp only [putAll, Act.put, List.setIfInBounds_toArray, List.set_cons_zero, List.set_cons_succ]
           rfl
          refine one_ (i := 18) (N := none) #[true, true, true, true, true, true, true, true, true, true, true, true, true, true, true, true, true, true, true] rfl rfl (one_of HT_.out (by kernel_rfl)) (by decide) (fun K hK => ?_)
          have hs70 : w69.cell? ⟨gb37015, 0, none⟩ = some (.int .i64 0) := (blk_cell BK37015.out 0).trans rfl
          have hfs70 := blk_frozen BK37015.out 0
          have hns70_0 := NB37001_37015.out
          have hms70_0 := NB37015_37001.out
          have hs71 : w69.cell? ⟨gb37015, 1, none⟩ = some (.string (⟨#[]⟩ : ByteArray)) := (blk_cell BK37015.out 1).trans rfl
          have hfs71 := blk_frozen BK37015.out 1
          have hns71_0 := NB37001_37015.out
          have hms71_0 := NB37015_37001.out
          have hs72 : w69.cell? ⟨gb37015, 2, none⟩ = some (.string (⟨#[]⟩ : ByteArray)) := (blk_cell BK37015.out 2).trans rfl
          have hfs72 := blk_frozen BK37015.out 2
          have hns72_0 := NB37001_37015.out
          have hms72_0 := NB37015_37001.out
          have hs73 : w69.cell? ⟨gb37015, 3, none⟩ = some (.string (⟨#[]⟩ : ByteArray)) := (blk_cell BK37015.out 3).trans rfl
          have hfs73 := blk_frozen BK37015.out 3
          have hns73_0 := NB37001_37015.out
          have hms73_0 := NB37015_37001.out
          have hs74 : w69.cell? ⟨gb37015, 4, none⟩ = some (.string (⟨#[]⟩ : ByteArray)) := (blk_cell BK37015.out 4).trans rfl
          have hfs74 := blk_frozen BK37015.out 4
          have hns74_0 := NB37001_37015.out
          have hms74_0 := NB37015_37001.out
          refine skip_ (w1 := ?_) (by rfl) rfl ?_ ?_
          rotate_left
          ·go_simp
           rfl
          refine hK.out _ _ ⟨((cell_far (p := ⟨gb37015, _, none⟩) (by first | exact Kd.own_blk (Kd.R_ne HO_4.out BK37015.out (by decide)) | (rw [add_block]; exact Kd.own_blk (Kd.R_ne HO_4.out BK37015.out (by decide))) | (show (Addr.add _ _).block ≠ _; rw [add_block]; exact Kd.own_blk (Kd.R_ne HO_4.out BK37015.out (by decide))) | (dsimp only; exact Kd.own_blk (Kd.R_ne HO_4.out BK37015.out (by decide)))) _).trans (((cell_far (p := ⟨gb37015, _, none⟩) (by first | exact Kd.own_blk (Kd.R_ne HO_4.out BK37015.out (by decide)) | (rw [add_block]; exact Kd.own_blk (Kd.R_ne HO_4.out BK37015.out (by decide))) | (show (Addr.add _ _).block ≠ _; rw [add_block]; exact Kd.own_blk (Kd.R_ne HO_4.out BK37015.out (by decide))) | (dsimp only; exact Kd.own_blk (Kd.R_ne HO_4.out BK37015.out (by decide)))) _).trans (((cell_far (p := ⟨gb37015, _, none⟩) (by first | exact Kd.own_blk (Kd.R_ne HO_4.out BK37015.out (by decide)) | (rw [add_block]; exact Kd.own_blk (Kd.R_ne HO_4.out BK37015.out (by decide))) | (show (Addr.add _ _).block ≠ _; rw [add_block]; exact Kd.own_blk (Kd.R_ne HO_4.out BK37015.out (by decide))) | (dsimp only; exact Kd.own_blk (Kd.R_ne HO_4.out BK37015.out (by decide)))) _).trans (((cell_far (p := ⟨gb37015, _, none⟩) (by first | exact Kd.own_blk (Kd.R_ne HO_4.out BK37015.out (by decide)) | (rw [add_block]; exact Kd.own_blk (Kd.R_ne HO_4.out BK37015.out (by decide))) | (show (Addr.add _ _).block ≠ _; rw [add_block]; exact Kd.own_blk (Kd.R_ne HO_4.out BK37015.out (by decide))) | (dsimp only; exact Kd.own_blk (Kd.R_ne HO_4.out BK37015.out (by decide)))) _).trans (((cell_far (p := ⟨gb37015, _, none⟩) (by first | exact Kd.own_blk (Kd.R_ne HO_4.out BK37015.out (by decide)) | (rw [add_block]; exact Kd.own_blk (Kd.R_ne HO_4.out BK37015.out (by decide))) | (show (Addr.add _ _).block ≠ _; rw [add_block]; exact Kd.own_blk (Kd.R_ne HO_4.out BK37015.out (by decide))) | (dsimp only; exact Kd.own_blk (Kd.R_ne HO_4.out BK37015.out (by decide)))) _).trans (hHeld.1)))))))))), ((cell_far (p := ⟨gb37015, _, none⟩) (by first | exact Kd.own_blk (Kd.R_ne HO_4.out BK37015.out (by decide)) | (rw [add_block]; exact Kd.own_blk (Kd.R_ne HO_4.out BK37015.out (by decide))) | (show (Addr.add _ _).block ≠ _; rw [add_block]; exact Kd.own_blk (Kd.R_ne HO_4.out BK37015.out (by decide))) | (dsimp only; exact Kd.own_blk (Kd.R_ne HO_4.out BK37015.out (by decide)))) _).trans (((cell_far (p := ⟨gb37015, _, none⟩) (by first | exact Kd.own_blk (Kd.R_ne HO_4.out BK37015.out (by decide)) | (rw [add_block]; exact Kd.own_blk (Kd.R_ne HO_4.out BK37015.out (by decide))) | (show (Addr.add _ _).block ≠ _; rw [add_block]; exact Kd.own_blk (Kd.R_ne HO_4.out BK37015.out (by decide))) | (dsimp only; exact Kd.own_blk (Kd.R_ne HO_4.out BK37015.out (by decide)))) _).trans (((cell_far (p := ⟨gb37015, _, none⟩) (by first | exact Kd.own_blk (Kd.R_ne HO_4.out BK37015.out (by decide)) | (rw [add_block]; exact Kd.own_blk (Kd.R_ne HO_4.out BK37015.out (by decide))) | (show (Addr.add _ _).block ≠ _; rw [add_block]; exact Kd.own_blk (Kd.R_ne HO_4.out BK37015.out (by decide))) | (dsimp only; exact Kd.own_blk (Kd.R_ne HO_4.out BK37015.out (by decide)))) _).trans (((cell_far (p := ⟨gb37015, _, none⟩) (by first | exact Kd.own_blk (Kd.R_ne HO_4.out BK37015.out (by decide)) | (rw [add_block]; exact Kd.own_blk (Kd.R_ne HO_4.out BK37015.out (by decide))) | (show (Addr.add _ _).block ≠ _; rw [add_block]; exact Kd.own_blk (Kd.R_ne HO_4.out BK37015.out (by decide))) | (dsimp only; exact Kd.own_blk (Kd.R_ne HO_4.out BK37015.out (by decide)))) _).trans (((cell_far (p := ⟨gb37015, _, none⟩) (by first | exact Kd.own_blk (Kd.R_ne HO_4.out BK37015.out (by decide)) | (rw [add_block]; exact Kd.own_blk (Kd.R_ne HO_4.out BK37015.out (by decide))) | (show (Addr.add _ _).block ≠ _; rw [add_block]; exact Kd.own_blk (Kd.R_ne HO_4.out BK37015.out (by decide))) | (dsimp only; exact Kd.own_blk (Kd.R_ne HO_4.out BK37015.out (by decide)))) _).trans (hHeld.2.1)))))))))), ((cell_far (p := ⟨gb37015, _, none⟩) (by first | exact Kd.own_blk (Kd.R_ne HO_4.out BK37015.out (by decide)) | (rw [add_block]; exact Kd.own_blk (Kd.R_ne HO_4.out BK37015.out (by decide))) | (show (Addr.add _ _).block ≠ _; rw [add_block]; exact Kd.own_blk (Kd.R_ne HO_4.out BK37015.out (by decide))) | (dsimp only; exact Kd.own_blk (Kd.R_ne HO_4.out BK37015.out (by decide)))) _).trans (((cell_far (p := ⟨gb37015, _, none⟩) (by first | exact Kd.own_blk (Kd.R_ne HO_4.out BK37015.out (by decide)) | (rw [add_block]; exact Kd.own_blk (Kd.R_ne HO_4.out BK37015.out (by decide))) | (show (Addr.add _ _).block ≠ _; rw [add_block]; exact Kd.own_blk (Kd.R_ne HO_4.out BK37015.out (by decide))) | (dsimp only; exact Kd.own_blk (Kd.R_ne HO_4.out BK37015.out (by decide)))) _).trans (((cell_far (p := ⟨gb37015, _, none⟩) (by first | exact Kd.own_blk (Kd.R_ne HO_4.out BK37015.out (by decide)) | (rw [add_block]; exact Kd.own_blk (Kd.R_ne HO_4.out BK37015.out (by decide))) | (show (Addr.add _ _).block ≠ _; rw [add_block]; exact Kd.own_blk (Kd.R_ne HO_4.out BK37015.out (by decide))) | (dsimp only; exact Kd.own_blk (Kd.R_ne HO_4.out BK37015.out (by decide)))) _).trans (((cell_far (p := ⟨gb37015, _, none⟩) (by first | exact Kd.own_blk (Kd.R_ne HO_4.out BK37015.out (by decide)) | (rw [add_block]; exact Kd.own_blk (Kd.R_ne HO_4.out BK37015.out (by decide))) | (show (Addr.add _ _).block ≠ _; rw [add_block]; exact Kd.own_blk (Kd.R_ne HO_4.out BK37015.out (by decide))) | (dsimp only; exact Kd.own_blk (Kd.R_ne HO_4.out BK37015.out (by decide)))) _).trans (((cell_far (p := ⟨gb37015, _, none⟩) (by first | exact Kd.own_blk (Kd.R_ne HO_4.out BK37015.out (by decide)) | (rw [add_block]; exact Kd.own_blk (Kd.R_ne HO_4.out BK37015.out (by decide))) | (show (Addr.add _ _).block ≠ _; rw [add_block]; exact Kd.own_blk (Kd.R_ne HO_4.out BK37015.out (by decide))) | (dsimp only; exact Kd.own_blk (Kd.R_ne HO_4.out BK37015.out (by decide)))) _).trans (hHeld.2.2.1)))))))))), ((cell_far (p := ⟨gb37015, _, none⟩) (by first | exact Kd.own_blk (Kd.R_ne HO_4.out BK37015.out (by decide)) | (rw [add_block]; exact Kd.own_blk (Kd.R_ne HO_4.out BK37015.out (by decide))) | (show (Addr.add _ _).block ≠ _; rw [add_block]; exact Kd.own_blk (Kd.R_ne HO_4.out BK37015.out (by decide))) | (dsimp only; exact Kd.own_blk (Kd.R_ne HO_4.out BK37015.out (by decide)))) _).trans (((cell_far (p := ⟨gb37015, _, none⟩) (by first | exact Kd.own_blk (Kd.R_ne HO_4.out BK37015.out (by decide)) | (rw [add_block]; exact Kd.own_blk (Kd.R_ne HO_4.out BK37015.out (by decide))) | (show (Addr.add _ _).block ≠ _; rw [add_block]; exact Kd.own_blk (Kd.R_ne HO_4.out BK37015.out (by decide))) | (dsimp only; exact Kd.own_blk (Kd.R_ne HO_4.out BK37015.out (by decide)))) _).trans (((cell_far (p := ⟨gb37015, _, none⟩) (by first | exact Kd.own_blk (Kd.R_ne HO_4.out BK37015.out (by decide)) | (rw [add_block]; exact Kd.own_blk (Kd.R_ne HO_4.out BK37015.out (by decide))) | (show (Addr.add _ _).block ≠ _; rw [add_block]; exact Kd.own_blk (Kd.R_ne HO_4.out BK37015.out (by decide))) | (dsimp only; exact Kd.own_blk (Kd.R_ne HO_4.out BK37015.out (by decide)))) _).trans (((cell_far (p := ⟨gb37015, _, none⟩) (by first | exact Kd.own_blk (Kd.R_ne HO_4.out BK37015.out (by decide)) | (rw [add_block]; exact Kd.own_blk (Kd.R_ne HO_4.out BK37015.out (by decide))) | (show (Addr.add _ _).block ≠ _; rw [add_block]; exact Kd.own_blk (Kd.R_ne HO_4.out BK37015.out (by decide))) | (dsimp only; exact Kd.own_blk (Kd.R_ne HO_4.out BK37015.out (by decide)))) _).trans (((cell_far (p := ⟨gb37015, _, none⟩) (by first | exact Kd.own_blk (Kd.R_ne HO_4.out BK37015.out (by decide)) | (rw [add_block]; exact Kd.own_blk (Kd.R_ne HO_4.out BK37015.out (by decide))) | (show (Addr.add _ _).block ≠ _; rw [add_block]; exact Kd.own_blk (Kd.R_ne HO_4.out BK37015.out (by decide))) | (dsimp only; exact Kd.own_blk (Kd.R_ne HO_4.out BK37015.out (by decide)))) _).trans (hHeld.2.2.2))))))))))⟩ (fun hHeld => ?_)
          clear hK K
          refine done_ (done_of HT_.out (by kernel_rfl)) ?_
          by_cases c25 : (rdOf ByteArray.empty t37002 2).toList = ([] : List UInt8)
          ·rw [if_pos c25] at H
           have c25b0 : ((rdOf ByteArray.empty t37002 2).toList == ([] : List UInt8)) = true := beq_iff_eq.mpr c25
           have c25b1 : ((rdOf ByteArray.empty t37002 2).toList != ([] : List UInt8)) = false := bne_eq_false_iff_eq.mpr c25
           clear c25
           simp only [Option.some.injEq, Prod.mk.injEq] at H
           obtain ⟨rfl, rfl, rfl, rfl, rfl, rfl⟩ := H
           have p37016 : 0 ≤ (2 : Int) := (by omega)
           have q37016 : 2 < (t37002.length : Int) := of_decide_eq_true (by first | (with_reducible assumption) | assumption)
           obtain ⟨ad37016, e37016, hx37016_0⟩ := Kd.at_string (Kd.R_reads' HO_4.out).2.2 2 p37016 q37016
           obtain rfl : ad37006 = ad37016 := (by injection e37016)
           (try simp only [show (2 : Int).toNat = 2 from rfl, Nat.reduceMul, Nat.reduceEqDiff, Go.Addr.add, ↓reduceIte] at hx37016_0)
           have qi37016 : (2 < t37002.length) = True := eq_true (by omega)
           (try rw [show ((2 : Int)).toNat = 2 from rfl] at hx37016_0)
           have hn37016_0 : ad37006.block ≠ gb37015 := Kd.own_blk (Kd.R_ne HO_4.out BK37015.out (by decide))
           have hn37016_1 : ad37006.block ≠ gb37015 := Kd.own_blk (Kd.R_ne HO_4.out BK37015.out (by decide))
           have hn37016_2 : ad37006.block ≠ gb37015 := Kd.own_blk (Kd.R_ne HO_4.out BK37015.out (by decide))
           have hn37016_3 : ad37006.block ≠ gb37015 := Kd.own_blk (Kd.R_ne HO_4.out BK37015.out (by decide))
           have hn37016_4 : ad37006.block ≠ gb37015 := Kd.own_blk (Kd.R_ne HO_4.out BK37015.out (by decide))
           replace hx37016_0 := (cell_far (p := ⟨gb37015, 0, none⟩) (by first | (rw [add_block]; exact hn37016_0) | (show (Addr.add _ _).block ≠ _; rw [add_block]; exact hn37016_0) | exact hn37016_0) (.int .i64 t37007)).trans hx37016_0
           replace hx37016_0 := (cell_far (p := ⟨gb37015, 1, none⟩) (by first | (rw [add_block]; exact hn37016_1) | (show (Addr.add _ _).block ≠ _; rw [add_block]; exact hn37016_1) | exact hn37016_1) (.string t37009)).trans hx37016_0
           replace hx37016_0 := (cell_far (p := ⟨gb37015, 2, none⟩) (by first | (rw [add_block]; exact hn37016_2) | (show (Addr.add _ _).block ≠ _; rw [add_block]; exact hn37016_2) | exact hn37016_2) (.string t37011)).trans hx37016_0
           replace hx37016_0 := (cell_far (p := ⟨gb37015, 3, none⟩) (by first | (rw [add_block]; exact hn37016_3) | (show (Addr.add _ _).block ≠ _; rw [add_block]; exact hn37016_3) | exact hn37016_3) (.string t37013)).trans hx37016_0
           replace hx37016_0 := (cell_far (p := ⟨gb37015, 4, none⟩) (by first | (rw [add_block]; exact hn37016_4) | (show (Addr.add _ _).block ≠ _; rw [add_block]; exact hn37016_4) | exact hn37016_4) (.string (rdOf ByteArray.empty t37002 5))).trans hx37016_0
           clear hn37016_0
           clear hn37016_1
           clear hn37016_2
           clear hn37016_3
           clear hn37016_4
           replace p37016 := eq_true p37016
           replace q37016 := eq_true q37016
           have hnb36 := NB37001_37015.out
           have hnc36 := NB37015_37001.out
           have hcz37_0 : w69.cell? ⟨gb37001, 0, none⟩ = some (.int .i64 0) := (blk_cell BK37001.out 0).trans rfl
           have hcz37_1 : w69.cell? ⟨gb37001, 1, none⟩ = some (.string (⟨#[]⟩ : ByteArray)) := (blk_cell BK37001.out 1).trans rfl
           have hcz37_2 : w69.cell? ⟨gb37001, 2, none⟩ = some (.string (⟨#[]⟩ : ByteArray)) := (blk_cell BK37001.out 2).trans rfl
           have hcz37_3 : w69.cell? ⟨gb37001, 3, none⟩ = some (.string (⟨#[]⟩ : ByteArray)) := (blk_cell BK37001.out 3).trans rfl
           have hcz37_4 : w69.cell? ⟨gb37001, 4, none⟩ = some (.string (⟨#[]⟩ : ByteArray)) := (blk_cell BK37001.out 4).trans rfl
           have hfz37_0 := blk_frozen BK37001.out 0
           have hfz37_1 := blk_frozen BK37001.out 1
           have hfz37_2 := blk_frozen BK37001.out 2
           have hfz37_3 := blk_frozen BK37001.out 3
           have hfz37_4 := blk_frozen BK37001.out 4
           try go_wp2
           refine bodyPost_ret (results_ct rfl _ _ gb37001 23 #[.int .i64 0, .string (⟨#[]⟩ : ByteArray), .string (⟨#[]⟩ : ByteArray), .string (⟨#[]⟩ : ByteArray), .string (⟨#[]⟩ : ByteArray)] (0, 0) _ rfl (by (with_reducible repeat (first | refine blk_drewN ?_ _ | refine blk_drew ?_ | refine blk_alloc ?_ _)); refine blk_put (cs := #[.int .i64 0, .string (⟨#[]⟩ : ByteArray), .string (⟨#[]⟩ : ByteArray), .string (⟨#[]⟩ : ByteArray), .string (⟨#[]⟩ : ByteArray)]) ?_ 4 _ rfl; (with_reducible repeat (first | refine blk_drewN ?_ _ | refine blk_drew ?_ | refine blk_alloc ?_ _)); refine blk_put (cs := #[.int .i64 0, .string (⟨#[]⟩ : ByteArray), .string (⟨#[]⟩ : ByteArray), .string (⟨#[]⟩ : ByteArray), .string (⟨#[]⟩ : ByteArray)]) ?_ 3 _ rfl; (with_reducible repeat (first | refine blk_drewN ?_ _ | refine blk_drew ?_ | refine blk_alloc ?_ _)); refine blk_put (cs := #[.int .i64 0, .string (⟨#[]⟩ : ByteArray), .string (⟨#[]⟩ : ByteArray), .string (⟨#[]⟩ : ByteArray), .string (⟨#[]⟩ : ByteArray)]) ?_ 2 _ rfl; (with_reducible repeat (first | refine blk_drewN ?_ _ | refine blk_drew ?_ | refine blk_alloc ?_ _)); refine blk_put (cs := #[.int .i64 0, .string (⟨#[]⟩ : ByteArray), .string (⟨#[]⟩ : ByteArray), .string (⟨#[]⟩ : ByteArray), .string (⟨#[]⟩ : ByteArray)]) ?_ 1 _ rfl; (with_reducible repeat (first | refine blk_drewN ?_ _ | refine blk_drew ?_ | refine blk_alloc ?_ _)); refine blk_put (cs := #[.int .i64 0, .string (⟨#[]⟩ : ByteArray), .string (⟨#[]⟩ : ByteArray), .string (⟨#[]⟩ : ByteArray), .string (⟨#[]⟩ : ByteArray)]) ?_ 0 _ rfl; (with_reducible repeat (first | refine blk_drewN ?_ _ | refine blk_drew ?_ | refine blk_alloc ?_ _)); refine blk_far ?_ NB37001_37015.out _; (with_reducible repeat (first | refine blk_drewN ?_ _ | refine blk_drew ?_ | refine blk_alloc ?_ _)); refine blk_far ?_ NB37001_37015.out _; (with_reducible repeat (first | refine blk_drewN ?_ _ | refine blk_drew ?_ | refine blk_alloc ?_ _)); refine blk_far ?_ NB37001_37015.out _; (with_reducible repeat (first | refine blk_drewN ?_ _ | refine blk_drew ?_ | refine blk_alloc ?_ _)); refine blk_far ?_ NB37001_37015.out _; (with_reducible repeat (first | refine blk_drewN ?_ _ | refine blk_drew ?_ | refine blk_alloc ?_ _)); refine blk_far ?_ NB37001_37015.out _; (with_reducible repeat (first | refine blk_drewN ?_ _ | refine blk_drew ?_ | refine blk_alloc ?_ _)); exact BK37001.out) Tryd.underlying23 rfl (by kernel_rfl)) rfl ?_
           exact ⟨by first | rfl | (simp [errW_none, errW_some] <;> rfl) | (simp [*, errW_none, errW_some] <;> rfl), by repeat (first | (with_reducible first | exact HB.out | apply below_alloc | apply pw_below_drewN | apply below_drew1 | refine below_set ?_ GE37001.out | refine below_set ?_ GE37015.out) | exact HB.out)⟩
          ·rw [if_neg c25] at H
           have c25b0 : ((rdOf ByteArray.empty t37002 2).toList == ([] : List UInt8)) = false := beq_eq_false_iff_ne.mpr c25
           have c25b1 : ((rdOf ByteArray.empty t37002 2).toList != ([] : List UInt8)) = true := bne_iff_ne.mpr c25
           by_cases c38 : (rdOf ByteArray.empty t37002 3).toList = ([] : List UInt8)
           ·rw [if_pos c38] at H
            have c38b0 : ((rdOf ByteArray.empty t37002 3).toList == ([] : List UInt8)) = true := beq_iff_eq.mpr c38
            have c38b1 : ((rdOf ByteArray.empty t37002 3).toList != ([] : List UInt8)) = false := bne_eq_false_iff_eq.mpr c38
            clear c38
            simp only [Option.some.injEq, Prod.mk.injEq] at H
            obtain ⟨rfl, rfl, rfl, rfl, rfl, rfl⟩ := H
            have p37016 : 0 ≤ (2 : Int) := (by omega)
            have q37016 : 2 < (t37002.length : Int) := of_decide_eq_true (by first | (with_reducible assumption) | assumption)
            obtain ⟨ad37016, e37016, hx37016_0⟩ := Kd.at_string (Kd.R_reads' HO_4.out).2.2 2 p37016 q37016
            obtain rfl : ad37006 = ad37016 := (by injection e37016)
            (try simp only [show (2 : Int).toNat = 2 from rfl, Nat.reduceMul, Nat.reduceEqDiff, Go.Addr.add, ↓reduceIte] at hx37016_0)
            have qi37016 : (2 < t37002.length) = True := eq_true (by omega)
            (try rw [show ((2 : Int)).toNat = 2 from rfl] at hx37016_0)
            have hn37016_0 : ad37006.block ≠ gb37015 := Kd.own_blk (Kd.R_ne HO_4.out BK37015.out (by decide))
            have hn37016_1 : ad37006.block ≠ gb37015 := Kd.own_blk (Kd.R_ne HO_4.out BK37015.out (by decide))
            have hn37016_2 : ad37006.block ≠ gb37015 := Kd.own_blk (Kd.R_ne HO_4.out BK37015.out (by decide))
            have hn37016_3 : ad37006.block ≠ gb37015 := Kd.own_blk (Kd.R_ne HO_4.out BK37015.out (by decide))
            have hn37016_4 : ad37006.block ≠ gb37015 := Kd.own_blk (Kd.R_ne HO_4.out BK37015.out (by decide))
            replace hx37016_0 := (cell_far (p := ⟨gb37015, 0, none⟩) (by first | (rw [add_block]; exact hn37016_0) | (show (Addr.add _ _).block ≠ _; rw [add_block]; exact hn37016_0) | exact hn37016_0) (.int .i64 t37007)).trans hx37016_0
            replace hx37016_0 := (cell_far (p := ⟨gb37015, 1, none⟩) (by first | (rw [add_block]; exact hn37016_1) | (show (Addr.add _ _).block ≠ _; rw [add_block]; exact hn37016_1) | exact hn37016_1) (.string t37009)).trans hx37016_0
            replace hx37016_0 := (cell_far (p := ⟨gb37015, 2, none⟩) (by first | (rw [add_block]; exact hn37016_2) | (show (Addr.add _ _).block ≠ _; rw [add_block]; exact hn37016_2) | exact hn37016_2) (.string t37011)).trans hx37016_0
            replace hx37016_0 := (cell_far (p := ⟨gb37015, 3, none⟩) (by first | (rw [add_block]; exact hn37016_3) | (show (Addr.add _ _).block ≠ _; rw [add_block]; exact hn37016_3) | exact hn37016_3) (.string t37013)).trans hx37016_0
            replace hx37016_0 := (cell_far (p := ⟨gb37015, 4, none⟩) (by first | (rw [add_block]; exact hn37016_4) | (show (Addr.add _ _).block ≠ _; rw [add_block]; exact hn37016_4) | exact hn37016_4) (.string (rdOf ByteArray.empty t37002 5))).trans hx37016_0
            clear hn37016_0
            clear hn37016_1
            clear hn37016_2
            clear hn37016_3
            clear hn37016_4
            replace p37016 := eq_true p37016
            replace q37016 := eq_true q37016
            have p37017 : 0 ≤ (3 : Int) := (by omega)
            have q37017 : 3 < (t37002.length : Int) := of_decide_eq_true (by first | (with_reducible assumption) | assumption)
            obtain ⟨ad37017, e37017, hx37017_0⟩ := Kd.at_string (Kd.R_reads' HO_4.out).2.2 3 p37017 q37017
            obtain rfl : ad37006 = ad37017 := (by injection e37017)
            (try simp only [show (3 : Int).toNat = 3 from rfl, Nat.reduceMul, Nat.reduceEqDiff, Go.Addr.add, ↓reduceIte] at hx37017_0)
            have qi37017 : (3 < t37002.length) = True := eq_true (by omega)
            (try rw [show ((3 : Int)).toNat = 3 from rfl] at hx37017_0)
            have hn37017_0 : ad37006.block ≠ gb37015 := Kd.own_blk (Kd.R_ne HO_4.out BK37015.out (by decide))
            have hn37017_1 : ad37006.block ≠ gb37015 := Kd.own_blk (Kd.R_ne HO_4.out BK37015.out (by decide))
            have hn37017_2 : ad37006.block ≠ gb37015 := Kd.own_blk (Kd.R_ne HO_4.out BK37015.out (by decide))
            have hn37017_3 : ad37006.block ≠ gb37015 := Kd.own_blk (Kd.R_ne HO_4.out BK37015.out (by decide))
            have hn37017_4 : ad37006.block ≠ gb37015 := Kd.own_blk (Kd.R_ne HO_4.out BK37015.out (by decide))
            replace hx37017_0 := (cell_far (p := ⟨gb37015, 0, none⟩) (by first | (rw [add_block]; exact hn37017_0) | (show (Addr.add _ _).block ≠ _; rw [add_block]; exact hn37017_0) | exact hn37017_0) (.int .i64 t37007)).trans hx37017_0
            replace hx37017_0 := (cell_far (p := ⟨gb37015, 1, none⟩) (by first | (rw [add_block]; exact hn37017_1) | (show (Addr.add _ _).block ≠ _; rw [add_block]; exact hn37017_1) | exact hn37017_1) (.string t37009)).trans hx37017_0
            replace hx37017_0 := (cell_far (p := ⟨gb37015, 2, none⟩) (by first | (rw [add_block]; exact hn37017_2) | (show (Addr.add _ _).block ≠ _; rw [add_block]; exact hn37017_2) | exact hn37017_2) (.string t37011)).trans hx37017_0
            replace hx37017_0 := (cell_far (p := ⟨gb37015, 3, none⟩) (by first | (rw [add_block]; exact hn37017_3) | (show (Addr.add _ _).block ≠ _; rw [add_block]; exact hn37017_3) | exact hn37017_3) (.string t37013)).trans hx37017_0
            replace hx37017_0 := (cell_far (p := ⟨gb37015, 4, none⟩) (by first | (rw [add_block]; exact hn37017_4) | (show (Addr.add _ _).block ≠ _; rw [add_block]; exact hn37017_4) | exact hn37017_4) (.string (rdOf ByteArray.empty t37002 5))).trans hx37017_0
            clear hn37017_0
            clear hn37017_1
            clear hn37017_2
            clear hn37017_3
            clear hn37017_4
            replace p37017 := eq_true p37017
            replace q37017 := eq_true q37017
            have hnb49 := NB37001_37015.out
            have hnc49 := NB37015_37001.out
            have hcz50_0 : w69.cell? ⟨gb37001, 0, none⟩ = some (.int .i64 0) := (blk_cell BK37001.out 0).trans rfl
            have hcz50_1 : w69.cell? ⟨gb37001, 1, none⟩ = some (.string (⟨#[]⟩ : ByteArray)) := (blk_cell BK37001.out 1).trans rfl
            have hcz50_2 : w69.cell? ⟨gb37001, 2, none⟩ = some (.string (⟨#[]⟩ : ByteArray)) := (blk_cell BK37001.out 2).trans rfl
            have hcz50_3 : w69.cell? ⟨gb37001, 3, none⟩ = some (.string (⟨#[]⟩ : ByteArray)) := (blk_cell BK37001.out 3).trans rfl
            have hcz50_4 : w69.cell? ⟨gb37001, 4, none⟩ = some (.string (⟨#[]⟩ : ByteArray)) := (blk_cell BK37001.out 4).trans rfl
            have hfz50_0 := blk_frozen BK37001.out 0
            have hfz50_1 := blk_frozen BK37001.out 1
            have hfz50_2 := blk_frozen BK37001.out 2
            have hfz50_3 := blk_frozen BK37001.out 3
            have hfz50_4 := blk_frozen BK37001.out 4
            try go_wp2
            refine bodyPost_ret (results_ct rfl _ _ gb37001 23 #[.int .i64 0, .string (⟨#[]⟩ : ByteArray), .string (⟨#[]⟩ : ByteArray), .string (⟨#[]⟩ : ByteArray), .string (⟨#[]⟩ : ByteArray)] (0, 0) _ rfl (by (with_reducible repeat (first | refine blk_drewN ?_ _ | refine blk_drew ?_ | refine blk_alloc ?_ _)); refine blk_put (cs := #[.int .i64 0, .string (⟨#[]⟩ : ByteArray), .string (⟨#[]⟩ : ByteArray), .string (⟨#[]⟩ : ByteArray), .string (⟨#[]⟩ : ByteArray)]) ?_ 4 _ rfl; (with_reducible repeat (first | refine blk_drewN ?_ _ | refine blk_drew ?_ | refine blk_alloc ?_ _)); refine blk_put (cs := #[.int .i64 0, .string (⟨#[]⟩ : ByteArray), .string (⟨#[]⟩ : ByteArray), .string (⟨#[]⟩ : ByteArray), .string (⟨#[]⟩ : ByteArray)]) ?_ 3 _ rfl; (with_reducible repeat (first | refine blk_drewN ?_ _ | refine blk_drew ?_ | refine blk_alloc ?_ _)); refine blk_put (cs := #[.int .i64 0, .string (⟨#[]⟩ : ByteArray), .string (⟨#[]⟩ : ByteArray), .string (⟨#[]⟩ : ByteArray), .string (⟨#[]⟩ : ByteArray)]) ?_ 2 _ rfl; (with_reducible repeat (first | refine blk_drewN ?_ _ | refine blk_drew ?_ | refine blk_alloc ?_ _)); refine blk_put (cs := #[.int .i64 0, .string (⟨#[]⟩ : ByteArray), .string (⟨#[]⟩ : ByteArray), .string (⟨#[]⟩ : ByteArray), .string (⟨#[]⟩ : ByteArray)]) ?_ 1 _ rfl; (with_reducible repeat (first | refine blk_drewN ?_ _ | refine blk_drew ?_ | refine blk_alloc ?_ _)); refine blk_put (cs := #[.int .i64 0, .string (⟨#[]⟩ : ByteArray), .string (⟨#[]⟩ : ByteArray), .string (⟨#[]⟩ : ByteArray), .string (⟨#[]⟩ : ByteArray)]) ?_ 0 _ rfl; (with_reducible repeat (first | refine blk_drewN ?_ _ | refine blk_drew ?_ | refine blk_alloc ?_ _)); refine blk_far ?_ NB37001_37015.out _; (with_reducible repeat (first | refine blk_drewN ?_ _ | refine blk_drew ?_ | refine blk_alloc ?_ _)); refine blk_far ?_ NB37001_37015.out _; (with_reducible repeat (first | refine blk_drewN ?_ _ | refine blk_drew ?_ | refine blk_alloc ?_ _)); refine blk_far ?_ NB37001_37015.out _; (with_reducible repeat (first | refine blk_drewN ?_ _ | refine blk_drew ?_ | refine blk_alloc ?_ _)); refine blk_far ?_ NB37001_37015.out _; (with_reducible repeat (first | refine blk_drewN ?_ _ | refine blk_drew ?_ | refine blk_alloc ?_ _)); refine blk_far ?_ NB37001_37015.out _; (with_reducible repeat (first | refine blk_drewN ?_ _ | refine blk_drew ?_ | refine blk_alloc ?_ _)); exact BK37001.out) Tryd.underlying23 rfl (by kernel_rfl)) rfl ?_
            exact ⟨by first | rfl | (simp [errW_none, errW_some] <;> rfl) | (simp [*, errW_none, errW_some] <;> rfl), by repeat (first | (with_reducible first | exact HB.out | apply below_alloc | apply pw_below_drewN | apply below_drew1 | refine below_set ?_ GE37001.out | refine below_set ?_ GE37015.out) | exact HB.out)⟩
           ·rw [if_neg c38] at H
            have c38b0 : ((rdOf ByteArray.empty t37002 3).toList == ([] : List UInt8)) = false := beq_eq_false_iff_ne.mpr c38
            have c38b1 : ((rdOf ByteArray.empty t37002 3).toList != ([] : List UInt8)) = true := bne_iff_ne.mpr c38
            by_cases c51 : (rdOf ByteArray.empty t37002 4).toList = ([] : List UInt8)
            ·rw [if_pos c51] at H
             have c51b0 : ((rdOf ByteArray.empty t37002 4).toList == ([] : List UInt8)) = true := beq_iff_eq.mpr c51
             have c51b1 : ((rdOf ByteArray.empty t37002 4).toList != ([] : List UInt8)) = false := bne_eq_false_iff_eq.mpr c51
             clear c51
             simp only [Option.some.injEq, Prod.mk.injEq] at H
             obtain ⟨rfl, rfl, rfl, rfl, rfl, rfl⟩ := H
             have p37016 : 0 ≤ (2 : Int) := (by omega)
             have q37016 : 2 < (t37002.length : Int) := of_decide_eq_true (by first | (with_reducible assumption) | assumption)
             obtain ⟨ad37016, e37016, hx37016_0⟩ := Kd.at_string (Kd.R_reads' HO_4.out).2.2 2 p37016 q37016
             obtain rfl : ad37006 = ad37016 := (by injection e37016)
             (try simp only [show (2 : Int).toNat = 2 from rfl, Nat.reduceMul, Nat.reduceEqDiff, Go.Addr.add, ↓reduceIte] at hx37016_0)
             have qi37016 : (2 < t37002.length) = True := eq_true (by omega)
             (try rw [show ((2 : Int)).toNat = 2 from rfl] at hx37016_0)
             have hn37016_0 : ad37006.block ≠ gb37015 := Kd.own_blk (Kd.R_ne HO_4.out BK37015.out (by decide))
             have hn37016_1 : ad37006.block ≠ gb37015 := Kd.own_blk (Kd.R_ne HO_4.out BK37015.out (by decide))
             have hn37016_2 : ad37006.block ≠ gb37015 := Kd.own_blk (Kd.R_ne HO_4.out BK37015.out (by decide))
             have hn37016_3 : ad37006.block ≠ gb37015 := Kd.own_blk (Kd.R_ne HO_4.out BK37015.out (by decide))
             have hn37016_4 : ad37006.block ≠ gb37015 := Kd.own_blk (Kd.R_ne HO_4.out BK37015.out (by decide))
             replace hx37016_0 := (cell_far (p := ⟨gb37015, 0, none⟩) (by first | (rw [add_block]; exact hn37016_0) | (show (Addr.add _ _).block ≠ _; rw [add_block]; exact hn37016_0) | exact hn37016_0) (.int .i64 t37007)).trans hx37016_0
             replace hx37016_0 := (cell_far (p := ⟨gb37015, 1, none⟩) (by first | (rw [add_block]; exact hn37016_1) | (show (Addr.add _ _).block ≠ _; rw [add_block]; exact hn37016_1) | exact hn37016_1) (.string t37009)).trans hx37016_0
             replace hx37016_0 := (cell_far (p := ⟨gb37015, 2, none⟩) (by first | (rw [add_block]; exact hn37016_2) | (show (Addr.add _ _).block ≠ _; rw [add_block]; exact hn37016_2) | exact hn37016_2) (.string t37011)).trans hx37016_0
             replace hx37016_0 := (cell_far (p := ⟨gb37015, 3, none⟩) (by first | (rw [add_block]; exact hn37016_3) | (show (Addr.add _ _).block ≠ _; rw [add_block]; exact hn37016_3) | exact hn37016_3) (.string t37013)).trans hx37016_0
             replace hx37016_0 := (cell_far (p := ⟨gb37015, 4, none⟩) (by first | (rw [add_block]; exact hn37016_4) | (show (Addr.add _ _).block ≠ _; rw [add_block]; exact hn37016_4) | exact hn37016_4) (.string (rdOf ByteArray.empty t37002 5))).trans hx37016_0
             clear hn37016_0
             clear hn37016_1
             clear hn37016_2
             clear hn37016_3
             clear hn37016_4
             replace p37016 := eq_true p37016
             replace q37016 := eq_true q37016
             have p37017 : 0 ≤ (3 : Int) := (by omega)
             have q37017 : 3 < (t37002.length : Int) := of_decide_eq_true (by first | (with_reducible assumption) | assumption)
             obtain ⟨ad37017, e37017, hx37017_0⟩ := Kd.at_string (Kd.R_reads' HO_4.out).2.2 3 p37017 q37017
             obtain rfl : ad37006 = ad37017 := (by injection e37017)
             (try simp only [show (3 : Int).toNat = 3 from rfl, Nat.reduceMul, Nat.reduceEqDiff, Go.Addr.add, ↓reduceIte] at hx37017_0)
             have qi37017 : (3 < t37002.length) = True := eq_true (by omega)
             (try rw [show ((3 : Int)).toNat = 3 from rfl] at hx37017_0)
             have hn37017_0 : ad37006.block ≠ gb37015 := Kd.own_blk (Kd.R_ne HO_4.out BK37015.out (by decide))
             have hn37017_1 : ad37006.block ≠ gb37015 := Kd.own_blk (Kd.R_ne HO_4.out BK37015.out (by decide))
             have hn37017_2 : ad37006.block ≠ gb37015 := Kd.own_blk (Kd.R_ne HO_4.out BK37015.out (by decide))
             have hn37017_3 : ad37006.block ≠ gb37015 := Kd.own_blk (Kd.R_ne HO_4.out BK37015.out (by decide))
             have hn37017_4 : ad37006.block ≠ gb37015 := Kd.own_blk (Kd.R_ne HO_4.out BK37015.out (by decide))
             replace hx37017_0 := (cell_far (p := ⟨gb37015, 0, none⟩) (by first | (rw [add_block]; exact hn37017_0) | (show (Addr.add _ _).block ≠ _; rw [add_block]; exact hn37017_0) | exact hn37017_0) (.int .i64 t37007)).trans hx37017_0
             replace hx37017_0 := (cell_far (p := ⟨gb37015, 1, none⟩) (by first | (rw [add_block]; exact hn37017_1) | (show (Addr.add _ _).block ≠ _; rw [add_block]; exact hn37017_1) | exact hn37017_1) (.string t37009)).trans hx37017_0
             replace hx37017_0 := (cell_far (p := ⟨gb37015, 2, none⟩) (by first | (rw [add_block]; exact hn37017_2) | (show (Addr.add _ _).block ≠ _; rw [add_block]; exact hn37017_2) | exact hn37017_2) (.string t37011)).trans hx37017_0
             replace hx37017_0 := (cell_far (p := ⟨gb37015, 3, none⟩) (by first | (rw [add_block]; exact hn37017_3) | (show (Addr.add _ _).block ≠ _; rw [add_block]; exact hn37017_3) | exact hn37017_3) (.string t37013)).trans hx37017_0
             replace hx37017_0 := (cell_far (p := ⟨gb37015, 4, none⟩) (by first | (rw [add_block]; exact hn37017_4) | (show (Addr.add _ _).block ≠ _; rw [add_block]; exact hn37017_4) | exact hn37017_4) (.string (rdOf ByteArray.empty t37002 5))).trans hx37017_0
             clear hn37017_0
             clear hn37017_1
             clear hn37017_2
             clear hn37017_3
             clear hn37017_4
             replace p37017 := eq_true p37017
             replace q37017 := eq_true q37017
             have p37018 : 0 ≤ (4 : Int) := (by omega)
             have q37018 : 4 < (t37002.length : Int) := of_decide_eq_true (by first | (with_reducible assumption) | assumption)
             obtain ⟨ad37018, e37018, hx37018_0⟩ := Kd.at_string (Kd.R_reads' HO_4.out).2.2 4 p37018 q37018
             obtain rfl : ad37006 = ad37018 := (by injection e37018)
             (try simp only [show (4 : Int).toNat = 4 from rfl, Nat.reduceMul, Nat.reduceEqDiff, Go.Addr.add, ↓reduceIte] at hx37018_0)
             have qi37018 : (4 < t37002.length) = True := eq_true (by omega)
             (try rw [show ((4 : Int)).toNat = 4 from rfl] at hx37018_0)
             have hn37018_0 : ad37006.block ≠ gb37015 := Kd.own_blk (Kd.R_ne HO_4.out BK37015.out (by decide))
             have hn37018_1 : ad37006.block ≠ gb37015 := Kd.own_blk (Kd.R_ne HO_4.out BK37015.out (by decide))
             have hn37018_2 : ad37006.block ≠ gb37015 := Kd.own_blk (Kd.R_ne HO_4.out BK37015.out (by decide))
             have hn37018_3 : ad37006.block ≠ gb37015 := Kd.own_blk (Kd.R_ne HO_4.out BK37015.out (by decide))
             have hn37018_4 : ad37006.block ≠ gb37015 := Kd.own_blk (Kd.R_ne HO_4.out BK37015.out (by decide))
             replace hx37018_0 := (cell_far (p := ⟨gb37015, 0, none⟩) (by first | (rw [add_block]; exact hn37018_0) | (show (Addr.add _ _).block ≠ _; rw [add_block]; exact hn37018_0) | exact hn37018_0) (.int .i64 t37007)).trans hx37018_0
             replace hx37018_0 := (cell_far (p := ⟨gb37015, 1, none⟩) (by first | (rw [add_block]; exact hn37018_1) | (show (Addr.add _ _).block ≠ _; rw [add_block]; exact hn37018_1) | exact hn37018_1) (.string t37009)).trans hx37018_0
             replace hx37018_0 := (cell_far (p := ⟨gb37015, 2, none⟩) (by first | (rw [add_block]; exact hn37018_2) | (show (Addr.add _ _).block ≠ _; rw [add_block]; exact hn37018_2) | exact hn37018_2) (.string t37011)).trans hx37018_0
             replace hx37018_0 := (cell_far (p := ⟨gb37015, 3, none⟩) (by first | (rw [add_block]; exact hn37018_3) | (show (Addr.add _ _).block ≠ _; rw [add_block]; exact hn37018_3) | exact hn37018_3) (.string t37013)).trans hx37018_0
             replace hx37018_0 := (cell_far (p := ⟨gb37015, 4, none⟩) (by first | (rw [add_block]; exact hn37018_4) | (show (Addr.add _ _).block ≠ _; rw [add_block]; exact hn37018_4) | exact hn37018_4) (.string (rdOf ByteArray.empty t37002 5))).trans hx37018_0
             clear hn37018_0
             clear hn37018_1
             clear hn37018_2
             clear hn37018_3
             clear hn37018_4
             replace p37018 := eq_true p37018
             replace q37018 := eq_true q37018
             have hnb62 := NB37001_37015.out
             have hnc62 := NB37015_37001.out
             have hcz63_0 : w69.cell? ⟨gb37001, 0, none⟩ = some (.int .i64 0) := (blk_cell BK37001.out 0).trans rfl
             have hcz63_1 : w69.cell? ⟨gb37001, 1, none⟩ = some (.string (⟨#[]⟩ : ByteArray)) := (blk_cell BK37001.out 1).trans rfl
             have hcz63_2 : w69.cell? ⟨gb37001, 2, none⟩ = some (.string (⟨#[]⟩ : ByteArray)) := (blk_cell BK37001.out 2).trans rfl
             have hcz63_3 : w69.cell? ⟨gb37001, 3, none⟩ = some (.string (⟨#[]⟩ : ByteArray)) := (blk_cell BK37001.out 3).trans rfl
             have hcz63_4 : w69.cell? ⟨gb37001, 4, none⟩ = some (.string (⟨#[]⟩ : ByteArray)) := (blk_cell BK37001.out 4).trans rfl
             have hfz63_0 := blk_frozen BK37001.out 0
             have hfz63_1 := blk_frozen BK37001.out 1
             have hfz63_2 := blk_frozen BK37001.out 2
             have hfz63_3 := blk_frozen BK37001.out 3
             have hfz63_4 := blk_frozen BK37001.out 4
             try go_wp2
             refine bodyPost_ret (results_ct rfl _ _ gb37001 23 #[.int .i64 0, .string (⟨#[]⟩ : ByteArray), .string (⟨#[]⟩ : ByteArray), .string (⟨#[]⟩ : ByteArray), .string (⟨#[]⟩ : ByteArray)] (0, 0) _ rfl (by (with_reducible repeat (first | refine blk_drewN ?_ _ | refine blk_drew ?_ | refine blk_alloc ?_ _)); refine blk_put (cs := #[.int .i64 0, .string (⟨#[]⟩ : ByteArray), .string (⟨#[]⟩ : ByteArray), .string (⟨#[]⟩ : ByteArray), .string (⟨#[]⟩ : ByteArray)]) ?_ 4 _ rfl; (with_reducible repeat (first | refine blk_drewN ?_ _ | refine blk_drew ?_ | refine blk_alloc ?_ _)); refine blk_put (cs := #[.int .i64 0, .string (⟨#[]⟩ : ByteArray), .string (⟨#[]⟩ : ByteArray), .string (⟨#[]⟩ : ByteArray), .string (⟨#[]⟩ : ByteArray)]) ?_ 3 _ rfl; (with_reducible repeat (first | refine blk_drewN ?_ _ | refine blk_drew ?_ | refine blk_alloc ?_ _)); refine blk_put (cs := #[.int .i64 0, .string (⟨#[]⟩ : ByteArray), .string (⟨#[]⟩ : ByteArray), .string (⟨#[]⟩ : ByteArray), .string (⟨#[]⟩ : ByteArray)]) ?_ 2 _ rfl; (with_reducible repeat (first | refine blk_drewN ?_ _ | refine blk_drew ?_ | refine blk_alloc ?_ _)); refine blk_put (cs := #[.int .i64 0, .string (⟨#[]⟩ : ByteArray), .string (⟨#[]⟩ : ByteArray), .string (⟨#[]⟩ : ByteArray), .string (⟨#[]⟩ : ByteArray)]) ?_ 1 _ rfl; (with_reducible repeat (first | refine blk_drewN ?_ _ | refine blk_drew ?_ | refine blk_alloc ?_ _)); refine blk_put (cs := #[.int .i64 0, .string (⟨#[]⟩ : ByteArray), .string (⟨#[]⟩ : ByteArray), .string (⟨#[]⟩ : ByteArray), .string (⟨#[]⟩ : ByteArray)]) ?_ 0 _ rfl; (with_reducible repeat (first | refine blk_drewN ?_ _ | refine blk_drew ?_ | refine blk_alloc ?_ _)); refine blk_far ?_ NB37001_37015.out _; (with_reducible repeat (first | refine blk_drewN ?_ _ | refine blk_drew ?_ | refine blk_alloc ?_ _)); refine blk_far ?_ NB37001_37015.out _; (with_reducible repeat (first | refine blk_drewN ?_ _ | refine blk_drew ?_ | refine blk_alloc ?_ _)); refine blk_far ?_ NB37001_37015.out _; (with_reducible repeat (first | refine blk_drewN ?_ _ | refine blk_drew ?_ | refine blk_alloc ?_ _)); refine blk_far ?_ NB37001_37015.out _; (with_reducible repeat (first | refine blk_drewN ?_ _ | refine blk_drew ?_ | refine blk_alloc ?_ _)); refine blk_far ?_ NB37001_37015.out _; (with_reducible repeat (first | refine blk_drewN ?_ _ | refine blk_drew ?_ | refine blk_alloc ?_ _)); exact BK37001.out) Tryd.underlying23 rfl (by kernel_rfl)) rfl ?_
             exact ⟨by first | rfl | (simp [errW_none, errW_some] <;> rfl) | (simp [*, errW_none, errW_some] <;> rfl), by repeat (first | (with_reducible first | exact HB.out | apply below_alloc | apply pw_below_drewN | apply below_drew1 | refine below_set ?_ GE37001.out | refine below_set ?_ GE37015.out) | exact HB.out)⟩
            ·rw [if_neg c51] at H
             have c51b0 : ((rdOf ByteArray.empty t37002 4).toList == ([] : List UInt8)) = false := beq_eq_false_iff_ne.mpr c51
             have c51b1 : ((rdOf ByteArray.empty t37002 4).toList != ([] : List UInt8)) = true := bne_iff_ne.mpr c51
             replace H := Option.bind_eq_some_iff.mp H
             obtain ⟨t37019, A640, H⟩ := H
             replace H : (some (t37007, t37009, t37011, t37013, rdOf ByteArray.empty t37002 5, some t37019)) = some (r1, r2, r3, r4, r5, r6) := H
             have A64 := Aside0.mk A640
             clear A640
             simp only [Option.some.injEq, Prod.mk.injEq] at H
             obtain ⟨rfl, rfl, rfl, rfl, rfl, rfl⟩ := H
             have p37016 : 0 ≤ (2 : Int) := (by omega)
             have q37016 : 2 < (t37002.length : Int) := of_decide_eq_true (by first | (with_reducible assumption) | assumption)
             obtain ⟨ad37016, e37016, hx37016_0⟩ := Kd.at_string (Kd.R_reads' HO_4.out).2.2 2 p37016 q37016
             obtain rfl : ad37006 = ad37016 := (by injection e37016)
             (try simp only [show (2 : Int).toNat = 2 from rfl, Nat.reduceMul, Nat.reduceEqDiff, Go.Addr.add, ↓reduceIte] at hx37016_0)
             have qi37016 : (2 < t37002.length) = True := eq_true (by omega)
             (try rw [show ((2 : Int)).toNat = 2 from rfl] at hx37016_0)
             have hn37016_0 : ad37006.block ≠ gb37015 := Kd.own_blk (Kd.R_ne HO_4.out BK37015.out (by decide))
             have hn37016_1 : ad37006.block ≠ gb37015 := Kd.own_blk (Kd.R_ne HO_4.out BK37015.out (by decide))
             have hn37016_2 : ad37006.block ≠ gb37015 := Kd.own_blk (Kd.R_ne HO_4.out BK37015.out (by decide))
             have hn37016_3 : ad37006.block ≠ gb37015 := Kd.own_blk (Kd.R_ne HO_4.out BK37015.out (by decide))
             have hn37016_4 : ad37006.block ≠ gb37015 := Kd.own_blk (Kd.R_ne HO_4.out BK37015.out (by decide))
             replace hx37016_0 := (cell_far (p := ⟨gb37015, 0, none⟩) (by first | (rw [add_block]; exact hn37016_0) | (show (Addr.add _ _).block ≠ _; rw [add_block]; exact hn37016_0) | exact hn37016_0) (.int .i64 t37007)).trans hx37016_0
             replace hx37016_0 := (cell_far (p := ⟨gb37015, 1, none⟩) (by first | (rw [add_block]; exact hn37016_1) | (show (Addr.add _ _).block ≠ _; rw [add_block]; exact hn37016_1) | exact hn37016_1) (.string t37009)).trans hx37016_0
             replace hx37016_0 := (cell_far (p := ⟨gb37015, 2, none⟩) (by first | (rw [add_block]; exact hn37016_2) | (show (Addr.add _ _).block ≠ _; rw [add_block]; exact hn37016_2) | exact hn37016_2) (.string t37011)).trans hx37016_0
             replace hx37016_0 := (cell_far (p := ⟨gb37015, 3, none⟩) (by first | (rw [add_block]; exact hn37016_3) | (show (Addr.add _ _).block ≠ _; rw [add_block]; exact hn37016_3) | exact hn37016_3) (.string t37013)).trans hx37016_0
             replace hx37016_0 := (cell_far (p := ⟨gb37015, 4, none⟩) (by first | (rw [add_block]; exact hn37016_4) | (show (Addr.add _ _).block ≠ _; rw [add_block]; exact hn37016_4) | exact hn37016_4) (.string (rdOf ByteArray.empty t37002 5))).trans hx37016_0
             clear hn37016_0
             clear hn37016_1
             clear hn37016_2
             clear hn37016_3
             clear hn37016_4
             replace p37016 := eq_true p37016
             replace q37016 := eq_true q37016
             have p37017 : 0 ≤ (3 : Int) := (by omega)
             have q37017 : 3 < (t37002.length : Int) := of_decide_eq_true (by first | (with_reducible assumption) | assumption)
             obtain ⟨ad37017, e37017, hx37017_0⟩ := Kd.at_string (Kd.R_reads' HO_4.out).2.2 3 p37017 q37017
             obtain rfl : ad37006 = ad37017 := (by injection e37017)
             (try simp only [show (3 : Int).toNat = 3 from rfl, Nat.reduceMul, Nat.reduceEqDiff, Go.Addr.add, ↓reduceIte] at hx37017_0)
             have qi37017 : (3 < t37002.length) = True := eq_true (by omega)
             (try rw [show ((3 : Int)).toNat = 3 from rfl] at hx37017_0)
             have hn37017_0 : ad37006.block ≠ gb37015 := Kd.own_blk (Kd.R_ne HO_4.out BK37015.out (by decide))
             have hn37017_1 : ad37006.block ≠ gb37015 := Kd.own_blk (Kd.R_ne HO_4.out BK37015.out (by decide))
             have hn37017_2 : ad37006.block ≠ gb37015 := Kd.own_blk (Kd.R_ne HO_4.out BK37015.out (by decide))
             have hn37017_3 : ad37006.block ≠ gb37015 := Kd.own_blk (Kd.R_ne HO_4.out BK37015.out (by decide))
             have hn37017_4 : ad37006.block ≠ gb37015 := Kd.own_blk (Kd.R_ne HO_4.out BK37015.out (by decide))
             replace hx37017_0 := (cell_far (p := ⟨gb37015, 0, none⟩) (by first | (rw [add_block]; exact hn37017_0) | (show (Addr.add _ _).block ≠ _; rw [add_block]; exact hn37017_0) | exact hn37017_0) (.int .i64 t37007)).trans hx37017_0
             replace hx37017_0 := (cell_far (p := ⟨gb37015, 1, none⟩) (by first | (rw [add_block]; exact hn37017_1) | (show (Addr.add _ _).block ≠ _; rw [add_block]; exact hn37017_1) | exact hn37017_1) (.string t37009)).trans hx37017_0
             replace hx37017_0 := (cell_far (p := ⟨gb37015, 2, none⟩) (by first | (rw [add_block]; exact hn37017_2) | (show (Addr.add _ _).block ≠ _; rw [add_block]; exact hn37017_2) | exact hn37017_2) (.string t37011)).trans hx37017_0
             replace hx37017_0 := (cell_far (p := ⟨gb37015, 3, none⟩) (by first | (rw [add_block]; exact hn37017_3) | (show (Addr.add _ _).block ≠ _; rw [add_block]; exact hn37017_3) | exact hn37017_3) (.string t37013)).trans hx37017_0
             replace hx37017_0 := (cell_far (p := ⟨gb37015, 4, none⟩) (by first | (rw [add_block]; exact hn37017_4) | (show (Addr.add _ _).block ≠ _; rw [add_block]; exact hn37017_4) | exact hn37017_4) (.string (rdOf ByteArray.empty t37002 5))).trans hx37017_0
             clear hn37017_0
             clear hn37017_1
             clear hn37017_2
             clear hn37017_3
             clear hn37017_4
             replace p37017 := eq_true p37017
             replace q37017 := eq_true q37017
             have p37018 : 0 ≤ (4 : Int) := (by omega)
             have q37018 : 4 < (t37002.length : Int) := of_decide_eq_true (by first | (with_reducible assumption) | assumption)
             obtain ⟨ad37018, e37018, hx37018_0⟩ := Kd.at_string (Kd.R_reads' HO_4.out).2.2 4 p37018 q37018
             obtain rfl : ad37006 = ad37018 := (by injection e37018)
             (try simp only [show (4 : Int).toNat = 4 from rfl, Nat.reduceMul, Nat.reduceEqDiff, Go.Addr.add, ↓reduceIte] at hx37018_0)
             have qi37018 : (4 < t37002.length) = True := eq_true (by omega)
             (try rw [show ((4 : Int)).toNat = 4 from rfl] at hx37018_0)
             have hn37018_0 : ad37006.block ≠ gb37015 := Kd.own_blk (Kd.R_ne HO_4.out BK37015.out (by decide))
             have hn37018_1 : ad37006.block ≠ gb37015 := Kd.own_blk (Kd.R_ne HO_4.out BK37015.out (by decide))
             have hn37018_2 : ad37006.block ≠ gb37015 := Kd.own_blk (Kd.R_ne HO_4.out BK37015.out (by decide))
             have hn37018_3 : ad37006.block ≠ gb37015 := Kd.own_blk (Kd.R_ne HO_4.out BK37015.out (by decide))
             have hn37018_4 : ad37006.block ≠ gb37015 := Kd.own_blk (Kd.R_ne HO_4.out BK37015.out (by decide))
             replace hx37018_0 := (cell_far (p := ⟨gb37015, 0, none⟩) (by first | (rw [add_block]; exact hn37018_0) | (show (Addr.add _ _).block ≠ _; rw [add_block]; exact hn37018_0) | exact hn37018_0) (.int .i64 t37007)).trans hx37018_0
             replace hx37018_0 := (cell_far (p := ⟨gb37015, 1, none⟩) (by first | (rw [add_block]; exact hn37018_1) | (show (Addr.add _ _).block ≠ _; rw [add_block]; exact hn37018_1) | exact hn37018_1) (.string t37009)).trans hx37018_0
             replace hx37018_0 := (cell_far (p := ⟨gb37015, 2, none⟩) (by first | (rw [add_block]; exact hn37018_2) | (show (Addr.add _ _).block ≠ _; rw [add_block]; exact hn37018_2) | exact hn37018_2) (.string t37011)).trans hx37018_0
             replace hx37018_0 := (cell_far (p := ⟨gb37015, 3, none⟩) (by first | (rw [add_block]; exact hn37018_3) | (show (Addr.add _ _).block ≠ _; rw [add_block]; exact hn37018_3) | exact hn37018_3) (.string t37013)).trans hx37018_0
             replace hx37018_0 := (cell_far (p := ⟨gb37015, 4, none⟩) (by first | (rw [add_block]; exact hn37018_4) | (show (Addr.add _ _).block ≠ _; rw [add_block]; exact hn37018_4) | exact hn37018_4) (.string (rdOf ByteArray.empty t37002 5))).trans hx37018_0
             clear hn37018_0
             clear hn37018_1
             clear hn37018_2
             clear hn37018_3
             clear hn37018_4
             replace p37018 := eq_true p37018
             replace q37018 := eq_true q37018
             try go_wp2
             have n0_ : Aside0 (Kd.R Kd.string 9 (((((w69.setCell ⟨gb37015, 0, none⟩ (.int .i64 t37007)).setCell ⟨gb37015, 1, none⟩ (.string t37009)).setCell ⟨gb37015, 2, none⟩ (.string t37011)).setCell ⟨gb37015, 3, none⟩ (.string t37013)).setCell ⟨gb37015, 4, none⟩ (.string (rdOf ByteArray.empty t37002 5))) w.heap.size (fun _ => True) (.slice (some ad37006) t37002.length co66) t37002) := ⟨by (with_reducible repeat (first | apply Kd.R_alloc | apply Kd.R_drewN | apply Kd.R_drew)); exact Kd.R_mono (Kd.R_far (p := ⟨gb37015, 4, none⟩) (Kd.R_far (p := ⟨gb37015, 3, none⟩) (Kd.R_far (p := ⟨gb37015, 2, none⟩) (Kd.R_far (p := ⟨gb37015, 1, none⟩) (Kd.R_far (p := ⟨gb37015, 0, none⟩) (Kd.R_types HO_4.out BK37015.out (by decide)) (fun _ hk => hk.2) (.int .i64 t37007)) (fun _ hk => hk.2) (.string t37009)) (fun _ hk => hk.2) (.string t37011)) (fun _ hk => hk.2) (.string t37013)) (fun _ hk => hk.2) (.string (rdOf ByteArray.empty t37002 5))) (fun _ hk => trivial)⟩
             have n1_ : Aside0 ((((((w69.setCell ⟨gb37015, 0, none⟩ (.int .i64 t37007)).setCell ⟨gb37015, 1, none⟩ (.string t37009)).setCell ⟨gb37015, 2, none⟩ (.string t37011)).setCell ⟨gb37015, 3, none⟩ (.string t37013)).setCell ⟨gb37015, 4, none⟩ (.string (rdOf ByteArray.empty t37002 5))).heap[gb37001]? = some (.cells #[.int .i64 0, .string (⟨#[]⟩ : ByteArray), .string (⟨#[]⟩ : ByteArray), .string (⟨#[]⟩ : ByteArray), .string (⟨#[]⟩ : ByteArray)] 23 (0, 0))) := ⟨by (with_reducible repeat (first | refine blk_drewN ?_ _ | refine blk_drew ?_ | refine blk_alloc ?_ _)); refine blk_far ?_ NB37001_37015.out _; (with_reducible repeat (first | refine blk_drewN ?_ _ | refine blk_drew ?_ | refine blk_alloc ?_ _)); refine blk_far ?_ NB37001_37015.out _; (with_reducible repeat (first | refine blk_drewN ?_ _ | refine blk_drew ?_ | refine blk_alloc ?_ _)); refine blk_far ?_ NB37001_37015.out _; (with_reducible repeat (first | refine blk_drewN ?_ _ | refine blk_drew ?_ | refine blk_alloc ?_ _)); refine blk_far ?_ NB37001_37015.out _; (with_reducible repeat (first | refine blk_drewN ?_ _ | refine blk_drew ?_ | refine blk_alloc ?_ _)); refine blk_far ?_ NB37001_37015.out _; (with_reducible repeat (first | refine blk_drewN ?_ _ | refine blk_drew ?_ | refine blk_alloc ?_ _)); exact BK37001.out⟩
             have n2_ : Aside0 ((((((w69.setCell ⟨gb37015, 0, none⟩ (.int .i64 t37007)).setCell ⟨gb37015, 1, none⟩ (.string t37009)).setCell ⟨gb37015, 2, none⟩ (.string t37011)).setCell ⟨gb37015, 3, none⟩ (.string t37013)).setCell ⟨gb37015, 4, none⟩ (.string (rdOf ByteArray.empty t37002 5))).heap[gb37015]? = some (.cells #[.int .i64 t37007, .string t37009, .string t37011, .string t37013, .string (rdOf ByteArray.empty t37002 5)] 23 (0, 0))) := ⟨by (with_reducible repeat (first | refine blk_drewN ?_ _ | refine blk_drew ?_ | refine blk_alloc ?_ _)); refine blk_put (cs := #[.int .i64 t37007, .string t37009, .string t37011, .string t37013, .string (⟨#[]⟩ : ByteArray)]) ?_ 4 _ rfl; (with_reducible repeat (first | refine blk_drewN ?_ _ | refine blk_drew ?_ | refine blk_alloc ?_ _)); refine blk_put (cs := #[.int .i64 t37007, .string t37009, .string t37011, .string (⟨#[]⟩ : ByteArray), .string (⟨#[]⟩ : ByteArray)]) ?_ 3 _ rfl; (with_reducible repeat (first | refine blk_drewN ?_ _ | refine blk_drew ?_ | refine blk_alloc ?_ _)); refine blk_put (cs := #[.int .i64 t37007, .string t37009, .string (⟨#[]⟩ : ByteArray), .string (⟨#[]⟩ : ByteArray), .string (⟨#[]⟩ : ByteArray)]) ?_ 2 _ rfl; (with_reducible repeat (first | refine blk_drewN ?_ _ | refine blk_drew ?_ | refine blk_alloc ?_ _)); refine blk_put (cs := #[.int .i64 t37007, .string (⟨#[]⟩ : ByteArray), .string (⟨#[]⟩ : ByteArray), .string (⟨#[]⟩ : ByteArray), .string (⟨#[]⟩ : ByteArray)]) ?_ 1 _ rfl; (with_reducible repeat (first | refine blk_drewN ?_ _ | refine blk_drew ?_ | refine blk_alloc ?_ _)); refine blk_put (cs := #[.int .i64 0, .string (⟨#[]⟩ : ByteArray), .string (⟨#[]⟩ : ByteArray), .string (⟨#[]⟩ : ByteArray), .string (⟨#[]⟩ : ByteArray)]) ?_ 0 _ rfl; (with_reducible repeat (first | refine blk_drewN ?_ _ | refine blk_drew ?_ | refine blk_alloc ?_ _)); exact BK37015.out⟩
             have n3_ : Aside0 (Below w.heap.size w (((((w69.setCell ⟨gb37015, 0, none⟩ (.int .i64 t37007)).setCell ⟨gb37015, 1, none⟩ (.string t37009)).setCell ⟨gb37015, 2, none⟩ (.string t37011)).setCell ⟨gb37015, 3, none⟩ (.string t37013)).setCell ⟨gb37015, 4, none⟩ (.string (rdOf ByteArray.empty t37002 5)))) := ⟨by repeat (first | (with_reducible first | exact HB.out | apply below_alloc | apply pw_below_drewN | apply below_drew1 | refine below_set ?_ GE37001.out | refine below_set ?_ GE37015.out) | exact HB.out)⟩
             (try clear HO_4)
             (try clear BK37001)
             (try clear BK37015)
             (try clear HB)
             generalize (((((w69.setCell ⟨gb37015, 0, none⟩ (.int .i64 t37007)).setCell ⟨gb37015, 1, none⟩ (.string t37009)).setCell ⟨gb37015, 2, none⟩ (.string t37011)).setCell ⟨gb37015, 3, none⟩ (.string t37013)).setCell ⟨gb37015, 4, none⟩ (.string (rdOf ByteArray.empty t37002 5))) = w75 at n0_ n1_ n2_ n3_ ⊢
             have HO_4 := n0_
             have BK37001 := n1_
             have BK37015 := n2_
             have HB := n3_
             clear n0_ n1_ n2_ n3_
             have n0_ := Aside0.mk (Kd.R_drew HO_4.out)
             have n1_ := Aside0.mk (blk_drew BK37001.out)
             have n2_ := Aside0.mk (blk_drew BK37015.out)
             have n3_ := Aside0.mk (below_drew1 HB.out)
             clear HO_4
             clear BK37001
             clear BK37015
             clear HB
             have HO_4 := n0_
             have BK37001 := n1_
             have BK37015 := n2_
             have HB := n3_
             clear n0_ n1_ n2_ n3_
             refine start_ (n := 6) (S := fun w' => w'.cell? ⟨gb37015, 0, none⟩ = some (.int .i64 t37007) ∧ w'.cell? ⟨gb37015, 1, none⟩ = some (.string t37009) ∧ w'.cell? ⟨gb37015, 2, none⟩ = some (.string t37011) ∧ w'.cell? ⟨gb37015, 3, none⟩ = some (.string t37013) ∧ w'.cell? ⟨gb37015, 4, none⟩ = some (.string (rdOf ByteArray.empty t37002 5))) (ds := []) #[false, false, false, false, false, false] (by kernel_rfl) rfl rfl ⟨(blk_cell BK37015.out 0).trans rfl, (blk_cell BK37015.out 1).trans rfl, (blk_cell BK37015.out 2).trans rfl, (blk_cell BK37015.out 3).trans rfl, (blk_cell BK37015.out 4).trans rfl⟩ (fun hHeld => ?_)
             generalize w75.drew = w76 at HO_4 BK37001 BK37015 HB hHeld ⊢
             refine take_ (i := 0) (N := some 64) (v := ?_) (a' := ?_) #[true, false, false, false, false, false] rfl rfl (by kernel_rfl) (fun _ _ _ h => h) (Or.inl ⟨by rfl, ?_⟩) hHeld ?_ ?_
             rotate_left
             ·rintro w' ⟨s0, s1, s2, s3, s4⟩
              go_simp
              with_reducible rfl
             rotate_left
             ·simp only [Act.put, List.setIfInBounds_toArray, List.set_cons_zero, List.set_cons_succ, i64_w, i32_w]
              rfl
             refine take_ (i := 1) (N := some 65) (v := ?_) (a' := ?_) #[true, true, false, false, false, false] rfl rfl (by kernel_rfl) (fun _ _ _ h => h) (Or.inl ⟨by rfl, ?_⟩) hHeld ?_ ?_
             rotate_left
             ·rintro w' ⟨s0, s1, s2, s3, s4⟩
              go_simp
              with_reducible rfl
             rotate_left
             ·simp only [Act.put, List.setIfInBounds_toArray, List.set_cons_zero, List.set_cons_succ, i64_w, i32_w]
              rfl
             refine one_ (i := 2) (N := some 66) #[true, true, true, false, false, false] rfl rfl (by kernel_rfl) (by decide) (fun K hK => ?_)
             refine goes_ Tryd.func8 (by kernel_rfl) rfl #[.agg #[.int .i64 t37007, .string t37009, .string t37011, .string t37013, .string (rdOf ByteArray.empty t37002 5)]] (by rfl) rfl rfl (by (try simp only [List.map_toArray, List.map_cons, List.map_nil]); first | done | rfl | (simp only [List.length_drop, List.length_take]; rfl)) ?_
             with_reducible refine (suppress_Check.calls kj2 t37007 t37009 t37011 t37013 (rdOf ByteArray.empty t37002 5) t37019 _ ?side1 A64.out).mono ?_
             (case side1 => exact Gh.below HGH.out (by repeat (first | (with_reducible first | exact HB.out | apply below_alloc | apply pw_below_drewN | apply below_drew1 | refine below_set ?_ GE37001.out | refine below_set ?_ GE37015.out) | exact HB.out)))
             rintro e w77 ⟨rfl, hb⟩
             refine ⟨_, rfl, ?_⟩
             have n0_ := Aside0.mk (Kd.R_below (by (with_reducible repeat (first | apply Kd.R_alloc | apply Kd.R_drewN | apply Kd.R_drew)); exact HO_4.out) hb)
             have n1_ := Aside0.mk (blk_below (g := gb37001) (o := .cells #[.int .i64 0, .string (⟨#[]⟩ : ByteArray), .string (⟨#[]⟩ : ByteArray), .string (⟨#[]⟩ : ByteArray), .string (⟨#[]⟩ : ByteArray)] 23 (0, 0)) (by (with_reducible repeat (first | refine blk_drewN ?_ _ | refine blk_drew ?_ | refine blk_alloc ?_ _)); exact BK37001.out) hb)
             have n2_ := Aside0.mk (blk_below (g := gb37015) (o := .cells #[.int .i64 t37007, .string t37009, .string t37011, .string t37013, .string (rdOf ByteArray.empty t37002 5)] 23 (0, 0)) (by (with_reducible repeat (first | refine blk_drewN ?_ _ | refine blk_drew ?_ | refine blk_alloc ?_ _)); exact BK37015.out) hb)
             have n3_ := Aside0.mk (below_step (by repeat (first | (with_reducible first | exact HB.out | apply below_alloc | apply pw_below_drewN | apply below_drew1 | refine below_set ?_ GE37001.out | refine below_set ?_ GE37015.out) | exact HB.out)) hb)
             clear HO_4
             clear BK37001
             clear BK37015
             clear HB
             have HO_4 := n0_
             have BK37001 := n1_
             have BK37015 := n2_
             have HB := n3_
             clear n0_ n1_ n2_ n3_
             (try clear hb)
             (try clear hb2)
             (try clear hk)
             (try clear hi)
             refine hK.out _ _ ⟨(blk_cell BK37015.out 0).trans rfl, (blk_cell BK37015.out 1).trans rfl, (blk_cell BK37015.out 2).trans rfl, (blk_cell BK37015.out 3).trans rfl, (blk_cell BK37015.out 4).trans rfl⟩ (fun hHeld => ?_)
             clear hK K
             refine norm_ (a' := ?_) ?_ ?_
             rotate_left
             ·show Act.put _ (some 66) _ = _
              simp only [Act.put, List.setIfInBounds_toArray, List.set_cons_zero, List.set_cons_succ, i64_w, i32_w]
              rfl
             refine pure_ (i := 3) (N := some 67) (v := ?_) (a' := ?_) #[true, true, true, true, false, false] rfl rfl (by kernel_rfl) (fun _ _ _ h => h) (Or.inl ⟨by rfl, ?_⟩) ?_ ?_
             rotate_left
             ·intro w'
              go_simp
              with_reducible rfl
             rotate_left
             ·simp only [Act.put, List.setIfInBounds_toArray, List.set_cons_zero, List.set_cons_succ, i64_w, i32_w]
              rfl
             refine one_ (i := 4) (N := none) #[true, true, true, true, true, false] rfl rfl (by kernel_rfl) (by decide) (fun K hK => ?_)
             have hs78 : w77.cell? ⟨gb37001, 0, none⟩ = some (.int .i64 0) := (blk_cell BK37001.out 0).trans rfl
             have hfs78 := blk_frozen BK37001.out 0
             have hns78_1 := NB37015_37001.out
             have hms78_1 := NB37001_37015.out
             have hs79 : w77.cell? ⟨gb37001, 1, none⟩ = some (.string (⟨#[]⟩ : ByteArray)) := (blk_cell BK37001.out 1).trans rfl
             have hfs79 := blk_frozen BK37001.out 1
             have hns79_1 := NB37015_37001.out
             have hms79_1 := NB37001_37015.out
             have hs80 : w77.cell? ⟨gb37001, 2, none⟩ = some (.string (⟨#[]⟩ : ByteArray)) := (blk_cell BK37001.out 2).trans rfl
             have hfs80 := blk_frozen BK37001.out 2
             have hns80_1 := NB37015_37001.out
             have hms80_1 := NB37001_37015.out
             have hs81 : w77.cell? ⟨gb37001, 3, none⟩ = some (.string (⟨#[]⟩ : ByteArray)) := (blk_cell BK37001.out 3).trans rfl
             have hfs81 := blk_frozen BK37001.out 3
             have hns81_1 := NB37015_37001.out
             have hms81_1 := NB37001_37015.out
             have hs82 : w77.cell? ⟨gb37001, 4, none⟩ = some (.string (⟨#[]⟩ : ByteArray)) := (blk_cell BK37001.out 4).trans rfl
             have hfs82 := blk_frozen BK37001.out 4
             have hns82_1 := NB37015_37001.out
             have hms82_1 := NB37001_37015.out
             refine skip_ (w1 := ?_) (by rfl) rfl ?_ ?_
             rotate_left
             ·go_simp
              rfl
             refine hK.out _ _ ⟨((cell_far (p := ⟨gb37001, _, none⟩) NB37015_37001.out _).trans (((cell_far (p := ⟨gb37001, _, none⟩) NB37015_37001.out _).trans (((cell_far (p := ⟨gb37001, _, none⟩) NB37015_37001.out _).trans (((cell_far (p := ⟨gb37001, _, none⟩) NB37015_37001.out _).trans (((cell_far (p := ⟨gb37001, _, none⟩) NB37015_37001.out _).trans (hHeld.1)))))))))), ((cell_far (p := ⟨gb37001, _, none⟩) NB37015_37001.out _).trans (((cell_far (p := ⟨gb37001, _, none⟩) NB37015_37001.out _).trans (((cell_far (p := ⟨gb37001, _, none⟩) NB37015_37001.out _).trans (((cell_far (p := ⟨gb37001, _, none⟩) NB37015_37001.out _).trans (((cell_far (p := ⟨gb37001, _, none⟩) NB37015_37001.out _).trans (hHeld.2.1)))))))))), ((cell_far (p := ⟨gb37001, _, none⟩) NB37015_37001.out _).trans (((cell_far (p := ⟨gb37001, _, none⟩) NB37015_37001.out _).trans (((cell_far (p := ⟨gb37001, _, none⟩) NB37015_37001.out _).trans (((cell_far (p := ⟨gb37001, _, none⟩) NB37015_37001.out _).trans (((cell_far (p := ⟨gb37001, _, none⟩) NB37015_37001.out _).trans (hHeld.2.2.1)))))))))), ((cell_far (p := ⟨gb37001, _, none⟩) NB37015_37001.out _).trans (((cell_far (p := ⟨gb37001, _, none⟩) NB37015_37001.out _).trans (((cell_far (p := ⟨gb37001, _, none⟩) NB37015_37001.out _).trans (((cell_far (p := ⟨gb37001, _, none⟩) NB37015_37001.out _).trans (((cell_far (p := ⟨gb37001, _, none⟩) NB37015_37001.out _).trans (hHeld.2.2.2.1)))))))))), ((cell_far (p := ⟨gb37001, _, none⟩) NB37015_37001.out _).trans (((cell_far (p := ⟨gb37001, _, none⟩) NB37015_37001.out _).trans (((cell_far (p := ⟨gb37001, _, none⟩) NB37015_37001.out _).trans (((cell_far (p := ⟨gb37001, _, none⟩) NB37015_37001.out _).trans (((cell_far (p := ⟨gb37001, _, none⟩) NB37015_37001.out _).trans (hHeld.2.2.2.2))))))))))⟩ (fun hHeld => ?_)
             clear hK K
             refine pure_ (i := 5) (N := some 3) (v := ?_) (a' := ?_) #[true, true, true, true, true, true] rfl rfl (by kernel_rfl) (fun _ _ _ h => h) (Or.inl ⟨by rfl, ?_⟩) ?_ ?_
             rotate_left
             ·intro w'
              go_simp
              with_reducible rfl
             rotate_left
             ·simp only [Act.put, List.setIfInBounds_toArray, List.set_cons_zero, List.set_cons_succ, i64_w, i32_w]
              rfl
             refine done_ (by kernel_rfl) ?_
             try go_wp2
             refine bodyPost_ret (results_ct rfl _ _ gb37001 23 #[.int .i64 t37007, .string t37009, .string t37011, .string t37013, .string (rdOf ByteArray.empty t37002 5)] (0, 0) _ rfl (by (with_reducible repeat (first | refine blk_drewN ?_ _ | refine blk_drew ?_ | refine blk_alloc ?_ _)); refine blk_put (cs := #[.int .i64 t37007, .string t37009, .string t37011, .string t37013, .string (⟨#[]⟩ : ByteArray)]) ?_ 4 _ rfl; (with_reducible repeat (first | refine blk_drewN ?_ _ | refine blk_drew ?_ | refine blk_alloc ?_ _)); refine blk_put (cs := #[.int .i64 t37007, .string t37009, .string t37011, .string (⟨#[]⟩ : ByteArray), .string (⟨#[]⟩ : ByteArray)]) ?_ 3 _ rfl; (with_reducible repeat (first | refine blk_drewN ?_ _ | refine blk_drew ?_ | refine blk_alloc ?_ _)); refine blk_put (cs := #[.int .i64 t37007, .string t37009, .string (⟨#[]⟩ : ByteArray), .string (⟨#[]⟩ : ByteArray), .string (⟨#[]⟩ : ByteArray)]) ?_ 2 _ rfl; (with_reducible repeat (first | refine blk_drewN ?_ _ | refine blk_drew ?_ | refine blk_alloc ?_ _)); refine blk_put (cs := #[.int .i64 t37007, .string (⟨#[]⟩ : ByteArray), .string (⟨#[]⟩ : ByteArray), .string (⟨#[]⟩ : ByteArray), .string (⟨#[]⟩ : ByteArray)]) ?_ 1 _ rfl; (with_reducible repeat (first | refine blk_drewN ?_ _ | refine blk_drew ?_ | refine blk_alloc ?_ _)); refine blk_put (cs := #[.int .i64 0, .string (⟨#[]⟩ : ByteArray), .string (⟨#[]⟩ : ByteArray), .string (⟨#[]⟩ : ByteArray), .string (⟨#[]⟩ : ByteArray)]) ?_ 0 _ rfl; (with_reducible repeat (first | refine blk_drewN ?_ _ | refine blk_drew ?_ | refine blk_alloc ?_ _)); exact BK37001.out) Tryd.underlying23 rfl (by kernel_rfl)) rfl ?_
             exact ⟨by first | rfl | (simp [errW_none, errW_some] <;> rfl) | (simp [*, errW_none, errW_some] <;> rfl), by repeat (first | (with_reducible first | exact HB.out | apply below_alloc | apply pw_below_drewN | apply below_drew1 | refine below_set ?_ GE37001.out | refine below_set ?_ GE37015.out) | exact HB.out)⟩
         ·rw [if_neg c24] at H
          exact absurd H (by simp)
        ·rw [if_neg c22] at H
         exact absurd H (by simp)
       ·rw [if_neg c20] at H
        exact absurd H (by simp)
      ·rw [if_neg c18] at H
       exact absurd H (by simp)
    ·rw [if_neg c12] at H
     exact absurd H (by simp)

end Go.Proofs.YtnoangbidnigdaaDoor.H

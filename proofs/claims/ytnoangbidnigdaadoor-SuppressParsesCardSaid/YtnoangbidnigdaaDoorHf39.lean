/- Printed by a program of this session (xprint.py, over the kit's printer): Go functions as Lean functions, each with the proof that the call does what the Lean function says. -/
import Derived.Test.YtnoangbidnigdaaDoorH0
import Derived.Test.YtnoangbidnigdaaDoorHf9
import Derived.Test.YtnoangbidnigdaaDoorHf33
import Derived.Test.YtnoangbidnigdaaDoorHf64
import Derived.Test.YtnoangbidnigdaaDoorHf65
namespace Go.Proofs.YtnoangbidnigdaaDoor.H
open Go.RowKit Go.Proofs.YtnoangbidnigdaaDoorW.PrintWords Go.Proofs.YtnoangbidnigdaaDoorW.PrintLast Go.Proofs.YtnoangbidnigdaaDoorW.PrintMore
attribute [local go_sem] max2_int min2_int max_two min_two max_three min_three max_four min_four   -- for this text's walks alone
attribute [local go_sem] xs_gtr xs_leq xs_geq
set_option linter.unusedVariables false
set_option linter.unusedSimpArgs false

/-! ### dataflowref46_line: function 39 -/
mutual
def dataflowref46_line.l0 : Nat → ByteArray → List ByteArray → Int → Option (Int × ByteArray × ByteArray × ByteArray × ByteArray × Int)
 | 0, _, _, _ => none
 | k + 1, x0, x4, x5 => if x5 < 5 then ((dataflowref46_word.f k x0).bind fun bt40002 => (if bt40002.2.2 = true then (if x4.length < 8796093022208 then (dataflowref46_line.l0 k bt40002.2.1 (x4 ++ [bt40002.1]) (wrap64 (x5 + 1))) else (none)) else (some (0, (⟨#[]⟩ : ByteArray), (⟨#[]⟩ : ByteArray), (⟨#[]⟩ : ByteArray), (⟨#[]⟩ : ByteArray), 2)))) else (if 2 < (x4.length : Int) then ((dataflowref46_none.f (rdOf ByteArray.empty x4 2)).bind fun t40009 => (if 3 < (x4.length : Int) then ((dataflowref46_none.f (rdOf ByteArray.empty x4 3)).bind fun t40011 => (if 4 < (x4.length : Int) then ((dataflowref46_none.f (rdOf ByteArray.empty x4 4)).bind fun t40013 => (dataflowref46_line.l1 k x4 0 (-1) t40009 t40011 t40013 x0)) else (none))) else (none))) else (none))
def dataflowref46_line.l1 : Nat → List ByteArray → Int → Int → ByteArray → ByteArray → ByteArray → ByteArray → Option (Int × ByteArray × ByteArray × ByteArray × ByteArray × Int)
 | 0, _, _, _, _, _, _, _ => none
 | k + 1, x4, x10, x40015000, x40015001, x40015002, x40015003, x40015004 => if x10 ≤ 4 then ((dataflowref46_Kind.f x10).bind fun t40015 => (if 1 < (x4.length : Int) then (if t40015.toList = (rdOf ByteArray.empty x4 1).toList then (dataflowref46_line.l1 k x4 (wrap64 (x10 + 1)) x10 x40015001 x40015002 x40015003 x40015004) else (dataflowref46_line.l1 k x4 (wrap64 (x10 + 1)) x40015000 x40015001 x40015002 x40015003 x40015004)) else (none))) else (if 0 < (x4.length : Int) then (if (rdOf ByteArray.empty x4 0).toList = ([115, 117, 112, 112, 114, 101, 115, 115] : List UInt8) then (dataflowref46_line.j2 k x4 (decide (x40015000 < 0)) x40015000 x40015001 x40015002 x40015003 x40015004) else (dataflowref46_line.j2 k x4 true x40015000 x40015001 x40015002 x40015003 x40015004)) else (none))
def dataflowref46_line.j2 : Nat → List ByteArray → Bool → Int → ByteArray → ByteArray → ByteArray → ByteArray → Option (Int × ByteArray × ByteArray × ByteArray × ByteArray × Int)
 | 0, _, _, _, _, _, _, _ => none
 | k + 1, x4, x63, x40015000, x40015001, x40015002, x40015003, x40015004 => if x63 = true then (some (0, (⟨#[]⟩ : ByteArray), (⟨#[]⟩ : ByteArray), (⟨#[]⟩ : ByteArray), (⟨#[]⟩ : ByteArray), 2)) else (if 2 < (x4.length : Int) then (if (rdOf ByteArray.empty x4 2).toList = ([] : List UInt8) then (some (0, (⟨#[]⟩ : ByteArray), (⟨#[]⟩ : ByteArray), (⟨#[]⟩ : ByteArray), (⟨#[]⟩ : ByteArray), 2)) else (if 3 < (x4.length : Int) then (if (rdOf ByteArray.empty x4 3).toList = ([] : List UInt8) then (some (0, (⟨#[]⟩ : ByteArray), (⟨#[]⟩ : ByteArray), (⟨#[]⟩ : ByteArray), (⟨#[]⟩ : ByteArray), 2)) else (if 4 < (x4.length : Int) then (if (rdOf ByteArray.empty x4 4).toList = ([] : List UInt8) then (some (0, (⟨#[]⟩ : ByteArray), (⟨#[]⟩ : ByteArray), (⟨#[]⟩ : ByteArray), (⟨#[]⟩ : ByteArray), 2)) else ((dataflowref46_Check.f k x40015000 x40015001 x40015002 x40015003 x40015004).bind fun t40021 => (some (x40015000, x40015001, x40015002, x40015003, x40015004, t40021)))) else (none))) else (none))) else (none))
end
def dataflowref46_line.f (k : Nat) (a0 : ByteArray) : Option (Int × ByteArray × ByteArray × ByteArray × ByteArray × Int) := dataflowref46_line.l0 k a0 ([] : List ByteArray) 0
theorem dataflowref46_line.mono_l : ∀ k, (∀ y0 y1 y2, LeO (dataflowref46_line.l0 k y0 y1 y2) (dataflowref46_line.l0 (k + 1) y0 y1 y2)) ∧ (∀ y0 y1 y2 y3 y4 y5 y6, LeO (dataflowref46_line.l1 k y0 y1 y2 y3 y4 y5 y6) (dataflowref46_line.l1 (k + 1) y0 y1 y2 y3 y4 y5 y6)) ∧ (∀ y0 y1 y2 y3 y4 y5 y6, LeO (dataflowref46_line.j2 k y0 y1 y2 y3 y4 y5 y6) (dataflowref46_line.j2 (k + 1) y0 y1 y2 y3 y4 y5 y6))
 | 0 => ⟨fun _ _ _ r h => by simp [dataflowref46_line.l0] at h, fun _ _ _ _ _ _ _ r h => by simp [dataflowref46_line.l1] at h, fun _ _ _ _ _ _ _ r h => by simp [dataflowref46_line.j2] at h⟩
 | k + 1 => by
  obtain ⟨ih0, ih1, ih2⟩ := dataflowref46_line.mono_l k
  refine ⟨?_, ?_, ?_⟩
  ·intro y0 y1 y2
   unfold dataflowref46_line.l0
   repeat' first
   | (with_reducible exact ih0 _ _ _)
   | (with_reducible exact ih1 _ _ _ _ _ _ _)
   | (with_reducible exact ih2 _ _ _ _ _ _ _)
   | (with_reducible exact dataflowref46_Check.mono _ _ _ _ _ _)
   | (with_reducible exact dataflowref46_word.mono _ _)
   | (with_reducible exact LeO.refl _)
   | (with_reducible exact LeO.none _)
   | (with_reducible refine LeO.ite ?_ ?_)
   | (with_reducible refine LeO.bind ?_ (fun _ => ?_))
   | exact ih0 _ _ _
   | exact ih1 _ _ _ _ _ _ _
   | exact ih2 _ _ _ _ _ _ _
   | exact dataflowref46_Check.mono _ _ _ _ _ _
   | exact dataflowref46_word.mono _ _
   | exact LeO.none _
   | refine LeO.ite ?_ ?_
   | refine LeO.bind ?_ (fun _ => ?_)
  ·intro y0 y1 y2 y3 y4 y5 y6
   unfold dataflowref46_line.l1
   repeat' first
   | (with_reducible exact ih0 _ _ _)
   | (with_reducible exact ih1 _ _ _ _ _ _ _)
   | (with_reducible exact ih2 _ _ _ _ _ _ _)
   | (with_reducible exact dataflowref46_Check.mono _ _ _ _ _ _)
   | (with_reducible exact dataflowref46_word.mono _ _)
   | (with_reducible exact LeO.refl _)
   | (with_reducible exact LeO.none _)
   | (with_reducible refine LeO.ite ?_ ?_)
   | (with_reducible refine LeO.bind ?_ (fun _ => ?_))
   | exact ih0 _ _ _
   | exact ih1 _ _ _ _ _ _ _
   | exact ih2 _ _ _ _ _ _ _
   | exact dataflowref46_Check.mono _ _ _ _ _ _
   | exact dataflowref46_word.mono _ _
   | exact LeO.none _
   | refine LeO.ite ?_ ?_
   | refine LeO.bind ?_ (fun _ => ?_)
  ·intro y0 y1 y2 y3 y4 y5 y6
   unfold dataflowref46_line.j2
   repeat' first
   | (with_reducible exact ih0 _ _ _)
   | (with_reducible exact ih1 _ _ _ _ _ _ _)
   | (with_reducible exact ih2 _ _ _ _ _ _ _)
   | (with_reducible exact dataflowref46_Check.mono _ _ _ _ _ _)
   | (with_reducible exact dataflowref46_word.mono _ _)
   | (with_reducible exact LeO.refl _)
   | (with_reducible exact LeO.none _)
   | (with_reducible refine LeO.ite ?_ ?_)
   | (with_reducible refine LeO.bind ?_ (fun _ => ?_))
   | exact ih0 _ _ _
   | exact ih1 _ _ _ _ _ _ _
   | exact ih2 _ _ _ _ _ _ _
   | exact dataflowref46_Check.mono _ _ _ _ _ _
   | exact dataflowref46_word.mono _ _
   | exact LeO.none _
   | refine LeO.ite ?_ ?_
   | refine LeO.bind ?_ (fun _ => ?_)
theorem dataflowref46_line.mono : ∀ a0 k, LeO (dataflowref46_line.f k a0) (dataflowref46_line.f (k + 1) a0) := by
 intro a0 k
 obtain ⟨ih0, ih1, ih2⟩ := dataflowref46_line.mono_l k
 unfold dataflowref46_line.f
 repeat' first
   | (with_reducible exact ih0 _ _ _)
   | (with_reducible exact ih1 _ _ _ _ _ _ _)
   | (with_reducible exact ih2 _ _ _ _ _ _ _)
   | (with_reducible exact dataflowref46_Check.mono _ _ _ _ _ _)
   | (with_reducible exact dataflowref46_word.mono _ _)
   | (with_reducible exact LeO.refl _)
   | (with_reducible exact LeO.none _)
   | (with_reducible refine LeO.ite ?_ ?_)
   | (with_reducible refine LeO.bind ?_ (fun _ => ?_))
   | exact ih0 _ _ _
   | exact ih1 _ _ _ _ _ _ _
   | exact ih2 _ _ _ _ _ _ _
   | exact dataflowref46_Check.mono _ _ _ _ _ _
   | exact dataflowref46_word.mono _ _
   | exact LeO.none _
   | refine LeO.ite ?_ ?_
   | refine LeO.bind ?_ (fun _ => ?_)
def dataflowref46_line.T10 : Bool × List (List Nat × List Nat) := (true, [([], []), ([0], [0]), ([1], [1]), ([2], [2]), ([], []), ([4], [4]), ([5], [5]), ([6, 3], [6]), ([], []), ([8], [8]), ([9], [9]), ([10, 7], [10]), ([], []), ([3, 7, 11, 12], [3, 7, 11, 12]), ([], []), ([14, 13, 11, 0, 1, 2, 3, 4, 5, 6, 7, 8, 9, 10, 11, 12, 13, 14], [13, 14])])
def dataflowref46_line.B10 : List Nat := [0, 1, 3, 7, 0, 16, 48, 127, 0, 256, 768, 2047, 0, 8191, 0, 32767]
theorem dataflowref46_line.tab10 : rtab .any (opsOf Tryd.f39 10) = dataflowref46_line.T10 := by kernel_rfl
theorem dataflowref46_line.bits10 : waitsOk dataflowref46_line.T10.2 dataflowref46_line.B10 = true := by kernel_rfl
set_option maxHeartbeats 8000000 in
set_option maxRecDepth 100000 in
theorem dataflowref46_line.calls (k : Nat) (a0 : ByteArray) (r1 : Int) (r2 : ByteArray) (r3 : ByteArray) (r4 : ByteArray) (r5 : ByteArray) (r6 : Int) (w : World) (h : dataflowref46_line.f k a0 = some (r1, r2, r3, r4, r5, r6)) :
  Calls Tryd.prog 39 #[.string a0] w fun e w' => e = .returned (.tuple #[.agg #[.int .i64 r1, .string r2, .string r3, .string r4, .string r5], .int .i64 r6]) ∧ Below w.heap.size w w' := by
 have hu23 := Tryd.underlying23
 have HB := Aside0.mk (Below.refl w.heap.size w)
 have H : (dataflowref46_line.l0 k a0 ([] : List ByteArray) 0) = some (r1, r2, r3, r4, r5, r6) := h
 clear h
 have H' := Aside0.mk H
 clear H
 go_enter Tryd.func39, Tryd.ntmps39
 go_wp2_with (first | ((with_reducible refine gate_dst (N := 2) rfl ?_); refine box_event ?hg (N := 2) ?hd (cs := #[.int .i64 0, .string (⟨#[]⟩ : ByteArray), .string (⟨#[]⟩ : ByteArray), .string (⟨#[]⟩ : ByteArray), .string (⟨#[]⟩ : ByteArray)]) (t := 23) ?hr ?_; (case hd => rfl); (case hg => rfl); (case hr => first | (go_simp; done) | (go_simp; rfl)); intro gb40001 hg w2 hbox hb; have n0_ := Aside0.mk (below_step (by repeat (first | (with_reducible first | exact HB.out | apply below_alloc | apply pw_below_drewN | apply below_drew1) | exact HB.out)) hb); have n1_ := Aside0.mk (hbox); have n2_ := Aside0.mk ((by rw [hg]; exact (below_size (by repeat (first | (with_reducible first | exact HB.out | apply below_alloc | apply pw_below_drewN | apply below_drew1) | exact HB.out))) : w.heap.size ≤ gb40001)); have n3_ := Aside0.mk ((by rw [hg]; exact (below_size (by repeat (first | (with_reducible first | exact HB.out | apply below_alloc | apply pw_below_drewN | apply below_drew1) | exact HB.out))) : w.heap.size ≤ gb40001)); clear HB; have HB := n0_; have BK40001 := n1_; have GW40001 := n2_; have GE40001 := n3_; clear n0_ n1_ n2_ n3_; clear hb hbox hg))
 go_loopg [0, 4, 5] k (fun kq v0 v4 v5 w' => ∃ (x0_1 : ByteArray) (x4_1 : List ByteArray) (x5_1 : Int) (x40002000_1 : Int) (x40002001_1 : ByteArray) (x40002002_1 : ByteArray) (x40002003_1 : ByteArray) (x40002004_1 : ByteArray), v0 = .string x0_1 ∧ v5 = .int .i64 x5_1 ∧ Aside0 (dataflowref46_line.l0 kq x0_1 x4_1 x5_1 = some (r1, r2, r3, r4, r5, r6)) ∧ Aside0 (kq ≤ k) ∧ Aside0 (Kd.R Kd.string 9 w' w.heap.size (fun _ => True) v4 x4_1) ∧ Aside0 (w'.heap[gb40001]? = some (.cells #[.int .i64 x40002000_1, .string x40002001_1, .string x40002002_1, .string x40002003_1, .string x40002004_1] 23 (0, 0))) ∧ Aside0 (Below w.heap.size w w'))
 case atStart => exact ⟨(a0), (([] : List ByteArray)), (0), (0), ((⟨#[]⟩ : ByteArray)), ((⟨#[]⟩ : ByteArray)), ((⟨#[]⟩ : ByteArray)), ((⟨#[]⟩ : ByteArray)), (by first | rfl | (simp; done) | (simp [*]; done)), (by first | rfl | (simp; done) | (simp [*]; done)), H', ⟨Nat.le_refl _⟩, ⟨by first | exact Kd.R_nil _ _ _ _ _ | exact Kd.N_nil _ _ _ _ _ | exact Kd.V_nil _ _ _ _ _ | exact Kd.Q_nil _ _ _ _ _ | exact Kd.S_nil _ _ _ _ _⟩, ⟨by (with_reducible repeat (first | refine blk_drewN ?_ _ | refine blk_drew ?_ | refine blk_alloc ?_ _)); exact BK40001.out⟩, ⟨by repeat (first | (with_reducible first | exact HB.out | apply below_alloc | apply pw_below_drewN | apply below_drew1 | refine below_set ?_ GE40001.out) | exact HB.out)⟩⟩
 case round =>
  clear H'
  try clear p2
  obtain ⟨x0_1, x4_1, x5_1, x40002000_1, x40002001_1, x40002002_1, x40002003_1, x40002004_1, rfl, rfl, HA, HK1, HO_4, BK40001, HB⟩ := hrel
  cases gk with
  | zero => exact absurd HA.out (by simp [dataflowref46_line.l0])
  | succ k1 =>
   have H := HA.out
   clear HA
   simp only [dataflowref46_line.l0] at H
   by_cases c3 : x5_1 < 5
   ·rw [if_pos c3] at H
    have c3b0 : decide (x5_1 < 5) = true := decide_eq_true c3
    clear c3
    replace H := Option.bind_eq_some_iff.mp H
    obtain ⟨⟨t40002, t40003, t40004⟩, A40, H⟩ := H
    replace H : (if t40004 = true then (if x4_1.length < 8796093022208 then (dataflowref46_line.l0 k1 t40003 (x4_1 ++ [t40002]) (wrap64 (x5_1 + 1))) else (none)) else (some (0, (⟨#[]⟩ : ByteArray), (⟨#[]⟩ : ByteArray), (⟨#[]⟩ : ByteArray), (⟨#[]⟩ : ByteArray), 2))) = some (r1, r2, r3, r4, r5, r6) := H
    have A4 := Aside0.mk A40
    clear A40
    by_cases c5 : t40004 = true
    ·subst c5
     have H1 : (if x4_1.length < 8796093022208 then (dataflowref46_line.l0 k1 t40003 (x4_1 ++ [t40002]) (wrap64 (x5_1 + 1))) else (none)) = some (r1, r2, r3, r4, r5, r6) := by rw [if_pos rfl] at H; exact H
     clear H
     have H := H1
     clear H1
     by_cases c6 : x4_1.length < 8796093022208
     ·rw [if_pos c6] at H
      have LMc6 := Aside0.mk c6
      clear c6
      obtain ⟨y40005, hy40005⟩ : ∃ y_ : List ByteArray, y_ = (x4_1 ++ [t40002]) := ⟨_, rfl⟩
      replace H : (dataflowref46_line.l0 k1 t40003 y40005 (wrap64 (x5_1 + 1))) = some (r1, r2, r3, r4, r5, r6) := by first | (rw [hy40005]; with_reducible exact H) | (have H2_ := (Option.bind_some _ _).symm.trans H; rw [hy40005]; with_reducible exact H2_) | (have H2_ := (Option.bind_some _ _).symm.trans H; with_reducible exact H2_) | with_reducible exact H | (rw [hy40005]; exact H) | exact H
      have Ny40005 := Aside0.mk hy40005
      clear hy40005
      have H' := Aside0.mk H
      clear H
      go_wp2_with (first | ((with_reducible refine gate_callee (f := 64) rfl ?_); refine goesL_ (some 17) rfl rfl Tryd.func64 (by kernel_rfl) rfl #[.string x0_1] rfl (by (try simp only [List.map_toArray, List.map_cons, List.map_nil]); first | done | rfl | (simp only [List.length_drop, List.length_take]; rfl)) ?_; (with_reducible refine (dataflowref46_word.calls k1 x0_1 t40002 t40003 true _ A4.out).mono ?_); rintro e w' ⟨rfl, ⟨nd, rfl⟩⟩; refine ⟨_, rfl, ?_⟩) | ((with_reducible refine gate_builtin (b := .append) (xs := #[.tmp 24, .tmp 26]) rfl ?_); at_builtin; refine Kd.R_append Kd.string (w0 := w) w.heap.size rfl (.tmp 24) (.tmp 26) 89 9 (.string ⟨#[]⟩) 16 rfl Tryd.underlying89 info9 rfl (by decide) (by omega) u4 x4_1 t40002 [.string t40002] (fun _ => True) (fun _ => False) rfl rfl ?aP (fun _ hk => hk.elim) ?aF ?aO ?aB ?aS ?aL ?_; (case aP => exact rfl); (case aB => exact (by repeat (first | (with_reducible first | exact HB.out | apply below_alloc | apply pw_below_drewN | apply below_drew1 | refine below_set ?_ GE40001.out) | exact HB.out))); (case aF => exact (fun _ _ => trivial)); (case aO => exact (by (with_reducible repeat (first | apply Kd.R_alloc | apply Kd.R_drewN | apply Kd.R_drew)); exact HO_4.out)); (case aS => exact (below_size (by repeat (first | (with_reducible first | exact HB.out | apply below_alloc | apply pw_below_drewN | apply below_drew1 | refine below_set ?_ GE40001.out) | exact HB.out)))); (case aL => have := LMc6.out; omega); intro v40006 w7 ho hb hg hat; rw [← Ny40005.out] at ho; have n0_ := Aside0.mk (blk_grown (g := gb40001) (o := .cells #[.int .i64 x40002000_1, .string x40002001_1, .string x40002002_1, .string x40002003_1, .string x40002004_1] 23 (0, 0)) (by (with_reducible repeat (first | refine blk_drewN ?_ _ | refine blk_drew ?_ | refine blk_alloc ?_ _)); exact BK40001.out) hg (Kd.R_ne HO_4.out BK40001.out (by decide))); have n1_ := Aside0.mk (hb); have n2_ := Aside0.mk (ho); clear BK40001; clear HB; clear HO_4; have BK40001 := n0_; have HB := n1_; have HO40007 := n2_; clear n0_ n1_ n2_; clear ho hb hg hat))
      go_roundg k1
      case measure => have := HK1.out; omega
      case rel => exact ⟨(t40003), (y40005), (wrap64 (x5_1 + 1)), (x40002000_1), (x40002001_1), (x40002002_1), (x40002003_1), (x40002004_1), (by first | rfl | (simp; done) | (simp [*]; done)), (by first | rfl | (simp; done) | (simp [*]; done)), H', ⟨by have := HK1.out; omega⟩, ⟨by (with_reducible repeat (first | apply Kd.R_alloc | apply Kd.R_drewN | apply Kd.R_drew)); exact HO40007.out⟩, ⟨by (with_reducible repeat (first | refine blk_drewN ?_ _ | refine blk_drew ?_ | refine blk_alloc ?_ _)); exact BK40001.out⟩, ⟨by repeat (first | (with_reducible first | exact HB.out | apply below_alloc | apply pw_below_drewN | apply below_drew1 | refine below_set ?_ GE40001.out) | exact HB.out)⟩⟩
     ·rw [if_neg c6] at H
      exact absurd H (by simp)
    ·replace c5 := Bool.eq_false_iff.mpr c5
     subst c5
     have H1 : (some (0, (⟨#[]⟩ : ByteArray), (⟨#[]⟩ : ByteArray), (⟨#[]⟩ : ByteArray), (⟨#[]⟩ : ByteArray), 2)) = some (r1, r2, r3, r4, r5, r6) := by rw [if_neg (show ¬ (false = true) by decide)] at H; exact H
     clear H
     have H := H1
     clear H1
     simp only [Option.some.injEq, Prod.mk.injEq] at H
     obtain ⟨rfl, rfl, rfl, rfl, rfl, rfl⟩ := H
     go_wp2_with (first | ((with_reducible refine gate_callee (f := 64) rfl ?_); refine goesL_ (some 17) rfl rfl Tryd.func64 (by kernel_rfl) rfl #[.string x0_1] rfl (by (try simp only [List.map_toArray, List.map_cons, List.map_nil]); first | done | rfl | (simp only [List.length_drop, List.length_take]; rfl)) ?_; (with_reducible refine (dataflowref46_word.calls k1 x0_1 t40002 t40003 false _ A4.out).mono ?_); rintro e w' ⟨rfl, ⟨nd, rfl⟩⟩; refine ⟨_, rfl, ?_⟩; (try (rw [drewN_self wr]; generalize hq_ : World.drewN wr _ = wr; have n0_ : Aside0 (Kd.R Kd.string 9 wr w.heap.size (fun _ => True) u4 x4_1) := ⟨by rw [← hq_]; exact (by (with_reducible repeat (first | apply Kd.R_alloc | apply Kd.R_drewN | apply Kd.R_drew)); exact HO_4.out)⟩; have n1_ : Aside0 (wr.heap[gb40001]? = some (.cells #[.int .i64 x40002000_1, .string x40002001_1, .string x40002002_1, .string x40002003_1, .string x40002004_1] 23 (0, 0))) := ⟨by rw [← hq_]; exact (by (with_reducible repeat (first | refine blk_drewN ?_ _ | refine blk_drew ?_ | refine blk_alloc ?_ _)); exact BK40001.out)⟩; have n2_ : Aside0 (Below w.heap.size w wr) := ⟨by rw [← hq_]; exact (by repeat (first | (with_reducible first | exact HB.out | apply below_alloc | apply pw_below_drewN | apply below_drew1 | refine below_set ?_ GE40001.out) | exact HB.out))⟩; clear HO_4 BK40001 HB hq_; have HO_4 := n0_; have BK40001 := n1_; have HB := n2_; clear n0_ n1_ n2_)); have hcz8_0 : wr.cell? ⟨gb40001, 0, none⟩ = some (.int .i64 x40002000_1) := (blk_cell BK40001.out 0).trans rfl; have hcz8_1 : wr.cell? ⟨gb40001, 1, none⟩ = some (.string x40002001_1) := (blk_cell BK40001.out 1).trans rfl; have hcz8_2 : wr.cell? ⟨gb40001, 2, none⟩ = some (.string x40002002_1) := (blk_cell BK40001.out 2).trans rfl; have hcz8_3 : wr.cell? ⟨gb40001, 3, none⟩ = some (.string x40002003_1) := (blk_cell BK40001.out 3).trans rfl; have hcz8_4 : wr.cell? ⟨gb40001, 4, none⟩ = some (.string x40002004_1) := (blk_cell BK40001.out 4).trans rfl; have hfz8_0 := blk_frozen BK40001.out 0; have hfz8_1 := blk_frozen BK40001.out 1; have hfz8_2 := blk_frozen BK40001.out 2; have hfz8_3 := blk_frozen BK40001.out 3; have hfz8_4 := blk_frozen BK40001.out 4))
     refine bodyPost_ret (results_ct rfl _ _ gb40001 23 #[.int .i64 0, .string (⟨#[]⟩ : ByteArray), .string (⟨#[]⟩ : ByteArray), .string (⟨#[]⟩ : ByteArray), .string (⟨#[]⟩ : ByteArray)] (0, 0) _ rfl (by (with_reducible repeat (first | refine blk_drewN ?_ _ | refine blk_drew ?_ | refine blk_alloc ?_ _)); refine blk_put (cs := #[.int .i64 0, .string (⟨#[]⟩ : ByteArray), .string (⟨#[]⟩ : ByteArray), .string (⟨#[]⟩ : ByteArray), .string x40002004_1]) ?_ 4 _ rfl; (with_reducible repeat (first | refine blk_drewN ?_ _ | refine blk_drew ?_ | refine blk_alloc ?_ _)); refine blk_put (cs := #[.int .i64 0, .string (⟨#[]⟩ : ByteArray), .string (⟨#[]⟩ : ByteArray), .string x40002003_1, .string x40002004_1]) ?_ 3 _ rfl; (with_reducible repeat (first | refine blk_drewN ?_ _ | refine blk_drew ?_ | refine blk_alloc ?_ _)); refine blk_put (cs := #[.int .i64 0, .string (⟨#[]⟩ : ByteArray), .string x40002002_1, .string x40002003_1, .string x40002004_1]) ?_ 2 _ rfl; (with_reducible repeat (first | refine blk_drewN ?_ _ | refine blk_drew ?_ | refine blk_alloc ?_ _)); refine blk_put (cs := #[.int .i64 0, .string x40002001_1, .string x40002002_1, .string x40002003_1, .string x40002004_1]) ?_ 1 _ rfl; (with_reducible repeat (first | refine blk_drewN ?_ _ | refine blk_drew ?_ | refine blk_alloc ?_ _)); refine blk_put (cs := #[.int .i64 x40002000_1, .string x40002001_1, .string x40002002_1, .string x40002003_1, .string x40002004_1]) ?_ 0 _ rfl; (with_reducible repeat (first | refine blk_drewN ?_ _ | refine blk_drew ?_ | refine blk_alloc ?_ _)); exact BK40001.out) Tryd.underlying23 rfl (by kernel_rfl)) rfl ?_
     exact ⟨by first | rfl | (simp [errW_none, errW_some] <;> rfl) | (simp [*, errW_none, errW_some] <;> rfl), by repeat (first | (with_reducible first | exact HB.out | apply below_alloc | apply pw_below_drewN | apply below_drew1 | refine below_set ?_ GE40001.out) | exact HB.out)⟩
   ·rw [if_neg c3] at H
    have c3b0 : decide (x5_1 < 5) = false := decide_eq_false c3
    clear c3
    by_cases c9 : 2 < (x4_1.length : Int)
    ·rw [if_pos c9] at H
     have c9b0 : decide (2 < (x4_1.length : Int)) = true := decide_eq_true c9
     have c9b1 : decide (2 < x4_1.length) = true := decide_eq_true (by omega)
     clear c9
     replace H := Option.bind_eq_some_iff.mp H
     obtain ⟨t40009, A100, H⟩ := H
     replace H : (if 3 < (x4_1.length : Int) then ((dataflowref46_none.f (rdOf ByteArray.empty x4_1 3)).bind fun t40011 => (if 4 < (x4_1.length : Int) then ((dataflowref46_none.f (rdOf ByteArray.empty x4_1 4)).bind fun t40013 => (dataflowref46_line.l1 k1 x4_1 0 (-1) t40009 t40011 t40013 x0_1)) else (none))) else (none)) = some (r1, r2, r3, r4, r5, r6) := H
     have A10 := Aside0.mk A100
     clear A100
     by_cases c11 : 3 < (x4_1.length : Int)
     ·rw [if_pos c11] at H
      have c11b0 : decide (3 < (x4_1.length : Int)) = true := decide_eq_true c11
      have c11b1 : decide (3 < x4_1.length) = true := decide_eq_true (by omega)
      clear c11
      replace H := Option.bind_eq_some_iff.mp H
      obtain ⟨t40011, A120, H⟩ := H
      replace H : (if 4 < (x4_1.length : Int) then ((dataflowref46_none.f (rdOf ByteArray.empty x4_1 4)).bind fun t40013 => (dataflowref46_line.l1 k1 x4_1 0 (-1) t40009 t40011 t40013 x0_1)) else (none)) = some (r1, r2, r3, r4, r5, r6) := H
      have A12 := Aside0.mk A120
      clear A120
      by_cases c13 : 4 < (x4_1.length : Int)
      ·rw [if_pos c13] at H
       have c13b0 : decide (4 < (x4_1.length : Int)) = true := decide_eq_true c13
       have c13b1 : decide (4 < x4_1.length) = true := decide_eq_true (by omega)
       clear c13
       replace H := Option.bind_eq_some_iff.mp H
       obtain ⟨t40013, A140, H⟩ := H
       replace H : (dataflowref46_line.l1 k1 x4_1 0 (-1) t40009 t40011 t40013 x0_1) = some (r1, r2, r3, r4, r5, r6) := H
       have A14 := Aside0.mk A140
       clear A140
       have H' := Aside0.mk H
       clear H
       try go_wp2
       have n0_ := Aside0.mk (Kd.R_drew HO_4.out)
       have n1_ := Aside0.mk (blk_drew BK40001.out)
       have n2_ := Aside0.mk (below_drew1 HB.out)
       clear HO_4
       clear BK40001
       clear HB
       have HO_4 := n0_
       have BK40001 := n1_
       have HB := n2_
       clear n0_ n1_ n2_
       obtain ⟨Ao16, co16, eo16⟩ := Kd.R_slice HO_4.out
       (first | subst eo16 | (injection eo16 with f1_ f2_ f3_; have f4_ := f1_.symm; have f5_ := f3_.symm; clear f1_ f2_ f3_; subst f4_; subst f5_))
       have p40008 : 0 ≤ (2 : Int) := (by omega)
       have q40008 : 2 < (x4_1.length : Int) := of_decide_eq_true (by first | (with_reducible assumption) | assumption)
       obtain ⟨ad40008, e40008, hx40008_0⟩ := Kd.at_string (Kd.R_reads' HO_4.out).2.2 2 p40008 q40008
       cases e40008
       (try simp only [show (2 : Int).toNat = 2 from rfl, Nat.reduceMul, Nat.reduceEqDiff, Go.Addr.add, ↓reduceIte] at hx40008_0)
       have qi40008 : (2 < x4_1.length) = True := eq_true (by omega)
       (try rw [show ((2 : Int)).toNat = 2 from rfl] at hx40008_0)
       replace p40008 := eq_true p40008
       replace q40008 := eq_true q40008
       have p40010 : 0 ≤ (3 : Int) := (by omega)
       have q40010 : 3 < (x4_1.length : Int) := of_decide_eq_true (by first | (with_reducible assumption) | assumption)
       obtain ⟨ad40010, e40010, hx40010_0⟩ := Kd.at_string (Kd.R_reads' HO_4.out).2.2 3 p40010 q40010
       obtain rfl : ad40008 = ad40010 := (by injection e40010)
       (try simp only [show (3 : Int).toNat = 3 from rfl, Nat.reduceMul, Nat.reduceEqDiff, Go.Addr.add, ↓reduceIte] at hx40010_0)
       have qi40010 : (3 < x4_1.length) = True := eq_true (by omega)
       (try rw [show ((3 : Int)).toNat = 3 from rfl] at hx40010_0)
       replace p40010 := eq_true p40010
       replace q40010 := eq_true q40010
       have p40012 : 0 ≤ (4 : Int) := (by omega)
       have q40012 : 4 < (x4_1.length : Int) := of_decide_eq_true (by first | (with_reducible assumption) | assumption)
       obtain ⟨ad40012, e40012, hx40012_0⟩ := Kd.at_string (Kd.R_reads' HO_4.out).2.2 4 p40012 q40012
       obtain rfl : ad40008 = ad40012 := (by injection e40012)
       (try simp only [show (4 : Int).toNat = 4 from rfl, Nat.reduceMul, Nat.reduceEqDiff, Go.Addr.add, ↓reduceIte] at hx40012_0)
       have qi40012 : (4 < x4_1.length) = True := eq_true (by omega)
       (try rw [show ((4 : Int)).toNat = 4 from rfl] at hx40012_0)
       replace p40012 := eq_true p40012
       replace q40012 := eq_true q40012
       refine start_ (n := 16) (S := fun w' => w'.cell? ⟨ad40008.block, ad40008.off + 2, none⟩ = some (.string (rdOf ByteArray.empty x4_1 2)) ∧ w'.cell? ⟨ad40008.block, ad40008.off + 3, none⟩ = some (.string (rdOf ByteArray.empty x4_1 3)) ∧ w'.cell? ⟨ad40008.block, ad40008.off + 4, none⟩ = some (.string (rdOf ByteArray.empty x4_1 4))) (ds := []) #[false, false, false, false, false, false, false, false, false, false, false, false, false, false, false, false] (by kernel_rfl) rfl rfl ⟨hx40008_0, hx40010_0, hx40012_0⟩ (fun hHeld => ?_); refine with_tabW dataflowref46_line.tab10 dataflowref46_line.bits10 (fun HT_ HW_ => ?_)
       generalize wr.drew = w15 at HO_4 BK40001 HB hx40008_0 hx40010_0 hx40012_0 hHeld ⊢
       refine pure_ (i := 0) (N := some 29) (v := ?_) (a' := ?_) #[true, false, false, false, false, false, false, false, false, false, false, false, false, false, false, false] rfl rfl (any_of HT_.out (by kernel_rfl)) (fun _ _ _ h => h) (Or.inl ⟨by rfl, ?_⟩) ?_ ?_
       rotate_left
       ·intro w'
        go_simp
        with_reducible rfl
       rotate_left
       ·simp only [Act.put, List.setIfInBounds_toArray, List.set_cons_zero, List.set_cons_succ, i64_w, i32_w]
        rfl
       refine pure_ (i := 1) (N := some 30) (v := ?_) (a' := ?_) #[true, true, false, false, false, false, false, false, false, false, false, false, false, false, false, false] rfl rfl (any_of HT_.out (by kernel_rfl)) (fun _ _ _ h => h) (Or.inl ⟨by rfl, ?_⟩) ?_ ?_
       rotate_left
       ·intro w'
        go_simp
        with_reducible rfl
       rotate_left
       ·simp only [Act.put, List.setIfInBounds_toArray, List.set_cons_zero, List.set_cons_succ, i64_w, i32_w]
        rfl
       refine pure_ (i := 4) (N := some 33) (v := ?_) (a' := ?_) #[true, true, false, false, true, false, false, false, false, false, false, false, false, false, false, false] rfl rfl (any_of HT_.out (by kernel_rfl)) (fun _ _ _ h => h) (Or.inl ⟨by rfl, ?_⟩) ?_ ?_
       rotate_left
       ·intro w'
        go_simp
        with_reducible rfl
       rotate_left
       ·simp only [Act.put, List.setIfInBounds_toArray, List.set_cons_zero, List.set_cons_succ, i64_w, i32_w]
        rfl
       refine pure_ (i := 5) (N := some 34) (v := ?_) (a' := ?_) #[true, true, false, false, true, true, false, false, false, false, false, false, false, false, false, false] rfl rfl (any_of HT_.out (by kernel_rfl)) (fun _ _ _ h => h) (Or.inl ⟨by rfl, ?_⟩) ?_ ?_
       rotate_left
       ·intro w'
        go_simp
        with_reducible rfl
       rotate_left
       ·simp only [Act.put, List.setIfInBounds_toArray, List.set_cons_zero, List.set_cons_succ, i64_w, i32_w]
        rfl
       refine pure_ (i := 8) (N := some 37) (v := ?_) (a' := ?_) #[true, true, false, false, true, true, false, false, true, false, false, false, false, false, false, false] rfl rfl (any_of HT_.out (by kernel_rfl)) (fun _ _ _ h => h) (Or.inl ⟨by rfl, ?_⟩) ?_ ?_
       rotate_left
       ·intro w'
        go_simp
        with_reducible rfl
       rotate_left
       ·simp only [Act.put, List.setIfInBounds_toArray, List.set_cons_zero, List.set_cons_succ, i64_w, i32_w]
        rfl
       refine pure_ (i := 9) (N := some 38) (v := ?_) (a' := ?_) #[true, true, false, false, true, true, false, false, true, true, false, false, false, false, false, false] rfl rfl (any_of HT_.out (by kernel_rfl)) (fun _ _ _ h => h) (Or.inl ⟨by rfl, ?_⟩) ?_ ?_
       rotate_left
       ·intro w'
        go_simp
        with_reducible rfl
       rotate_left
       ·simp only [Act.put, List.setIfInBounds_toArray, List.set_cons_zero, List.set_cons_succ, i64_w, i32_w]
        rfl
       refine pure_ (i := 12) (N := some 41) (v := ?_) (a' := ?_) #[true, true, false, false, true, true, false, false, true, true, false, false, true, false, false, false] rfl rfl (any_of HT_.out (by kernel_rfl)) (fun _ _ _ h => h) (Or.inl ⟨by rfl, ?_⟩) ?_ ?_
       rotate_left
       ·intro w'
        go_simp
        with_reducible rfl
       rotate_left
       ·simp only [Act.put, List.setIfInBounds_toArray, List.set_cons_zero, List.set_cons_succ, i64_w, i32_w]
        rfl
       refine take_ (i := 2) (N := some 31) (v := ?_) (a' := ?_) #[true, true, true, false, true, true, false, false, true, true, false, false, true, false, false, false] rfl rfl (take_ofW HT_.out HW_.out (by kernel_rfl)) (fun _ _ _ h => h) (Or.inl ⟨by rfl, ?_⟩) hHeld ?_ ?_
       rotate_left
       ·rintro w' ⟨s0, s1, s2⟩
        go_simp
        with_reducible rfl
       rotate_left
       ·simp only [Act.put, List.setIfInBounds_toArray, List.set_cons_zero, List.set_cons_succ, i64_w, i32_w]
        rfl
       refine take_ (i := 6) (N := some 35) (v := ?_) (a' := ?_) #[true, true, true, false, true, true, true, false, true, true, false, false, true, false, false, false] rfl rfl (take_ofW HT_.out HW_.out (by kernel_rfl)) (fun _ _ _ h => h) (Or.inl ⟨by rfl, ?_⟩) hHeld ?_ ?_
       rotate_left
       ·rintro w' ⟨s0, s1, s2⟩
        go_simp
        with_reducible rfl
       rotate_left
       ·simp only [Act.put, List.setIfInBounds_toArray, List.set_cons_zero, List.set_cons_succ, i64_w, i32_w]
        rfl
       refine take_ (i := 10) (N := some 39) (v := ?_) (a' := ?_) #[true, true, true, false, true, true, true, false, true, true, true, false, true, false, false, false] rfl rfl (take_ofW HT_.out HW_.out (by kernel_rfl)) (fun _ _ _ h => h) (Or.inl ⟨by rfl, ?_⟩) hHeld ?_ ?_
       rotate_left
       ·rintro w' ⟨s0, s1, s2⟩
        go_simp
        with_reducible rfl
       rotate_left
       ·simp only [Act.put, List.setIfInBounds_toArray, List.set_cons_zero, List.set_cons_succ, i64_w, i32_w]
        rfl
       refine join_ (σ := Nat) 1 #[true, true, true, true, true, true, true, true, true, true, true, true, true, true, true, false] (fun s_ => [(32, .string t40009), (36, .string t40011), (40, .string t40013), (9, .pointer (some ⟨s_, 0, none⟩)), (42, .agg #[.int .i64 (-1), .string t40009, .string t40011, .string t40013, .string x0_1])]) (fun s_ w' => (w'.cell? ⟨ad40008.block, ad40008.off + 2, none⟩ = some (.string (rdOf ByteArray.empty x4_1 2)) ∧ w'.cell? ⟨ad40008.block, ad40008.off + 3, none⟩ = some (.string (rdOf ByteArray.empty x4_1 3)) ∧ w'.cell? ⟨ad40008.block, ad40008.off + 4, none⟩ = some (.string (rdOf ByteArray.empty x4_1 4))) ∧ (Kd.R Kd.string 9 w' w.heap.size (fun _ => True) (.slice (some ad40008) x4_1.length co16) x4_1) ∧ (w'.heap[gb40001]? = some (.cells #[.int .i64 x40002000_1, .string x40002001_1, .string x40002002_1, .string x40002003_1, .string x40002004_1] 23 (0, 0))) ∧ (w'.heap[s_]? = some (.cells #[.int .i64 0, .string (⟨#[]⟩ : ByteArray), .string (⟨#[]⟩ : ByteArray), .string (⟨#[]⟩ : ByteArray), .string (⟨#[]⟩ : ByteArray)] 23 (0, 0))) ∧ (w.heap.size ≤ s_) ∧ (w.heap.size ≤ s_) ∧ (gb40001 ≠ s_) ∧ (s_ ≠ gb40001) ∧ (Below w.heap.size w w')) ?_ ?_
       rotate_left
       ·intro hCont
        refine two_ (i := 3) (j := 14) (Ni := some 32) (Nj := some 9) #[true, true, true, true, true, true, true, false, true, true, true, false, true, false, false, false] #[true, true, true, false, true, true, true, false, true, true, true, false, true, false, true, false] rfl rfl rfl rfl (two_of HT_.out (by kernel_rfl)) (by decide) (by decide) (fun K hK => ?_) (fun K hK => ?_)
        ·skip
         refine goes_ Tryd.func65 (by kernel_rfl) rfl #[.string (rdOf ByteArray.empty x4_1 2)] (by rfl) rfl rfl (by (try simp only [List.map_toArray, List.map_cons, List.map_nil]); first | done | rfl | (simp only [List.length_drop, List.length_take]; rfl)) ?_
         with_reducible refine (dataflowref46_none.calls (rdOf ByteArray.empty x4_1 2) t40009 _ A10.out).mono ?_
         rintro e w' ⟨rfl, ⟨nd, rfl⟩⟩
         refine ⟨_, rfl, ?_⟩
         refine hK.out _ _ ⟨hHeld.1, hHeld.2.1, hHeld.2.2⟩ (fun hHeld => ?_)
         clear hK K
         refine norm_ (a' := ?_) ?_ ?_
         rotate_left
         ·show Act.put _ (some 32) _ = _
          simp only [Act.put, List.setIfInBounds_toArray, List.set_cons_zero, List.set_cons_succ, i64_w, i32_w]
          rfl
         refine two_ (i := 7) (j := 14) (Ni := some 36) (Nj := some 9) #[true, true, true, true, true, true, true, true, true, true, true, false, true, false, false, false] #[true, true, true, true, true, true, true, false, true, true, true, false, true, false, true, false] rfl rfl rfl rfl (two_of HT_.out (by kernel_rfl)) (by decide) (by decide) (fun K hK => ?_) (fun K hK => ?_)
         ·skip
          refine goes_ Tryd.func65 (by kernel_rfl) rfl #[.string (rdOf ByteArray.empty x4_1 3)] (by rfl) rfl rfl (by (try simp only [List.map_toArray, List.map_cons, List.map_nil]); first | done | rfl | (simp only [List.length_drop, List.length_take]; rfl)) ?_
          with_reducible refine (dataflowref46_none.calls (rdOf ByteArray.empty x4_1 3) t40011 _ A12.out).mono ?_
          rintro e w' ⟨rfl, ⟨nd, rfl⟩⟩
          refine ⟨_, rfl, ?_⟩
          refine hK.out _ _ ⟨hHeld.1, hHeld.2.1, hHeld.2.2⟩ (fun hHeld => ?_)
          clear hK K
          refine norm_ (a' := ?_) ?_ ?_
          rotate_left
          ·show Act.put _ (some 36) _ = _
           simp only [Act.put, List.setIfInBounds_toArray, List.set_cons_zero, List.set_cons_succ, i64_w, i32_w]
           rfl
          refine two_ (i := 11) (j := 14) (Ni := some 40) (Nj := some 9) #[true, true, true, true, true, true, true, true, true, true, true, true, true, false, false, false] #[true, true, true, true, true, true, true, true, true, true, true, false, true, false, true, false] rfl rfl rfl rfl (two_of HT_.out (by kernel_rfl)) (by decide) (by decide) (fun K hK => ?_) (fun K hK => ?_)
          ·skip
           refine goes_ Tryd.func65 (by kernel_rfl) rfl #[.string (rdOf ByteArray.empty x4_1 4)] (by rfl) rfl rfl (by (try simp only [List.map_toArray, List.map_cons, List.map_nil]); first | done | rfl | (simp only [List.length_drop, List.length_take]; rfl)) ?_
           with_reducible refine (dataflowref46_none.calls (rdOf ByteArray.empty x4_1 4) t40013 _ A14.out).mono ?_
           rintro e w' ⟨rfl, ⟨nd, rfl⟩⟩
           refine ⟨_, rfl, ?_⟩
           refine hK.out _ _ ⟨hHeld.1, hHeld.2.1, hHeld.2.2⟩ (fun hHeld => ?_)
           clear hK K
           refine norm_ (a' := ?_) ?_ ?_
           rotate_left
           ·show Act.put _ (some 40) _ = _
            simp only [Act.put, List.setIfInBounds_toArray, List.set_cons_zero, List.set_cons_succ, i64_w, i32_w]
            rfl
           refine pure_ (i := 13) (N := some 42) (v := ?_) (a' := ?_) #[true, true, true, true, true, true, true, true, true, true, true, true, true, true, false, false] rfl rfl (any_of HT_.out (by kernel_rfl)) (fun _ _ _ h => h) (Or.inl ⟨by rfl, ?_⟩) ?_ ?_
           rotate_left
           ·intro w'
            go_simp
            with_reducible rfl
           rotate_left
           ·simp only [Act.put, List.setIfInBounds_toArray, List.set_cons_zero, List.set_cons_succ, i64_w, i32_w]
            rfl
           refine one_ (i := 14) (N := some 9) #[true, true, true, true, true, true, true, true, true, true, true, true, true, true, true, false] rfl rfl (one_of HT_.out (by kernel_rfl)) (by decide) (fun K hK => ?_)
           refine box_step ?hg (N := 9) ?hd (cs := #[.int .i64 0, .string (⟨#[]⟩ : ByteArray), .string (⟨#[]⟩ : ByteArray), .string (⟨#[]⟩ : ByteArray), .string (⟨#[]⟩ : ByteArray)]) (t := 23) ?hr ?_; (case hd => rfl); (case hg => rfl); (case hr => first | (go_simp; done) | (go_simp; rfl))
           intro gb40014 hg w17 hbox hb
           have HS0_ := (hb.cell (World.block_lt_of_cell? _ _ (hHeld.1))).trans (hHeld.1)
           have HS1_ := (hb.cell (World.block_lt_of_cell? _ _ (hHeld.2.1))).trans (hHeld.2.1)
           have HS2_ := (hb.cell (World.block_lt_of_cell? _ _ (hHeld.2.2))).trans (hHeld.2.2)
           have n0_ := Aside0.mk (Kd.R_below (by (with_reducible repeat (first | apply Kd.R_alloc | apply Kd.R_drewN | apply Kd.R_drew)); exact HO_4.out) hb)
           have n1_ := Aside0.mk (blk_below (g := gb40001) (o := .cells #[.int .i64 x40002000_1, .string x40002001_1, .string x40002002_1, .string x40002003_1, .string x40002004_1] 23 (0, 0)) (by (with_reducible repeat (first | refine blk_drewN ?_ _ | refine blk_drew ?_ | refine blk_alloc ?_ _)); exact BK40001.out) hb)
           have n2_ := Aside0.mk (below_step (by repeat (first | (with_reducible first | exact HB.out | apply below_alloc | apply pw_below_drewN | apply below_drew1 | refine below_set ?_ GE40001.out) | exact HB.out)) hb)
           have n3_ := Aside0.mk (hbox)
           have n4_ := Aside0.mk ((by rw [hg]; exact (below_size (by repeat (first | (with_reducible first | exact HB.out | apply below_alloc | apply pw_below_drewN | apply below_drew1 | refine below_set ?_ GE40001.out) | exact HB.out))) : w.heap.size ≤ gb40014))
           have n5_ := Aside0.mk ((by rw [hg]; exact (below_size (by repeat (first | (with_reducible first | exact HB.out | apply below_alloc | apply pw_below_drewN | apply below_drew1 | refine below_set ?_ GE40001.out) | exact HB.out))) : w.heap.size ≤ gb40014))
           have n6_ := Aside0.mk ((by rw [hg]; exact Nat.ne_of_lt (blk_lt (g := gb40001) (o := .cells #[.int .i64 x40002000_1, .string x40002001_1, .string x40002002_1, .string x40002003_1, .string x40002004_1] 23 (0, 0)) (by (with_reducible repeat (first | refine blk_drewN ?_ _ | refine blk_drew ?_ | refine blk_alloc ?_ _)); exact BK40001.out)) : gb40001 ≠ gb40014))
           have n7_ := Aside0.mk ((by rw [hg]; exact Nat.ne_of_gt (blk_lt (g := gb40001) (o := .cells #[.int .i64 x40002000_1, .string x40002001_1, .string x40002002_1, .string x40002003_1, .string x40002004_1] 23 (0, 0)) (by (with_reducible repeat (first | refine blk_drewN ?_ _ | refine blk_drew ?_ | refine blk_alloc ?_ _)); exact BK40001.out)) : gb40014 ≠ gb40001))
           clear HO_4
           clear BK40001
           clear HB
           have HO_4 := n0_
           have BK40001 := n1_
           have HB := n2_
           have BK40014 := n3_
           have GW40014 := n4_
           have GE40014 := n5_
           have NB40001_40014 := n6_
           have NB40014_40001 := n7_
           clear n0_ n1_ n2_ n3_ n4_ n5_ n6_ n7_
           clear hb hbox hg
           refine hK.out _ _ ⟨HS0_, HS1_, HS2_⟩ (fun hHeld => ?_)
           clear hK K
           refine norm_ (a' := ?_) ?_ ?_
           rotate_left
           ·show Act.put _ (some 9) _ = _
            simp only [Act.put, List.setIfInBounds_toArray, List.set_cons_zero, List.set_cons_succ, i64_w, i32_w]
            rfl
           exact norm_ (by simp only [putAll, Act.put, List.setIfInBounds_toArray, List.set_cons_zero, List.set_cons_succ]) (hCont (gb40014) _ ⟨hHeld, (by (with_reducible repeat (first | apply Kd.R_alloc | apply Kd.R_drewN | apply Kd.R_drew)); exact HO_4.out), (by (with_reducible repeat (first | refine blk_drewN ?_ _ | refine blk_drew ?_ | refine blk_alloc ?_ _)); exact BK40001.out), (by (with_reducible repeat (first | refine blk_drewN ?_ _ | refine blk_drew ?_ | refine blk_alloc ?_ _)); exact BK40014.out), GW40014.out, GE40014.out, NB40001_40014.out, NB40014_40001.out, (by repeat (first | (with_reducible first | exact HB.out | apply below_alloc | apply pw_below_drewN | apply below_drew1 | refine below_set ?_ GE40001.out | refine below_set ?_ GE40014.out) | exact HB.out))⟩)
          ·skip
           refine box_step ?hg (N := 9) ?hd (cs := #[.int .i64 0, .string (⟨#[]⟩ : ByteArray), .string (⟨#[]⟩ : ByteArray), .string (⟨#[]⟩ : ByteArray), .string (⟨#[]⟩ : ByteArray)]) (t := 23) ?hr ?_; (case hd => rfl); (case hg => rfl); (case hr => first | (go_simp; done) | (go_simp; rfl))
           intro gb40014 hg w17 hbox hb
           have HS0_ := (hb.cell (World.block_lt_of_cell? _ _ (hHeld.1))).trans (hHeld.1)
           have HS1_ := (hb.cell (World.block_lt_of_cell? _ _ (hHeld.2.1))).trans (hHeld.2.1)
           have HS2_ := (hb.cell (World.block_lt_of_cell? _ _ (hHeld.2.2))).trans (hHeld.2.2)
           have n0_ := Aside0.mk (Kd.R_below (by (with_reducible repeat (first | apply Kd.R_alloc | apply Kd.R_drewN | apply Kd.R_drew)); exact HO_4.out) hb)
           have n1_ := Aside0.mk (blk_below (g := gb40001) (o := .cells #[.int .i64 x40002000_1, .string x40002001_1, .string x40002002_1, .string x40002003_1, .string x40002004_1] 23 (0, 0)) (by (with_reducible repeat (first | refine blk_drewN ?_ _ | refine blk_drew ?_ | refine blk_alloc ?_ _)); exact BK40001.out) hb)
           have n2_ := Aside0.mk (below_step (by repeat (first | (with_reducible first | exact HB.out | apply below_alloc | apply pw_below_drewN | apply below_drew1 | refine below_set ?_ GE40001.out) | exact HB.out)) hb)
           have n3_ := Aside0.mk (hbox)
           have n4_ := Aside0.mk ((by rw [hg]; exact (below_size (by repeat (first | (with_reducible first | exact HB.out | apply below_alloc | apply pw_below_drewN | apply below_drew1 | refine below_set ?_ GE40001.out) | exact HB.out))) : w.heap.size ≤ gb40014))
           have n5_ := Aside0.mk ((by rw [hg]; exact (below_size (by repeat (first | (with_reducible first | exact HB.out | apply below_alloc | apply pw_below_drewN | apply below_drew1 | refine below_set ?_ GE40001.out) | exact HB.out))) : w.heap.size ≤ gb40014))
           have n6_ := Aside0.mk ((by rw [hg]; exact Nat.ne_of_lt (blk_lt (g := gb40001) (o := .cells #[.int .i64 x40002000_1, .string x40002001_1, .string x40002002_1, .string x40002003_1, .string x40002004_1] 23 (0, 0)) (by (with_reducible repeat (first | refine blk_drewN ?_ _ | refine blk_drew ?_ | refine blk_alloc ?_ _)); exact BK40001.out)) : gb40001 ≠ gb40014))
           have n7_ := Aside0.mk ((by rw [hg]; exact Nat.ne_of_gt (blk_lt (g := gb40001) (o := .cells #[.int .i64 x40002000_1, .string x40002001_1, .string x40002002_1, .string x40002003_1, .string x40002004_1] 23 (0, 0)) (by (with_reducible repeat (first | refine blk_drewN ?_ _ | refine blk_drew ?_ | refine blk_alloc ?_ _)); exact BK40001.out)) : gb40014 ≠ gb40001))
           clear HO_4
           clear BK40001
           clear HB
           have HO_4 := n0_
           have BK40001 := n1_
           have HB := n2_
           have BK40014 := n3_
           have GW40014 := n4_
           have GE40014 := n5_
           have NB40001_40014 := n6_
           have NB40014_40001 := n7_
           clear n0_ n1_ n2_ n3_ n4_ n5_ n6_ n7_
           clear hb hbox hg
           refine hK.out _ _ ⟨HS0_, HS1_, HS2_⟩ (fun hHeld => ?_)
           clear hK K
           refine norm_ (a' := ?_) ?_ ?_
           rotate_left
           ·show Act.put _ (some 9) _ = _
            simp only [Act.put, List.setIfInBounds_toArray, List.set_cons_zero, List.set_cons_succ, i64_w, i32_w]
            rfl
           refine one_ (i := 11) (N := some 40) #[true, true, true, true, true, true, true, true, true, true, true, true, true, false, true, false] rfl rfl (one_of HT_.out (by kernel_rfl)) (by decide) (fun K hK => ?_)
           refine goes_ Tryd.func65 (by kernel_rfl) rfl #[.string (rdOf ByteArray.empty x4_1 4)] (by rfl) rfl rfl (by (try simp only [List.map_toArray, List.map_cons, List.map_nil]); first | done | rfl | (simp only [List.length_drop, List.length_take]; rfl)) ?_
           with_reducible refine (dataflowref46_none.calls (rdOf ByteArray.empty x4_1 4) t40013 _ A14.out).mono ?_
           rintro e w' ⟨rfl, ⟨nd, rfl⟩⟩
           refine ⟨_, rfl, ?_⟩
           refine hK.out _ _ ⟨hHeld.1, hHeld.2.1, hHeld.2.2⟩ (fun hHeld => ?_)
           clear hK K
           refine norm_ (a' := ?_) ?_ ?_
           rotate_left
           ·show Act.put _ (some 40) _ = _
            simp only [Act.put, List.setIfInBounds_toArray, List.set_cons_zero, List.set_cons_succ, i64_w, i32_w]
            rfl
           refine pure_ (i := 13) (N := some 42) (v := ?_) (a' := ?_) #[true, true, true, true, true, true, true, true, true, true, true, true, true, true, true, false] rfl rfl (any_of HT_.out (by kernel_rfl)) (fun _ _ _ h => h) (Or.inl ⟨by rfl, ?_⟩) ?_ ?_
           rotate_left
           ·intro w'
            go_simp
            with_reducible rfl
           rotate_left
           ·simp only [Act.put, List.setIfInBounds_toArray, List.set_cons_zero, List.set_cons_succ, i64_w, i32_w]
            rfl
           exact norm_ (by simp only [putAll, Act.put, List.setIfInBounds_toArray, List.set_cons_zero, List.set_cons_succ]) (hCont (gb40014) _ ⟨hHeld, (by (with_reducible repeat (first | apply Kd.R_alloc | apply Kd.R_drewN | apply Kd.R_drew)); exact HO_4.out), (by (with_reducible repeat (first | refine blk_drewN ?_ _ | refine blk_drew ?_ | refine blk_alloc ?_ _)); exact BK40001.out), (by (with_reducible repeat (first | refine blk_drewN ?_ _ | refine blk_drew ?_ | refine blk_alloc ?_ _)); exact BK40014.out), GW40014.out, GE40014.out, NB40001_40014.out, NB40014_40001.out, (by repeat (first | (with_reducible first | exact HB.out | apply below_alloc | apply pw_below_drewN | apply below_drew1 | refine below_set ?_ GE40001.out | refine below_set ?_ GE40014.out) | exact HB.out))⟩)
         ·skip
          refine box_step ?hg (N := 9) ?hd (cs := #[.int .i64 0, .string (⟨#[]⟩ : ByteArray), .string (⟨#[]⟩ : ByteArray), .string (⟨#[]⟩ : ByteArray), .string (⟨#[]⟩ : ByteArray)]) (t := 23) ?hr ?_; (case hd => rfl); (case hg => rfl); (case hr => first | (go_simp; done) | (go_simp; rfl))
          intro gb40014 hg w17 hbox hb
          have HS0_ := (hb.cell (World.block_lt_of_cell? _ _ (hHeld.1))).trans (hHeld.1)
          have HS1_ := (hb.cell (World.block_lt_of_cell? _ _ (hHeld.2.1))).trans (hHeld.2.1)
          have HS2_ := (hb.cell (World.block_lt_of_cell? _ _ (hHeld.2.2))).trans (hHeld.2.2)
          have n0_ := Aside0.mk (Kd.R_below (by (with_reducible repeat (first | apply Kd.R_alloc | apply Kd.R_drewN | apply Kd.R_drew)); exact HO_4.out) hb)
          have n1_ := Aside0.mk (blk_below (g := gb40001) (o := .cells #[.int .i64 x40002000_1, .string x40002001_1, .string x40002002_1, .string x40002003_1, .string x40002004_1] 23 (0, 0)) (by (with_reducible repeat (first | refine blk_drewN ?_ _ | refine blk_drew ?_ | refine blk_alloc ?_ _)); exact BK40001.out) hb)
          have n2_ := Aside0.mk (below_step (by repeat (first | (with_reducible first | exact HB.out | apply below_alloc | apply pw_below_drewN | apply below_drew1 | refine below_set ?_ GE40001.out) | exact HB.out)) hb)
          have n3_ := Aside0.mk (hbox)
          have n4_ := Aside0.mk ((by rw [hg]; exact (below_size (by repeat (first | (with_reducible first | exact HB.out | apply below_alloc | apply pw_below_drewN | apply below_drew1 | refine below_set ?_ GE40001.out) | exact HB.out))) : w.heap.size ≤ gb40014))
          have n5_ := Aside0.mk ((by rw [hg]; exact (below_size (by repeat (first | (with_reducible first | exact HB.out | apply below_alloc | apply pw_below_drewN | apply below_drew1 | refine below_set ?_ GE40001.out) | exact HB.out))) : w.heap.size ≤ gb40014))
          have n6_ := Aside0.mk ((by rw [hg]; exact Nat.ne_of_lt (blk_lt (g := gb40001) (o := .cells #[.int .i64 x40002000_1, .string x40002001_1, .string x40002002_1, .string x40002003_1, .string x40002004_1] 23 (0, 0)) (by (with_reducible repeat (first | refine blk_drewN ?_ _ | refine blk_drew ?_ | refine blk_alloc ?_ _)); exact BK40001.out)) : gb40001 ≠ gb40014))
          have n7_ := Aside0.mk ((by rw [hg]; exact Nat.ne_of_gt (blk_lt (g := gb40001) (o := .cells #[.int .i64 x40002000_1, .string x40002001_1, .string x40002002_1, .string x40002003_1, .string x40002004_1] 23 (0, 0)) (by (with_reducible repeat (first | refine blk_drewN ?_ _ | refine blk_drew ?_ | refine blk_alloc ?_ _)); exact BK40001.out)) : gb40014 ≠ gb40001))
          clear HO_4
          clear BK40001
          clear HB
          have HO_4 := n0_
          have BK40001 := n1_
          have HB := n2_
          have BK40014 := n3_
          have GW40014 := n4_
          have GE40014 := n5_
          have NB40001_40014 := n6_
          have NB40014_40001 := n7_
          clear n0_ n1_ n2_ n3_ n4_ n5_ n6_ n7_
          clear hb hbox hg
          refine hK.out _ _ ⟨HS0_, HS1_, HS2_⟩ (fun hHeld => ?_)
          clear hK K
          refine norm_ (a' := ?_) ?_ ?_
          rotate_left
          ·show Act.put _ (some 9) _ = _
           simp only [Act.put, List.setIfInBounds_toArray, List.set_cons_zero, List.set_cons_succ, i64_w, i32_w]
           rfl
          refine one_ (i := 7) (N := some 36) #[true, true, true, true, true, true, true, true, true, true, true, false, true, false, true, false] rfl rfl (one_of HT_.out (by kernel_rfl)) (by decide) (fun K hK => ?_)
          refine goes_ Tryd.func65 (by kernel_rfl) rfl #[.string (rdOf ByteArray.empty x4_1 3)] (by rfl) rfl rfl (by (try simp only [List.map_toArray, List.map_cons, List.map_nil]); first | done | rfl | (simp only [List.length_drop, List.length_take]; rfl)) ?_
          with_reducible refine (dataflowref46_none.calls (rdOf ByteArray.empty x4_1 3) t40011 _ A12.out).mono ?_
          rintro e w' ⟨rfl, ⟨nd, rfl⟩⟩
          refine ⟨_, rfl, ?_⟩
          refine hK.out _ _ ⟨hHeld.1, hHeld.2.1, hHeld.2.2⟩ (fun hHeld => ?_)
          clear hK K
          refine norm_ (a' := ?_) ?_ ?_
          rotate_left
          ·show Act.put _ (some 36) _ = _
           simp only [Act.put, List.setIfInBounds_toArray, List.set_cons_zero, List.set_cons_succ, i64_w, i32_w]
           rfl
          refine one_ (i := 11) (N := some 40) #[true, true, true, true, true, true, true, true, true, true, true, true, true, false, true, false] rfl rfl (one_of HT_.out (by kernel_rfl)) (by decide) (fun K hK => ?_)
          refine goes_ Tryd.func65 (by kernel_rfl) rfl #[.string (rdOf ByteArray.empty x4_1 4)] (by rfl) rfl rfl (by (try simp only [List.map_toArray, List.map_cons, List.map_nil]); first | done | rfl | (simp only [List.length_drop, List.length_take]; rfl)) ?_
          with_reducible refine (dataflowref46_none.calls (rdOf ByteArray.empty x4_1 4) t40013 _ A14.out).mono ?_
          rintro e w' ⟨rfl, ⟨nd, rfl⟩⟩
          refine ⟨_, rfl, ?_⟩
          refine hK.out _ _ ⟨hHeld.1, hHeld.2.1, hHeld.2.2⟩ (fun hHeld => ?_)
          clear hK K
          refine norm_ (a' := ?_) ?_ ?_
          rotate_left
          ·show Act.put _ (some 40) _ = _
           simp only [Act.put, List.setIfInBounds_toArray, List.set_cons_zero, List.set_cons_succ, i64_w, i32_w]
           rfl
          refine pure_ (i := 13) (N := some 42) (v := ?_) (a' := ?_) #[true, true, true, true, true, true, true, true, true, true, true, true, true, true, true, false] rfl rfl (any_of HT_.out (by kernel_rfl)) (fun _ _ _ h => h) (Or.inl ⟨by rfl, ?_⟩) ?_ ?_
          rotate_left
          ·intro w'
           go_simp
           with_reducible rfl
          rotate_left
          ·simp only [Act.put, List.setIfInBounds_toArray, List.set_cons_zero, List.set_cons_succ, i64_w, i32_w]
           rfl
          exact norm_ (by simp only [putAll, Act.put, List.setIfInBounds_toArray, List.set_cons_zero, List.set_cons_succ]) (hCont (gb40014) _ ⟨hHeld, (by (with_reducible repeat (first | apply Kd.R_alloc | apply Kd.R_drewN | apply Kd.R_drew)); exact HO_4.out), (by (with_reducible repeat (first | refine blk_drewN ?_ _ | refine blk_drew ?_ | refine blk_alloc ?_ _)); exact BK40001.out), (by (with_reducible repeat (first | refine blk_drewN ?_ _ | refine blk_drew ?_ | refine blk_alloc ?_ _)); exact BK40014.out), GW40014.out, GE40014.out, NB40001_40014.out, NB40014_40001.out, (by repeat (first | (with_reducible first | exact HB.out | apply below_alloc | apply pw_below_drewN | apply below_drew1 | refine below_set ?_ GE40001.out | refine below_set ?_ GE40014.out) | exact HB.out))⟩)
        ·skip
         refine box_step ?hg (N := 9) ?hd (cs := #[.int .i64 0, .string (⟨#[]⟩ : ByteArray), .string (⟨#[]⟩ : ByteArray), .string (⟨#[]⟩ : ByteArray), .string (⟨#[]⟩ : ByteArray)]) (t := 23) ?hr ?_; (case hd => rfl); (case hg => rfl); (case hr => first | (go_simp; done) | (go_simp; rfl))
         intro gb40014 hg w17 hbox hb
         have HS0_ := (hb.cell (World.block_lt_of_cell? _ _ (hHeld.1))).trans (hHeld.1)
         have HS1_ := (hb.cell (World.block_lt_of_cell? _ _ (hHeld.2.1))).trans (hHeld.2.1)
         have HS2_ := (hb.cell (World.block_lt_of_cell? _ _ (hHeld.2.2))).trans (hHeld.2.2)
         have n0_ := Aside0.mk (Kd.R_below (by (with_reducible repeat (first | apply Kd.R_alloc | apply Kd.R_drewN | apply Kd.R_drew)); exact HO_4.out) hb)
         have n1_ := Aside0.mk (blk_below (g := gb40001) (o := .cells #[.int .i64 x40002000_1, .string x40002001_1, .string x40002002_1, .string x40002003_1, .string x40002004_1] 23 (0, 0)) (by (with_reducible repeat (first | refine blk_drewN ?_ _ | refine blk_drew ?_ | refine blk_alloc ?_ _)); exact BK40001.out) hb)
         have n2_ := Aside0.mk (below_step (by repeat (first | (with_reducible first | exact HB.out | apply below_alloc | apply pw_below_drewN | apply below_drew1 | refine below_set ?_ GE40001.out) | exact HB.out)) hb)
         have n3_ := Aside0.mk (hbox)
         have n4_ := Aside0.mk ((by rw [hg]; exact (below_size (by repeat (first | (with_reducible first | exact HB.out | apply below_alloc | apply pw_below_drewN | apply below_drew1 | refine below_set ?_ GE40001.out) | exact HB.out))) : w.heap.size ≤ gb40014))
         have n5_ := Aside0.mk ((by rw [hg]; exact (below_size (by repeat (first | (with_reducible first | exact HB.out | apply below_alloc | apply pw_below_drewN | apply below_drew1 | refine below_set ?_ GE40001.out) | exact HB.out))) : w.heap.size ≤ gb40014))
         have n6_ := Aside0.mk ((by rw [hg]; exact Nat.ne_of_lt (blk_lt (g := gb40001) (o := .cells #[.int .i64 x40002000_1, .string x40002001_1, .string x40002002_1, .string x40002003_1, .string x40002004_1] 23 (0, 0)) (by (with_reducible repeat (first | refine blk_drewN ?_ _ | refine blk_drew ?_ | refine blk_alloc ?_ _)); exact BK40001.out)) : gb40001 ≠ gb40014))
         have n7_ := Aside0.mk ((by rw [hg]; exact Nat.ne_of_gt (blk_lt (g := gb40001) (o := .cells #[.int .i64 x40002000_1, .string x40002001_1, .string x40002002_1, .string x40002003_1, .string x40002004_1] 23 (0, 0)) (by (with_reducible repeat (first | refine blk_drewN ?_ _ | refine blk_drew ?_ | refine blk_alloc ?_ _)); exact BK40001.out)) : gb40014 ≠ gb40001))
         clear HO_4
         clear BK40001
         clear HB
         have HO_4 := n0_
         have BK40001 := n1_
         have HB := n2_
         have BK40014 := n3_
         have GW40014 := n4_
         have GE40014 := n5_
         have NB40001_40014 := n6_
         have NB40014_40001 := n7_
         clear n0_ n1_ n2_ n3_ n4_ n5_ n6_ n7_
         clear hb hbox hg
         refine hK.out _ _ ⟨HS0_, HS1_, HS2_⟩ (fun hHeld => ?_)
         clear hK K
         refine norm_ (a' := ?_) ?_ ?_
         rotate_left
         ·show Act.put _ (some 9) _ = _
          simp only [Act.put, List.setIfInBounds_toArray, List.set_cons_zero, List.set_cons_succ, i64_w, i32_w]
          rfl
         refine one_ (i := 3) (N := some 32) #[true, true, true, true, true, true, true, false, true, true, true, false, true, false, true, false] rfl rfl (one_of HT_.out (by kernel_rfl)) (by decide) (fun K hK => ?_)
         refine goes_ Tryd.func65 (by kernel_rfl) rfl #[.string (rdOf ByteArray.empty x4_1 2)] (by rfl) rfl rfl (by (try simp only [List.map_toArray, List.map_cons, List.map_nil]); first | done | rfl | (simp only [List.length_drop, List.length_take]; rfl)) ?_
         with_reducible refine (dataflowref46_none.calls (rdOf ByteArray.empty x4_1 2) t40009 _ A10.out).mono ?_
         rintro e w' ⟨rfl, ⟨nd, rfl⟩⟩
         refine ⟨_, rfl, ?_⟩
         refine hK.out _ _ ⟨hHeld.1, hHeld.2.1, hHeld.2.2⟩ (fun hHeld => ?_)
         clear hK K
         refine norm_ (a' := ?_) ?_ ?_
         rotate_left
         ·show Act.put _ (some 32) _ = _
          simp only [Act.put, List.setIfInBounds_toArray, List.set_cons_zero, List.set_cons_succ, i64_w, i32_w]
          rfl
         refine one_ (i := 7) (N := some 36) #[true, true, true, true, true, true, true, true, true, true, true, false, true, false, true, false] rfl rfl (one_of HT_.out (by kernel_rfl)) (by decide) (fun K hK => ?_)
         refine goes_ Tryd.func65 (by kernel_rfl) rfl #[.string (rdOf ByteArray.empty x4_1 3)] (by rfl) rfl rfl (by (try simp only [List.map_toArray, List.map_cons, List.map_nil]); first | done | rfl | (simp only [List.length_drop, List.length_take]; rfl)) ?_
         with_reducible refine (dataflowref46_none.calls (rdOf ByteArray.empty x4_1 3) t40011 _ A12.out).mono ?_
         rintro e w' ⟨rfl, ⟨nd, rfl⟩⟩
         refine ⟨_, rfl, ?_⟩
         refine hK.out _ _ ⟨hHeld.1, hHeld.2.1, hHeld.2.2⟩ (fun hHeld => ?_)
         clear hK K
         refine norm_ (a' := ?_) ?_ ?_
         rotate_left
         ·show Act.put _ (some 36) _ = _
          simp only [Act.put, List.setIfInBounds_toArray, List.set_cons_zero, List.set_cons_succ, i64_w, i32_w]
          rfl
         refine one_ (i := 11) (N := some 40) #[true, true, true, true, true, true, true, true, true, true, true, true, true, false, true, false] rfl rfl (one_of HT_.out (by kernel_rfl)) (by decide) (fun K hK => ?_)
         refine goes_ Tryd.func65 (by kernel_rfl) rfl #[.string (rdOf ByteArray.empty x4_1 4)] (by rfl) rfl rfl (by (try simp only [List.map_toArray, List.map_cons, List.map_nil]); first | done | rfl | (simp only [List.length_drop, List.length_take]; rfl)) ?_
         with_reducible refine (dataflowref46_none.calls (rdOf ByteArray.empty x4_1 4) t40013 _ A14.out).mono ?_
         rintro e w' ⟨rfl, ⟨nd, rfl⟩⟩
         refine ⟨_, rfl, ?_⟩
         refine hK.out _ _ ⟨hHeld.1, hHeld.2.1, hHeld.2.2⟩ (fun hHeld => ?_)
         clear hK K
         refine norm_ (a' := ?_) ?_ ?_
         rotate_left
         ·show Act.put _ (some 40) _ = _
          simp only [Act.put, List.setIfInBounds_toArray, List.set_cons_zero, List.set_cons_succ, i64_w, i32_w]
          rfl
         refine pure_ (i := 13) (N := some 42) (v := ?_) (a' := ?_) #[true, true, true, true, true, true, true, true, true, true, true, true, true, true, true, false] rfl rfl (any_of HT_.out (by kernel_rfl)) (fun _ _ _ h => h) (Or.inl ⟨by rfl, ?_⟩) ?_ ?_
         rotate_left
         ·intro w'
          go_simp
          with_reducible rfl
         rotate_left
         ·simp only [Act.put, List.setIfInBounds_toArray, List.set_cons_zero, List.set_cons_succ, i64_w, i32_w]
          rfl
         exact norm_ (by simp only [putAll, Act.put, List.setIfInBounds_toArray, List.set_cons_zero, List.set_cons_succ]) (hCont (gb40014) _ ⟨hHeld, (by (with_reducible repeat (first | apply Kd.R_alloc | apply Kd.R_drewN | apply Kd.R_drew)); exact HO_4.out), (by (with_reducible repeat (first | refine blk_drewN ?_ _ | refine blk_drew ?_ | refine blk_alloc ?_ _)); exact BK40001.out), (by (with_reducible repeat (first | refine blk_drewN ?_ _ | refine blk_drew ?_ | refine blk_alloc ?_ _)); exact BK40014.out), GW40014.out, GE40014.out, NB40001_40014.out, NB40014_40001.out, (by repeat (first | (with_reducible first | exact HB.out | apply below_alloc | apply pw_below_drewN | apply below_drew1 | refine below_set ?_ GE40001.out | refine below_set ?_ GE40014.out) | exact HB.out))⟩)
       rintro gb40014 w18 ⟨hS_, h0_, h1_, h2_, h3_, h4_, h5_, h6_, h7_⟩
       have n0_ : Aside0 (Kd.R Kd.string 9 w18 w.heap.size (fun _ => True) (.slice (some ad40008) x4_1.length co16) x4_1) := ⟨h0_⟩
       have n1_ : Aside0 (w18.heap[gb40001]? = some (.cells #[.int .i64 x40002000_1, .string x40002001_1, .string x40002002_1, .string x40002003_1, .string x40002004_1] 23 (0, 0))) := ⟨h1_⟩
       have n2_ : Aside0 (w18.heap[gb40014]? = some (.cells #[.int .i64 0, .string (⟨#[]⟩ : ByteArray), .string (⟨#[]⟩ : ByteArray), .string (⟨#[]⟩ : ByteArray), .string (⟨#[]⟩ : ByteArray)] 23 (0, 0))) := ⟨h2_⟩
       have n3_ : Aside0 (w.heap.size ≤ gb40014) := ⟨h3_⟩
       have n4_ : Aside0 (w.heap.size ≤ gb40014) := ⟨h4_⟩
       have n5_ : Aside0 (gb40001 ≠ gb40014) := ⟨h5_⟩
       have n6_ : Aside0 (gb40014 ≠ gb40001) := ⟨h6_⟩
       have n7_ : Aside0 (Below w.heap.size w w18) := ⟨h7_⟩
       clear HO_4
       clear BK40001
       clear HB
       clear h0_ h1_ h2_ h3_ h4_ h5_ h6_ h7_
       have HO_4 := n0_
       have BK40001 := n1_
       have BK40014 := n2_
       have GW40014 := n3_
       have GE40014 := n4_
       have NB40001_40014 := n5_
       have NB40014_40001 := n6_
       have HB := n7_
       clear n0_ n1_ n2_ n3_ n4_ n5_ n6_ n7_
       have hHeld : w18.cell? ⟨ad40008.block, ad40008.off + 2, none⟩ = some (.string (rdOf ByteArray.empty x4_1 2)) ∧ w18.cell? ⟨ad40008.block, ad40008.off + 3, none⟩ = some (.string (rdOf ByteArray.empty x4_1 3)) ∧ w18.cell? ⟨ad40008.block, ad40008.off + 4, none⟩ = some (.string (rdOf ByteArray.empty x4_1 4)) := hS_
       refine norm_ (a' := ?_) ?_ ?_
       rotate_left
       ·simp only [putAll, Act.put, List.setIfInBounds_toArray, List.set_cons_zero, List.set_cons_succ]
        rfl
       refine one_ (i := 15) (N := none) #[true, true, true, true, true, true, true, true, true, true, true, true, true, true, true, true] rfl rfl (one_of HT_.out (by kernel_rfl)) (by decide) (fun K hK => ?_)
       have hs19 : w18.cell? ⟨gb40014, 0, none⟩ = some (.int .i64 0) := (blk_cell BK40014.out 0).trans rfl
       have hfs19 := blk_frozen BK40014.out 0
       have hns19_0 := NB40001_40014.out
       have hms19_0 := NB40014_40001.out
       have hs20 : w18.cell? ⟨gb40014, 1, none⟩ = some (.string (⟨#[]⟩ : ByteArray)) := (blk_cell BK40014.out 1).trans rfl
       have hfs20 := blk_frozen BK40014.out 1
       have hns20_0 := NB40001_40014.out
       have hms20_0 := NB40014_40001.out
       have hs21 : w18.cell? ⟨gb40014, 2, none⟩ = some (.string (⟨#[]⟩ : ByteArray)) := (blk_cell BK40014.out 2).trans rfl
       have hfs21 := blk_frozen BK40014.out 2
       have hns21_0 := NB40001_40014.out
       have hms21_0 := NB40014_40001.out
       have hs22 : w18.cell? ⟨gb40014, 3, none⟩ = some (.string (⟨#[]⟩ : ByteArray)) := (blk_cell BK40014.out 3).trans rfl
       have hfs22 := blk_frozen BK40014.out 3
       have hns22_0 := NB40001_40014.out
       have hms22_0 := NB40014_40001.out
       have hs23 : w18.cell? ⟨gb40014, 4, none⟩ = some (.string (⟨#[]⟩ : ByteArray)) := (blk_cell BK40014.out 4).trans rfl
       have hfs23 := blk_frozen BK40014.out 4
       have hns23_0 := NB40001_40014.out
       have hms23_0 := NB40014_40001.out
       refine skip_ (w1 := ?_) (by rfl) rfl ?_ ?_
       rotate_left
       ·go_simp
        rfl
       refine hK.out _ _ ⟨((cell_far (p := ⟨gb40014, _, none⟩) (by first | exact Kd.own_blk (Kd.R_ne HO_4.out BK40014.out (by decide)) | (rw [add_block]; exact Kd.own_blk (Kd.R_ne HO_4.out BK40014.out (by decide))) | (show (Addr.add _ _).block ≠ _; rw [add_block]; exact Kd.own_blk (Kd.R_ne HO_4.out BK40014.out (by decide))) | (dsimp only; exact Kd.own_blk (Kd.R_ne HO_4.out BK40014.out (by decide)))) _).trans (((cell_far (p := ⟨gb40014, _, none⟩) (by first | exact Kd.own_blk (Kd.R_ne HO_4.out BK40014.out (by decide)) | (rw [add_block]; exact Kd.own_blk (Kd.R_ne HO_4.out BK40014.out (by decide))) | (show (Addr.add _ _).block ≠ _; rw [add_block]; exact Kd.own_blk (Kd.R_ne HO_4.out BK40014.out (by decide))) | (dsimp only; exact Kd.own_blk (Kd.R_ne HO_4.out BK40014.out (by decide)))) _).trans (((cell_far (p := ⟨gb40014, _, none⟩) (by first | exact Kd.own_blk (Kd.R_ne HO_4.out BK40014.out (by decide)) | (rw [add_block]; exact Kd.own_blk (Kd.R_ne HO_4.out BK40014.out (by decide))) | (show (Addr.add _ _).block ≠ _; rw [add_block]; exact Kd.own_blk (Kd.R_ne HO_4.out BK40014.out (by decide))) | (dsimp only; exact Kd.own_blk (Kd.R_ne HO_4.out BK40014.out (by decide)))) _).trans (((cell_far (p := ⟨gb40014, _, none⟩) (by first | exact Kd.own_blk (Kd.R_ne HO_4.out BK40014.out (by decide)) | (rw [add_block]; exact Kd.own_blk (Kd.R_ne HO_4.out BK40014.out (by decide))) | (show (Addr.add _ _).block ≠ _; rw [add_block]; exact Kd.own_blk (Kd.R_ne HO_4.out BK40014.out (by decide))) | (dsimp only; exact Kd.own_blk (Kd.R_ne HO_4.out BK40014.out (by decide)))) _).trans (((cell_far (p := ⟨gb40014, _, none⟩) (by first | exact Kd.own_blk (Kd.R_ne HO_4.out BK40014.out (by decide)) | (rw [add_block]; exact Kd.own_blk (Kd.R_ne HO_4.out BK40014.out (by decide))) | (show (Addr.add _ _).block ≠ _; rw [add_block]; exact Kd.own_blk (Kd.R_ne HO_4.out BK40014.out (by decide))) | (dsimp only; exact Kd.own_blk (Kd.R_ne HO_4.out BK40014.out (by decide)))) _).trans (hHeld.1)))))))))), ((cell_far (p := ⟨gb40014, _, none⟩) (by first | exact Kd.own_blk (Kd.R_ne HO_4.out BK40014.out (by decide)) | (rw [add_block]; exact Kd.own_blk (Kd.R_ne HO_4.out BK40014.out (by decide))) | (show (Addr.add _ _).block ≠ _; rw [add_block]; exact Kd.own_blk (Kd.R_ne HO_4.out BK40014.out (by decide))) | (dsimp only; exact Kd.own_blk (Kd.R_ne HO_4.out BK40014.out (by decide)))) _).trans (((cell_far (p := ⟨gb40014, _, none⟩) (by first | exact Kd.own_blk (Kd.R_ne HO_4.out BK40014.out (by decide)) | (rw [add_block]; exact Kd.own_blk (Kd.R_ne HO_4.out BK40014.out (by decide))) | (show (Addr.add _ _).block ≠ _; rw [add_block]; exact Kd.own_blk (Kd.R_ne HO_4.out BK40014.out (by decide))) | (dsimp only; exact Kd.own_blk (Kd.R_ne HO_4.out BK40014.out (by decide)))) _).trans (((cell_far (p := ⟨gb40014, _, none⟩) (by first | exact Kd.own_blk (Kd.R_ne HO_4.out BK40014.out (by decide)) | (rw [add_block]; exact Kd.own_blk (Kd.R_ne HO_4.out BK40014.out (by decide))) | (show (Addr.add _ _).block ≠ _; rw [add_block]; exact Kd.own_blk (Kd.R_ne HO_4.out BK40014.out (by decide))) | (dsimp only; exact Kd.own_blk (Kd.R_ne HO_4.out BK40014.out (by decide)))) _).trans (((cell_far (p := ⟨gb40014, _, none⟩) (by first | exact Kd.own_blk (Kd.R_ne HO_4.out BK40014.out (by decide)) | (rw [add_block]; exact Kd.own_blk (Kd.R_ne HO_4.out BK40014.out (by decide))) | (show (Addr.add _ _).block ≠ _; rw [add_block]; exact Kd.own_blk (Kd.R_ne HO_4.out BK40014.out (by decide))) | (dsimp only; exact Kd.own_blk (Kd.R_ne HO_4.out BK40014.out (by decide)))) _).trans (((cell_far (p := ⟨gb40014, _, none⟩) (by first | exact Kd.own_blk (Kd.R_ne HO_4.out BK40014.out (by decide)) | (rw [add_block]; exact Kd.own_blk (Kd.R_ne HO_4.out BK40014.out (by decide))) | (show (Addr.add _ _).block ≠ _; rw [add_block]; exact Kd.own_blk (Kd.R_ne HO_4.out BK40014.out (by decide))) | (dsimp only; exact Kd.own_blk (Kd.R_ne HO_4.out BK40014.out (by decide)))) _).trans (hHeld.2.1)))))))))), ((cell_far (p := ⟨gb40014, _, none⟩) (by first | exact Kd.own_blk (Kd.R_ne HO_4.out BK40014.out (by decide)) | (rw [add_block]; exact Kd.own_blk (Kd.R_ne HO_4.out BK40014.out (by decide))) | (show (Addr.add _ _).block ≠ _; rw [add_block]; exact Kd.own_blk (Kd.R_ne HO_4.out BK40014.out (by decide))) | (dsimp only; exact Kd.own_blk (Kd.R_ne HO_4.out BK40014.out (by decide)))) _).trans (((cell_far (p := ⟨gb40014, _, none⟩) (by first | exact Kd.own_blk (Kd.R_ne HO_4.out BK40014.out (by decide)) | (rw [add_block]; exact Kd.own_blk (Kd.R_ne HO_4.out BK40014.out (by decide))) | (show (Addr.add _ _).block ≠ _; rw [add_block]; exact Kd.own_blk (Kd.R_ne HO_4.out BK40014.out (by decide))) | (dsimp only; exact Kd.own_blk (Kd.R_ne HO_4.out BK40014.out (by decide)))) _).trans (((cell_far (p := ⟨gb40014, _, none⟩) (by first | exact Kd.own_blk (Kd.R_ne HO_4.out BK40014.out (by decide)) | (rw [add_block]; exact Kd.own_blk (Kd.R_ne HO_4.out BK40014.out (by decide))) | (show (Addr.add _ _).block ≠ _; rw [add_block]; exact Kd.own_blk (Kd.R_ne HO_4.out BK40014.out (by decide))) | (dsimp only; exact Kd.own_blk (Kd.R_ne HO_4.out BK40014.out (by decide)))) _).trans (((cell_far (p := ⟨gb40014, _, none⟩) (by first | exact Kd.own_blk (Kd.R_ne HO_4.out BK40014.out (by decide)) | (rw [add_block]; exact Kd.own_blk (Kd.R_ne HO_4.out BK40014.out (by decide))) | (show (Addr.add _ _).block ≠ _; rw [add_block]; exact Kd.own_blk (Kd.R_ne HO_4.out BK40014.out (by decide))) | (dsimp only; exact Kd.own_blk (Kd.R_ne HO_4.out BK40014.out (by decide)))) _).trans (((cell_far (p := ⟨gb40014, _, none⟩) (by first | exact Kd.own_blk (Kd.R_ne HO_4.out BK40014.out (by decide)) | (rw [add_block]; exact Kd.own_blk (Kd.R_ne HO_4.out BK40014.out (by decide))) | (show (Addr.add _ _).block ≠ _; rw [add_block]; exact Kd.own_blk (Kd.R_ne HO_4.out BK40014.out (by decide))) | (dsimp only; exact Kd.own_blk (Kd.R_ne HO_4.out BK40014.out (by decide)))) _).trans (hHeld.2.2))))))))))⟩ (fun hHeld => ?_)
       clear hK K
       refine done_ (done_of HT_.out (by kernel_rfl)) ?_
       try go_wp2
       go_loopg [10] k1 (fun kq v10 w' => ∃ (x10_2 : Int) (x40015000_2 : Int), v10 = .int .i64 x10_2 ∧ Aside0 (dataflowref46_line.l1 kq x4_1 x10_2 x40015000_2 t40009 t40011 t40013 x0_1 = some (r1, r2, r3, r4, r5, r6)) ∧ Aside0 (kq ≤ k1) ∧ Aside0 (Kd.R Kd.string 9 w' w.heap.size (fun _ => True) (.slice (some ad40008) x4_1.length co16) x4_1) ∧ Aside0 (w'.heap[gb40001]? = some (.cells #[.int .i64 x40002000_1, .string x40002001_1, .string x40002002_1, .string x40002003_1, .string x40002004_1] 23 (0, 0))) ∧ Aside0 (w'.heap[gb40014]? = some (.cells #[.int .i64 x40015000_2, .string t40009, .string t40011, .string t40013, .string x0_1] 23 (0, 0))) ∧ Aside0 (Below w.heap.size w w'))
       case atStart => exact ⟨(0), ((-1)), (by first | rfl | (simp; done) | (simp [*]; done)), H', ⟨Nat.le_refl _⟩, ⟨by (with_reducible repeat (first | apply Kd.R_alloc | apply Kd.R_drewN | apply Kd.R_drew)); exact Kd.R_mono (Kd.R_far (p := ⟨gb40014, 4, none⟩) (Kd.R_far (p := ⟨gb40014, 3, none⟩) (Kd.R_far (p := ⟨gb40014, 2, none⟩) (Kd.R_far (p := ⟨gb40014, 1, none⟩) (Kd.R_far (p := ⟨gb40014, 0, none⟩) (Kd.R_types HO_4.out BK40014.out (by decide)) (fun _ hk => hk.2) (.int .i64 (-1))) (fun _ hk => hk.2) (.string t40009)) (fun _ hk => hk.2) (.string t40011)) (fun _ hk => hk.2) (.string t40013)) (fun _ hk => hk.2) (.string x0_1)) (fun _ hk => trivial)⟩, ⟨by (with_reducible repeat (first | refine blk_drewN ?_ _ | refine blk_drew ?_ | refine blk_alloc ?_ _)); refine blk_far ?_ NB40001_40014.out _; (with_reducible repeat (first | refine blk_drewN ?_ _ | refine blk_drew ?_ | refine blk_alloc ?_ _)); refine blk_far ?_ NB40001_40014.out _; (with_reducible repeat (first | refine blk_drewN ?_ _ | refine blk_drew ?_ | refine blk_alloc ?_ _)); refine blk_far ?_ NB40001_40014.out _; (with_reducible repeat (first | refine blk_drewN ?_ _ | refine blk_drew ?_ | refine blk_alloc ?_ _)); refine blk_far ?_ NB40001_40014.out _; (with_reducible repeat (first | refine blk_drewN ?_ _ | refine blk_drew ?_ | refine blk_alloc ?_ _)); refine blk_far ?_ NB40001_40014.out _; (with_reducible repeat (first | refine blk_drewN ?_ _ | refine blk_drew ?_ | refine blk_alloc ?_ _)); exact BK40001.out⟩, ⟨by (with_reducible repeat (first | refine blk_drewN ?_ _ | refine blk_drew ?_ | refine blk_alloc ?_ _)); refine blk_put (cs := #[.int .i64 (-1), .string t40009, .string t40011, .string t40013, .string (⟨#[]⟩ : ByteArray)]) ?_ 4 _ rfl; (with_reducible repeat (first | refine blk_drewN ?_ _ | refine blk_drew ?_ | refine blk_alloc ?_ _)); refine blk_put (cs := #[.int .i64 (-1), .string t40009, .string t40011, .string (⟨#[]⟩ : ByteArray), .string (⟨#[]⟩ : ByteArray)]) ?_ 3 _ rfl; (with_reducible repeat (first | refine blk_drewN ?_ _ | refine blk_drew ?_ | refine blk_alloc ?_ _)); refine blk_put (cs := #[.int .i64 (-1), .string t40009, .string (⟨#[]⟩ : ByteArray), .string (⟨#[]⟩ : ByteArray), .string (⟨#[]⟩ : ByteArray)]) ?_ 2 _ rfl; (with_reducible repeat (first | refine blk_drewN ?_ _ | refine blk_drew ?_ | refine blk_alloc ?_ _)); refine blk_put (cs := #[.int .i64 (-1), .string (⟨#[]⟩ : ByteArray), .string (⟨#[]⟩ : ByteArray), .string (⟨#[]⟩ : ByteArray), .string (⟨#[]⟩ : ByteArray)]) ?_ 1 _ rfl; (with_reducible repeat (first | refine blk_drewN ?_ _ | refine blk_drew ?_ | refine blk_alloc ?_ _)); refine blk_put (cs := #[.int .i64 0, .string (⟨#[]⟩ : ByteArray), .string (⟨#[]⟩ : ByteArray), .string (⟨#[]⟩ : ByteArray), .string (⟨#[]⟩ : ByteArray)]) ?_ 0 _ rfl; (with_reducible repeat (first | refine blk_drewN ?_ _ | refine blk_drew ?_ | refine blk_alloc ?_ _)); exact BK40014.out⟩, ⟨by repeat (first | (with_reducible first | exact HB.out | apply below_alloc | apply pw_below_drewN | apply below_drew1 | refine below_set ?_ GE40001.out | refine below_set ?_ GE40014.out) | exact HB.out)⟩⟩
       case round =>
        clear H'
        try clear c1
        try clear p2
        try clear c3
        try clear c3b0
        try clear p4
        try clear q4
        try clear hx4
        try clear qi4
        try clear c5
        try clear c6
        try clear p6
        try clear c9
        try clear c9b0
        try clear c9b1
        try clear c11
        try clear c11b0
        try clear c11b1
        try clear c13
        try clear c13b0
        try clear c13b1
        try clear hcz8_0
        try clear hcz8_1
        try clear hcz8_2
        try clear hcz8_3
        try clear hcz8_4
        try clear hfz8_0
        try clear hfz8_1
        try clear hfz8_2
        try clear hfz8_3
        try clear hfz8_4
        try clear hx40008_0
        try clear hx40010_0
        try clear hx40012_0
        try clear p2
        try clear p40008
        try clear p40010
        try clear p40012
        try clear q40008
        try clear q40010
        try clear q40012
        obtain ⟨x10_2, x40015000_2, rfl, HA, HK2, HO_4, BK40001, BK40014, HB⟩ := hrel
        cases gk with
        | zero => exact absurd HA.out (by simp [dataflowref46_line.l1])
        | succ k2 =>
         have H := HA.out
         clear HA
         simp only [dataflowref46_line.l1] at H
         by_cases c24 : x10_2 ≤ 4
         ·rw [if_pos c24] at H
          have c24b0 : decide (x10_2 ≤ 4) = true := decide_eq_true c24
          clear c24
          replace H := Option.bind_eq_some_iff.mp H
          obtain ⟨t40015, A250, H⟩ := H
          replace H : (if 1 < (x4_1.length : Int) then (if t40015.toList = (rdOf ByteArray.empty x4_1 1).toList then (dataflowref46_line.l1 k2 x4_1 (wrap64 (x10_2 + 1)) x10_2 t40009 t40011 t40013 x0_1) else (dataflowref46_line.l1 k2 x4_1 (wrap64 (x10_2 + 1)) x40015000_2 t40009 t40011 t40013 x0_1)) else (none)) = some (r1, r2, r3, r4, r5, r6) := H
          have A25 := Aside0.mk A250
          clear A250
          by_cases c26 : 1 < (x4_1.length : Int)
          ·rw [if_pos c26] at H
           have c26b0 : decide (1 < (x4_1.length : Int)) = true := decide_eq_true c26
           have c26b1 : decide (1 < x4_1.length) = true := decide_eq_true (by omega)
           clear c26
           by_cases c27 : t40015.toList = (rdOf ByteArray.empty x4_1 1).toList
           ·rw [if_pos c27] at H
            have c27b0 : (t40015.toList == (rdOf ByteArray.empty x4_1 1).toList) = true := beq_iff_eq.mpr c27
            have c27b1 : (t40015.toList != (rdOf ByteArray.empty x4_1 1).toList) = false := bne_eq_false_iff_eq.mpr c27
            clear c27
            have H' := Aside0.mk H
            clear H
            try go_wp2
            have n0_ := Aside0.mk (Kd.R_drew HO_4.out)
            have n1_ := Aside0.mk (blk_drew BK40001.out)
            have n2_ := Aside0.mk (blk_drew BK40014.out)
            have n3_ := Aside0.mk (below_drew1 HB.out)
            clear HO_4
            clear BK40001
            clear BK40014
            clear HB
            have HO_4 := n0_
            have BK40001 := n1_
            have BK40014 := n2_
            have HB := n3_
            clear n0_ n1_ n2_ n3_
            have p40016 : 0 ≤ (1 : Int) := (by omega)
            have q40016 : 1 < (x4_1.length : Int) := of_decide_eq_true (by first | (with_reducible assumption) | assumption)
            obtain ⟨ad40016, e40016, hx40016_0⟩ := Kd.at_string (Kd.R_reads' HO_4.out).2.2 1 p40016 q40016
            obtain rfl : ad40008 = ad40016 := (by injection e40016)
            (try simp only [show (1 : Int).toNat = 1 from rfl, Nat.reduceMul, Nat.reduceEqDiff, Go.Addr.add, ↓reduceIte] at hx40016_0)
            have qi40016 : (1 < x4_1.length) = True := eq_true (by omega)
            (try rw [show ((1 : Int)).toNat = 1 from rfl] at hx40016_0)
            replace p40016 := eq_true p40016
            replace q40016 := eq_true q40016
            refine start_ (n := 6) (S := fun w' => w'.cell? ⟨ad40008.block, ad40008.off + 1, none⟩ = some (.string (rdOf ByteArray.empty x4_1 1))) (ds := []) #[false, false, false, false, false, false] (by kernel_rfl) rfl rfl (hx40016_0) (fun hHeld => ?_)
            generalize wr.drew = w28 at HO_4 BK40001 BK40014 HB hx40016_0 hHeld ⊢
            refine pure_ (i := 0) (N := some 47) (v := ?_) (a' := ?_) #[true, false, false, false, false, false] rfl rfl (by kernel_rfl) (fun _ _ _ h => h) (Or.inl ⟨by rfl, ?_⟩) ?_ ?_
            rotate_left
            ·intro w'
             go_simp
             with_reducible rfl
            rotate_left
            ·simp only [Act.put, List.setIfInBounds_toArray, List.set_cons_zero, List.set_cons_succ, i64_w, i32_w]
             rfl
            refine pure_ (i := 2) (N := some 49) (v := ?_) (a' := ?_) #[true, false, true, false, false, false] rfl rfl (by kernel_rfl) (fun _ _ _ h => h) (Or.inl ⟨by rfl, ?_⟩) ?_ ?_
            rotate_left
            ·intro w'
             go_simp
             with_reducible rfl
            rotate_left
            ·simp only [Act.put, List.setIfInBounds_toArray, List.set_cons_zero, List.set_cons_succ, i64_w, i32_w]
             rfl
            refine pure_ (i := 3) (N := some 50) (v := ?_) (a' := ?_) #[true, false, true, true, false, false] rfl rfl (by kernel_rfl) (fun _ _ _ h => h) (Or.inl ⟨by rfl, ?_⟩) ?_ ?_
            rotate_left
            ·intro w'
             go_simp
             with_reducible rfl
            rotate_left
            ·simp only [Act.put, List.setIfInBounds_toArray, List.set_cons_zero, List.set_cons_succ, i64_w, i32_w]
             rfl
            refine take_ (i := 4) (N := some 51) (v := ?_) (a' := ?_) #[true, false, true, true, true, false] rfl rfl (by kernel_rfl) (fun _ _ _ h => h) (Or.inl ⟨by rfl, ?_⟩) hHeld ?_ ?_
            rotate_left
            ·intro w' s0
             go_simp
             with_reducible rfl
            rotate_left
            ·simp only [Act.put, List.setIfInBounds_toArray, List.set_cons_zero, List.set_cons_succ, i64_w, i32_w]
             rfl
            refine one_ (i := 1) (N := some 48) #[true, true, true, true, true, false] rfl rfl (by kernel_rfl) (by decide) (fun K hK => ?_)
            refine goes_ Tryd.func33 (by kernel_rfl) rfl #[.int .i64 x10_2] (by rfl) rfl rfl (by (try simp only [List.map_toArray, List.map_cons, List.map_nil]); first | done | rfl | (simp only [List.length_drop, List.length_take]; rfl)) ?_
            with_reducible refine (dataflowref46_Kind.calls x10_2 t40015 _ A25.out).mono ?_
            rintro e w' ⟨rfl, ⟨nd, rfl⟩⟩
            refine ⟨_, rfl, ?_⟩
            refine hK.out _ _ (hHeld) (fun hHeld => ?_)
            clear hK K
            refine norm_ (a' := ?_) ?_ ?_
            rotate_left
            ·show Act.put _ (some 48) _ = _
             simp only [Act.put, List.setIfInBounds_toArray, List.set_cons_zero, List.set_cons_succ, i64_w, i32_w]
             rfl
            refine pure_ (i := 5) (N := some 52) (v := ?_) (a' := ?_) #[true, true, true, true, true, true] rfl rfl (by kernel_rfl) (fun _ _ _ h => h) (Or.inl ⟨by rfl, ?_⟩) ?_ ?_
            rotate_left
            ·intro w'
             go_simp
             with_reducible rfl
            rotate_left
            ·simp only [Act.put, List.setIfInBounds_toArray, List.set_cons_zero, List.set_cons_succ, i64_w, i32_w]
             rfl
            refine done_ (by kernel_rfl) ?_
            have hnb29 := NB40014_40001.out
            have hnc29 := NB40001_40014.out
            have hcz30_0 : w28.cell? ⟨gb40014, 0, none⟩ = some (.int .i64 x40015000_2) := (blk_cell BK40014.out 0).trans rfl
            have hcz30_1 : w28.cell? ⟨gb40014, 1, none⟩ = some (.string t40009) := (blk_cell BK40014.out 1).trans rfl
            have hcz30_2 : w28.cell? ⟨gb40014, 2, none⟩ = some (.string t40011) := (blk_cell BK40014.out 2).trans rfl
            have hcz30_3 : w28.cell? ⟨gb40014, 3, none⟩ = some (.string t40013) := (blk_cell BK40014.out 3).trans rfl
            have hcz30_4 : w28.cell? ⟨gb40014, 4, none⟩ = some (.string x0_1) := (blk_cell BK40014.out 4).trans rfl
            have hfz30_0 := blk_frozen BK40014.out 0
            have hfz30_1 := blk_frozen BK40014.out 1
            have hfz30_2 := blk_frozen BK40014.out 2
            have hfz30_3 := blk_frozen BK40014.out 3
            have hfz30_4 := blk_frozen BK40014.out 4
            try go_wp2
            go_roundg k2
            case measure => have := HK1.out; have := HK2.out; omega
            case rel => exact ⟨(wrap64 (x10_2 + 1)), (x10_2), (by first | rfl | (simp; done) | (simp [*]; done)), H', ⟨by have := HK1.out; have := HK2.out; omega⟩, ⟨by (with_reducible repeat (first | apply Kd.R_alloc | apply Kd.R_drewN | apply Kd.R_drew)); exact Kd.R_mono (Kd.R_far (p := ⟨gb40014, 0, none⟩) (Kd.R_types HO_4.out BK40014.out (by decide)) (fun _ hk => hk.2) (.int .i64 x10_2)) (fun _ hk => trivial)⟩, ⟨by (with_reducible repeat (first | refine blk_drewN ?_ _ | refine blk_drew ?_ | refine blk_alloc ?_ _)); refine blk_far ?_ NB40001_40014.out _; (with_reducible repeat (first | refine blk_drewN ?_ _ | refine blk_drew ?_ | refine blk_alloc ?_ _)); exact BK40001.out⟩, ⟨by (with_reducible repeat (first | refine blk_drewN ?_ _ | refine blk_drew ?_ | refine blk_alloc ?_ _)); refine blk_put (cs := #[.int .i64 x40015000_2, .string t40009, .string t40011, .string t40013, .string x0_1]) ?_ 0 _ rfl; (with_reducible repeat (first | refine blk_drewN ?_ _ | refine blk_drew ?_ | refine blk_alloc ?_ _)); exact BK40014.out⟩, ⟨by repeat (first | (with_reducible first | exact HB.out | apply below_alloc | apply pw_below_drewN | apply below_drew1 | refine below_set ?_ GE40001.out | refine below_set ?_ GE40014.out) | exact HB.out)⟩⟩
           ·rw [if_neg c27] at H
            have c27b0 : (t40015.toList == (rdOf ByteArray.empty x4_1 1).toList) = false := beq_eq_false_iff_ne.mpr c27
            have c27b1 : (t40015.toList != (rdOf ByteArray.empty x4_1 1).toList) = true := bne_iff_ne.mpr c27
            have H' := Aside0.mk H
            clear H
            try go_wp2
            have n0_ := Aside0.mk (Kd.R_drew HO_4.out)
            have n1_ := Aside0.mk (blk_drew BK40001.out)
            have n2_ := Aside0.mk (blk_drew BK40014.out)
            have n3_ := Aside0.mk (below_drew1 HB.out)
            clear HO_4
            clear BK40001
            clear BK40014
            clear HB
            have HO_4 := n0_
            have BK40001 := n1_
            have BK40014 := n2_
            have HB := n3_
            clear n0_ n1_ n2_ n3_
            have p40016 : 0 ≤ (1 : Int) := (by omega)
            have q40016 : 1 < (x4_1.length : Int) := of_decide_eq_true (by first | (with_reducible assumption) | assumption)
            obtain ⟨ad40016, e40016, hx40016_0⟩ := Kd.at_string (Kd.R_reads' HO_4.out).2.2 1 p40016 q40016
            obtain rfl : ad40008 = ad40016 := (by injection e40016)
            (try simp only [show (1 : Int).toNat = 1 from rfl, Nat.reduceMul, Nat.reduceEqDiff, Go.Addr.add, ↓reduceIte] at hx40016_0)
            have qi40016 : (1 < x4_1.length) = True := eq_true (by omega)
            (try rw [show ((1 : Int)).toNat = 1 from rfl] at hx40016_0)
            replace p40016 := eq_true p40016
            replace q40016 := eq_true q40016
            refine start_ (n := 6) (S := fun w' => w'.cell? ⟨ad40008.block, ad40008.off + 1, none⟩ = some (.string (rdOf ByteArray.empty x4_1 1))) (ds := []) #[false, false, false, false, false, false] (by kernel_rfl) rfl rfl (hx40016_0) (fun hHeld => ?_)
            generalize wr.drew = w31 at HO_4 BK40001 BK40014 HB hx40016_0 hHeld ⊢
            refine pure_ (i := 0) (N := some 47) (v := ?_) (a' := ?_) #[true, false, false, false, false, false] rfl rfl (by kernel_rfl) (fun _ _ _ h => h) (Or.inl ⟨by rfl, ?_⟩) ?_ ?_
            rotate_left
            ·intro w'
             go_simp
             with_reducible rfl
            rotate_left
            ·simp only [Act.put, List.setIfInBounds_toArray, List.set_cons_zero, List.set_cons_succ, i64_w, i32_w]
             rfl
            refine pure_ (i := 2) (N := some 49) (v := ?_) (a' := ?_) #[true, false, true, false, false, false] rfl rfl (by kernel_rfl) (fun _ _ _ h => h) (Or.inl ⟨by rfl, ?_⟩) ?_ ?_
            rotate_left
            ·intro w'
             go_simp
             with_reducible rfl
            rotate_left
            ·simp only [Act.put, List.setIfInBounds_toArray, List.set_cons_zero, List.set_cons_succ, i64_w, i32_w]
             rfl
            refine pure_ (i := 3) (N := some 50) (v := ?_) (a' := ?_) #[true, false, true, true, false, false] rfl rfl (by kernel_rfl) (fun _ _ _ h => h) (Or.inl ⟨by rfl, ?_⟩) ?_ ?_
            rotate_left
            ·intro w'
             go_simp
             with_reducible rfl
            rotate_left
            ·simp only [Act.put, List.setIfInBounds_toArray, List.set_cons_zero, List.set_cons_succ, i64_w, i32_w]
             rfl
            refine take_ (i := 4) (N := some 51) (v := ?_) (a' := ?_) #[true, false, true, true, true, false] rfl rfl (by kernel_rfl) (fun _ _ _ h => h) (Or.inl ⟨by rfl, ?_⟩) hHeld ?_ ?_
            rotate_left
            ·intro w' s0
             go_simp
             with_reducible rfl
            rotate_left
            ·simp only [Act.put, List.setIfInBounds_toArray, List.set_cons_zero, List.set_cons_succ, i64_w, i32_w]
             rfl
            refine one_ (i := 1) (N := some 48) #[true, true, true, true, true, false] rfl rfl (by kernel_rfl) (by decide) (fun K hK => ?_)
            refine goes_ Tryd.func33 (by kernel_rfl) rfl #[.int .i64 x10_2] (by rfl) rfl rfl (by (try simp only [List.map_toArray, List.map_cons, List.map_nil]); first | done | rfl | (simp only [List.length_drop, List.length_take]; rfl)) ?_
            with_reducible refine (dataflowref46_Kind.calls x10_2 t40015 _ A25.out).mono ?_
            rintro e w' ⟨rfl, ⟨nd, rfl⟩⟩
            refine ⟨_, rfl, ?_⟩
            refine hK.out _ _ (hHeld) (fun hHeld => ?_)
            clear hK K
            refine norm_ (a' := ?_) ?_ ?_
            rotate_left
            ·show Act.put _ (some 48) _ = _
             simp only [Act.put, List.setIfInBounds_toArray, List.set_cons_zero, List.set_cons_succ, i64_w, i32_w]
             rfl
            refine pure_ (i := 5) (N := some 52) (v := ?_) (a' := ?_) #[true, true, true, true, true, true] rfl rfl (by kernel_rfl) (fun _ _ _ h => h) (Or.inl ⟨by rfl, ?_⟩) ?_ ?_
            rotate_left
            ·intro w'
             go_simp
             with_reducible rfl
            rotate_left
            ·simp only [Act.put, List.setIfInBounds_toArray, List.set_cons_zero, List.set_cons_succ, i64_w, i32_w]
             rfl
            refine done_ (by kernel_rfl) ?_
            try go_wp2
            go_roundg k2
            case measure => have := HK1.out; have := HK2.out; omega
            case rel => exact ⟨(wrap64 (x10_2 + 1)), (x40015000_2), (by first | rfl | (simp; done) | (simp [*]; done)), H', ⟨by have := HK1.out; have := HK2.out; omega⟩, ⟨by (with_reducible repeat (first | apply Kd.R_alloc | apply Kd.R_drewN | apply Kd.R_drew)); exact HO_4.out⟩, ⟨by (with_reducible repeat (first | refine blk_drewN ?_ _ | refine blk_drew ?_ | refine blk_alloc ?_ _)); exact BK40001.out⟩, ⟨by (with_reducible repeat (first | refine blk_drewN ?_ _ | refine blk_drew ?_ | refine blk_alloc ?_ _)); exact BK40014.out⟩, ⟨by repeat (first | (with_reducible first | exact HB.out | apply below_alloc | apply pw_below_drewN | apply below_drew1 | refine below_set ?_ GE40001.out | refine below_set ?_ GE40014.out) | exact HB.out)⟩⟩
          ·rw [if_neg c26] at H
           exact absurd H (by simp)
         ·rw [if_neg c24] at H
          have c24b0 : decide (x10_2 ≤ 4) = false := decide_eq_false c24
          clear c24
          have HC32 := Aside0.mk H
          clear H
          go_upto_region 16 with (fail)
          go_cut [63] (fun v63 wc => ∃ (kq : Nat) (x63_31 : Bool), v63 = .bool x63_31 ∧ Aside0 (dataflowref46_line.j2 kq x4_1 x63_31 x40015000_2 t40009 t40011 t40013 x0_1 = some (r1, r2, r3, r4, r5, r6)) ∧ Aside0 (kq ≤ k2) ∧ Aside0 (Kd.R Kd.string 9 wc w.heap.size (fun _ => True) (.slice (some ad40008) x4_1.length co16) x4_1) ∧ Aside0 (wc.heap[gb40001]? = some (.cells #[.int .i64 x40002000_1, .string x40002001_1, .string x40002002_1, .string x40002003_1, .string x40002004_1] 23 (0, 0))) ∧ Aside0 (wc.heap[gb40014]? = some (.cells #[.int .i64 x40015000_2, .string t40009, .string t40011, .string t40013, .string x0_1] 23 (0, 0))) ∧ Aside0 (Below w.heap.size w wc))
          case first =>
           have H := HC32.out
           clear HC32
           by_cases c33 : 0 < (x4_1.length : Int)
           ·rw [if_pos c33] at H
            have c33b0 : decide (0 < (x4_1.length : Int)) = true := decide_eq_true c33
            have c33b1 : decide (0 < x4_1.length) = true := decide_eq_true (by omega)
            clear c33
            (first | rw [c33b0] | (simp only [i64_w, i32_w]; rw [c33b0]) | skip)
            by_cases c34 : (rdOf ByteArray.empty x4_1 0).toList = ([115, 117, 112, 112, 114, 101, 115, 115] : List UInt8)
            ·rw [if_pos c34] at H
             have c34b0 : ((rdOf ByteArray.empty x4_1 0).toList == ([115, 117, 112, 112, 114, 101, 115, 115] : List UInt8)) = true := beq_iff_eq.mpr c34
             have c34b1 : ((rdOf ByteArray.empty x4_1 0).toList != ([115, 117, 112, 112, 114, 101, 115, 115] : List UInt8)) = false := bne_eq_false_iff_eq.mpr c34
             clear c34
             have H' := Aside0.mk H
             clear H
             have p40017 : 0 ≤ (0 : Int) := (by omega)
             have q40017 : 0 < (x4_1.length : Int) := of_decide_eq_true (by first | (with_reducible assumption) | assumption)
             obtain ⟨ad40017, e40017, hx40017_0⟩ := Kd.at_string (Kd.R_reads' HO_4.out).2.2 0 p40017 q40017
             obtain rfl : ad40008 = ad40017 := (by injection e40017)
             have qi40017 : (0 < x4_1.length) = True := eq_true (by omega)
             (try rw [show ((0 : Int)).toNat = 0 from rfl] at hx40017_0)
             (try rw [Addr.add_zero'] at hx40017_0)
             replace p40017 := eq_true p40017
             replace q40017 := eq_true q40017
             have hnb35 := NB40014_40001.out
             have hnc35 := NB40001_40014.out
             have hcz36_0 : wr.cell? ⟨gb40014, 0, none⟩ = some (.int .i64 x40015000_2) := (blk_cell BK40014.out 0).trans rfl
             have hcz36_1 : wr.cell? ⟨gb40014, 1, none⟩ = some (.string t40009) := (blk_cell BK40014.out 1).trans rfl
             have hcz36_2 : wr.cell? ⟨gb40014, 2, none⟩ = some (.string t40011) := (blk_cell BK40014.out 2).trans rfl
             have hcz36_3 : wr.cell? ⟨gb40014, 3, none⟩ = some (.string t40013) := (blk_cell BK40014.out 3).trans rfl
             have hcz36_4 : wr.cell? ⟨gb40014, 4, none⟩ = some (.string x0_1) := (blk_cell BK40014.out 4).trans rfl
             have hfz36_0 := blk_frozen BK40014.out 0
             have hfz36_1 := blk_frozen BK40014.out 1
             have hfz36_2 := blk_frozen BK40014.out 2
             have hfz36_3 := blk_frozen BK40014.out 3
             have hfz36_4 := blk_frozen BK40014.out 4
             go_wp2
             go_meet
             case rel => exact ⟨_, (decide (x40015000_2 < 0)), (by first | rfl | (simp; done) | (simp [*]; done)), H', ⟨by have := HK1.out; have := HK2.out; first | omega | exact Nat.le_refl _⟩, ⟨by (with_reducible repeat (first | apply Kd.R_alloc | apply Kd.R_drewN | apply Kd.R_drew)); exact HO_4.out⟩, ⟨by (with_reducible repeat (first | refine blk_drewN ?_ _ | refine blk_drew ?_ | refine blk_alloc ?_ _)); exact BK40001.out⟩, ⟨by (with_reducible repeat (first | refine blk_drewN ?_ _ | refine blk_drew ?_ | refine blk_alloc ?_ _)); exact BK40014.out⟩, ⟨by repeat (first | (with_reducible first | exact HB.out | apply below_alloc | apply pw_below_drewN | apply below_drew1 | refine below_set ?_ GE40001.out | refine below_set ?_ GE40014.out) | exact HB.out)⟩⟩
            ·rw [if_neg c34] at H
             have c34b0 : ((rdOf ByteArray.empty x4_1 0).toList == ([115, 117, 112, 112, 114, 101, 115, 115] : List UInt8)) = false := beq_eq_false_iff_ne.mpr c34
             have c34b1 : ((rdOf ByteArray.empty x4_1 0).toList != ([115, 117, 112, 112, 114, 101, 115, 115] : List UInt8)) = true := bne_iff_ne.mpr c34
             have H' := Aside0.mk H
             clear H
             have p40017 : 0 ≤ (0 : Int) := (by omega)
             have q40017 : 0 < (x4_1.length : Int) := of_decide_eq_true (by first | (with_reducible assumption) | assumption)
             obtain ⟨ad40017, e40017, hx40017_0⟩ := Kd.at_string (Kd.R_reads' HO_4.out).2.2 0 p40017 q40017
             obtain rfl : ad40008 = ad40017 := (by injection e40017)
             have qi40017 : (0 < x4_1.length) = True := eq_true (by omega)
             (try rw [show ((0 : Int)).toNat = 0 from rfl] at hx40017_0)
             (try rw [Addr.add_zero'] at hx40017_0)
             replace p40017 := eq_true p40017
             replace q40017 := eq_true q40017
             go_wp2
             go_meet
             case rel => exact ⟨_, (true), (by first | rfl | (simp; done) | (simp [*]; done)), H', ⟨by have := HK1.out; have := HK2.out; first | omega | exact Nat.le_refl _⟩, ⟨by (with_reducible repeat (first | apply Kd.R_alloc | apply Kd.R_drewN | apply Kd.R_drew)); exact HO_4.out⟩, ⟨by (with_reducible repeat (first | refine blk_drewN ?_ _ | refine blk_drew ?_ | refine blk_alloc ?_ _)); exact BK40001.out⟩, ⟨by (with_reducible repeat (first | refine blk_drewN ?_ _ | refine blk_drew ?_ | refine blk_alloc ?_ _)); exact BK40014.out⟩, ⟨by repeat (first | (with_reducible first | exact HB.out | apply below_alloc | apply pw_below_drewN | apply below_drew1 | refine below_set ?_ GE40001.out | refine below_set ?_ GE40014.out) | exact HB.out)⟩⟩
           ·rw [if_neg c33] at H
            exact absurd H (by simp)
          case rest =>
           clear HC32
           try clear c1
           try clear c2
           try clear p2
           try clear c3
           try clear c3b0
           try clear p4
           try clear q4
           try clear hx4
           try clear qi4
           try clear c5
           try clear c6
           try clear p6
           try clear c9
           try clear c9b0
           try clear c9b1
           try clear c11
           try clear c11b0
           try clear c11b1
           try clear c13
           try clear c13b0
           try clear c13b1
           try clear c24
           try clear c24b0
           try clear c26
           try clear c26b0
           try clear c26b1
           try clear c27
           try clear c27b0
           try clear c27b1
           try clear c29
           try clear c33
           try clear c33b0
           try clear c33b1
           try clear c34
           try clear c34b0
           try clear c34b1
           try clear c35
           try clear hcz30_0
           try clear hcz30_1
           try clear hcz30_2
           try clear hcz30_3
           try clear hcz30_4
           try clear hcz36_0
           try clear hcz36_1
           try clear hcz36_2
           try clear hcz36_3
           try clear hcz36_4
           try clear hcz8_0
           try clear hcz8_1
           try clear hcz8_2
           try clear hcz8_3
           try clear hcz8_4
           try clear hfz30_0
           try clear hfz30_1
           try clear hfz30_2
           try clear hfz30_3
           try clear hfz30_4
           try clear hfz36_0
           try clear hfz36_1
           try clear hfz36_2
           try clear hfz36_3
           try clear hfz36_4
           try clear hfz8_0
           try clear hfz8_1
           try clear hfz8_2
           try clear hfz8_3
           try clear hfz8_4
           try clear hx40008_0
           try clear hx40010_0
           try clear hx40012_0
           try clear hx40016_0
           try clear hx40017_0
           try clear p2
           try clear p4
           try clear p40008
           try clear p40010
           try clear p40012
           try clear p40016
           try clear p40017
           try clear p6
           try clear q4
           try clear q40008
           try clear q40010
           try clear q40012
           try clear q40016
           try clear q40017
           obtain ⟨kq, x63_31, rfl, HA, HJ31, HO_4, BK40001, BK40014, HB⟩ := hcut
           cases kq with
           | zero => exact absurd HA.out (by simp [dataflowref46_line.j2])
           | succ kj31 =>
            have H := HA.out
            clear HA
            simp only [dataflowref46_line.j2] at H
            by_cases c37 : x63_31 = true
            ·subst c37
             have H1 : (some (0, (⟨#[]⟩ : ByteArray), (⟨#[]⟩ : ByteArray), (⟨#[]⟩ : ByteArray), (⟨#[]⟩ : ByteArray), 2)) = some (r1, r2, r3, r4, r5, r6) := by rw [if_pos rfl] at H; exact H
             clear H
             have H := H1
             clear H1
             simp only [Option.some.injEq, Prod.mk.injEq] at H
             obtain ⟨rfl, rfl, rfl, rfl, rfl, rfl⟩ := H
             have hnb38 := NB40001_40014.out
             have hnc38 := NB40014_40001.out
             have hcz39_0 : wc.cell? ⟨gb40001, 0, none⟩ = some (.int .i64 x40002000_1) := (blk_cell BK40001.out 0).trans rfl
             have hcz39_1 : wc.cell? ⟨gb40001, 1, none⟩ = some (.string x40002001_1) := (blk_cell BK40001.out 1).trans rfl
             have hcz39_2 : wc.cell? ⟨gb40001, 2, none⟩ = some (.string x40002002_1) := (blk_cell BK40001.out 2).trans rfl
             have hcz39_3 : wc.cell? ⟨gb40001, 3, none⟩ = some (.string x40002003_1) := (blk_cell BK40001.out 3).trans rfl
             have hcz39_4 : wc.cell? ⟨gb40001, 4, none⟩ = some (.string x40002004_1) := (blk_cell BK40001.out 4).trans rfl
             have hfz39_0 := blk_frozen BK40001.out 0
             have hfz39_1 := blk_frozen BK40001.out 1
             have hfz39_2 := blk_frozen BK40001.out 2
             have hfz39_3 := blk_frozen BK40001.out 3
             have hfz39_4 := blk_frozen BK40001.out 4
             go_wp2
             refine bodyPost_ret (results_ct rfl _ _ gb40001 23 #[.int .i64 0, .string (⟨#[]⟩ : ByteArray), .string (⟨#[]⟩ : ByteArray), .string (⟨#[]⟩ : ByteArray), .string (⟨#[]⟩ : ByteArray)] (0, 0) _ rfl (by (with_reducible repeat (first | refine blk_drewN ?_ _ | refine blk_drew ?_ | refine blk_alloc ?_ _)); refine blk_put (cs := #[.int .i64 0, .string (⟨#[]⟩ : ByteArray), .string (⟨#[]⟩ : ByteArray), .string (⟨#[]⟩ : ByteArray), .string x40002004_1]) ?_ 4 _ rfl; (with_reducible repeat (first | refine blk_drewN ?_ _ | refine blk_drew ?_ | refine blk_alloc ?_ _)); refine blk_put (cs := #[.int .i64 0, .string (⟨#[]⟩ : ByteArray), .string (⟨#[]⟩ : ByteArray), .string x40002003_1, .string x40002004_1]) ?_ 3 _ rfl; (with_reducible repeat (first | refine blk_drewN ?_ _ | refine blk_drew ?_ | refine blk_alloc ?_ _)); refine blk_put (cs := #[.int .i64 0, .string (⟨#[]⟩ : ByteArray), .string x40002002_1, .string x40002003_1, .string x40002004_1]) ?_ 2 _ rfl; (with_reducible repeat (first | refine blk_drewN ?_ _ | refine blk_drew ?_ | refine blk_alloc ?_ _)); refine blk_put (cs := #[.int .i64 0, .string x40002001_1, .string x40002002_1, .string x40002003_1, .string x40002004_1]) ?_ 1 _ rfl; (with_reducible repeat (first | refine blk_drewN ?_ _ | refine blk_drew ?_ | refine blk_alloc ?_ _)); refine blk_put (cs := #[.int .i64 x40002000_1, .string x40002001_1, .string x40002002_1, .string x40002003_1, .string x40002004_1]) ?_ 0 _ rfl; (with_reducible repeat (first | refine blk_drewN ?_ _ | refine blk_drew ?_ | refine blk_alloc ?_ _)); exact BK40001.out) Tryd.underlying23 rfl (by kernel_rfl)) rfl ?_
             exact ⟨by first | rfl | (simp [errW_none, errW_some] <;> rfl) | (simp [*, errW_none, errW_some] <;> rfl), by repeat (first | (with_reducible first | exact HB.out | apply below_alloc | apply pw_below_drewN | apply below_drew1 | refine below_set ?_ GE40001.out | refine below_set ?_ GE40014.out) | exact HB.out)⟩
            ·replace c37 := Bool.eq_false_iff.mpr c37
             subst c37
             have H1 : (if 2 < (x4_1.length : Int) then (if (rdOf ByteArray.empty x4_1 2).toList = ([] : List UInt8) then (some (0, (⟨#[]⟩ : ByteArray), (⟨#[]⟩ : ByteArray), (⟨#[]⟩ : ByteArray), (⟨#[]⟩ : ByteArray), 2)) else (if 3 < (x4_1.length : Int) then (if (rdOf ByteArray.empty x4_1 3).toList = ([] : List UInt8) then (some (0, (⟨#[]⟩ : ByteArray), (⟨#[]⟩ : ByteArray), (⟨#[]⟩ : ByteArray), (⟨#[]⟩ : ByteArray), 2)) else (if 4 < (x4_1.length : Int) then (if (rdOf ByteArray.empty x4_1 4).toList = ([] : List UInt8) then (some (0, (⟨#[]⟩ : ByteArray), (⟨#[]⟩ : ByteArray), (⟨#[]⟩ : ByteArray), (⟨#[]⟩ : ByteArray), 2)) else ((dataflowref46_Check.f kj31 x40015000_2 t40009 t40011 t40013 x0_1).bind fun t40021 => (some (x40015000_2, t40009, t40011, t40013, x0_1, t40021)))) else (none))) else (none))) else (none)) = some (r1, r2, r3, r4, r5, r6) := by rw [if_neg (show ¬ (false = true) by decide)] at H; exact H
             clear H
             have H := H1
             clear H1
             by_cases c40 : 2 < (x4_1.length : Int)
             ·rw [if_pos c40] at H
              have c40b0 : decide (2 < (x4_1.length : Int)) = true := decide_eq_true c40
              have c40b1 : decide (2 < x4_1.length) = true := decide_eq_true (by omega)
              clear c40
              by_cases c41 : (rdOf ByteArray.empty x4_1 2).toList = ([] : List UInt8)
              ·rw [if_pos c41] at H
               have c41b0 : ((rdOf ByteArray.empty x4_1 2).toList == ([] : List UInt8)) = true := beq_iff_eq.mpr c41
               have c41b1 : ((rdOf ByteArray.empty x4_1 2).toList != ([] : List UInt8)) = false := bne_eq_false_iff_eq.mpr c41
               clear c41
               simp only [Option.some.injEq, Prod.mk.injEq] at H
               obtain ⟨rfl, rfl, rfl, rfl, rfl, rfl⟩ := H
               have p40018 : 0 ≤ (2 : Int) := (by omega)
               have q40018 : 2 < (x4_1.length : Int) := of_decide_eq_true (by first | (with_reducible assumption) | assumption)
               obtain ⟨ad40018, e40018, hx40018_0⟩ := Kd.at_string (Kd.R_reads' HO_4.out).2.2 2 p40018 q40018
               obtain rfl : ad40008 = ad40018 := (by injection e40018)
               (try simp only [show (2 : Int).toNat = 2 from rfl, Nat.reduceMul, Nat.reduceEqDiff, Go.Addr.add, ↓reduceIte] at hx40018_0)
               have qi40018 : (2 < x4_1.length) = True := eq_true (by omega)
               (try rw [show ((2 : Int)).toNat = 2 from rfl] at hx40018_0)
               replace p40018 := eq_true p40018
               replace q40018 := eq_true q40018
               have hnb42 := NB40001_40014.out
               have hnc42 := NB40014_40001.out
               have hcz43_0 : wc.cell? ⟨gb40001, 0, none⟩ = some (.int .i64 x40002000_1) := (blk_cell BK40001.out 0).trans rfl
               have hcz43_1 : wc.cell? ⟨gb40001, 1, none⟩ = some (.string x40002001_1) := (blk_cell BK40001.out 1).trans rfl
               have hcz43_2 : wc.cell? ⟨gb40001, 2, none⟩ = some (.string x40002002_1) := (blk_cell BK40001.out 2).trans rfl
               have hcz43_3 : wc.cell? ⟨gb40001, 3, none⟩ = some (.string x40002003_1) := (blk_cell BK40001.out 3).trans rfl
               have hcz43_4 : wc.cell? ⟨gb40001, 4, none⟩ = some (.string x40002004_1) := (blk_cell BK40001.out 4).trans rfl
               have hfz43_0 := blk_frozen BK40001.out 0
               have hfz43_1 := blk_frozen BK40001.out 1
               have hfz43_2 := blk_frozen BK40001.out 2
               have hfz43_3 := blk_frozen BK40001.out 3
               have hfz43_4 := blk_frozen BK40001.out 4
               go_wp2
               refine bodyPost_ret (results_ct rfl _ _ gb40001 23 #[.int .i64 0, .string (⟨#[]⟩ : ByteArray), .string (⟨#[]⟩ : ByteArray), .string (⟨#[]⟩ : ByteArray), .string (⟨#[]⟩ : ByteArray)] (0, 0) _ rfl (by (with_reducible repeat (first | refine blk_drewN ?_ _ | refine blk_drew ?_ | refine blk_alloc ?_ _)); refine blk_put (cs := #[.int .i64 0, .string (⟨#[]⟩ : ByteArray), .string (⟨#[]⟩ : ByteArray), .string (⟨#[]⟩ : ByteArray), .string x40002004_1]) ?_ 4 _ rfl; (with_reducible repeat (first | refine blk_drewN ?_ _ | refine blk_drew ?_ | refine blk_alloc ?_ _)); refine blk_put (cs := #[.int .i64 0, .string (⟨#[]⟩ : ByteArray), .string (⟨#[]⟩ : ByteArray), .string x40002003_1, .string x40002004_1]) ?_ 3 _ rfl; (with_reducible repeat (first | refine blk_drewN ?_ _ | refine blk_drew ?_ | refine blk_alloc ?_ _)); refine blk_put (cs := #[.int .i64 0, .string (⟨#[]⟩ : ByteArray), .string x40002002_1, .string x40002003_1, .string x40002004_1]) ?_ 2 _ rfl; (with_reducible repeat (first | refine blk_drewN ?_ _ | refine blk_drew ?_ | refine blk_alloc ?_ _)); refine blk_put (cs := #[.int .i64 0, .string x40002001_1, .string x40002002_1, .string x40002003_1, .string x40002004_1]) ?_ 1 _ rfl; (with_reducible repeat (first | refine blk_drewN ?_ _ | refine blk_drew ?_ | refine blk_alloc ?_ _)); refine blk_put (cs := #[.int .i64 x40002000_1, .string x40002001_1, .string x40002002_1, .string x40002003_1, .string x40002004_1]) ?_ 0 _ rfl; (with_reducible repeat (first | refine blk_drewN ?_ _ | refine blk_drew ?_ | refine blk_alloc ?_ _)); exact BK40001.out) Tryd.underlying23 rfl (by kernel_rfl)) rfl ?_
               exact ⟨by first | rfl | (simp [errW_none, errW_some] <;> rfl) | (simp [*, errW_none, errW_some] <;> rfl), by repeat (first | (with_reducible first | exact HB.out | apply below_alloc | apply pw_below_drewN | apply below_drew1 | refine below_set ?_ GE40001.out | refine below_set ?_ GE40014.out) | exact HB.out)⟩
              ·rw [if_neg c41] at H
               have c41b0 : ((rdOf ByteArray.empty x4_1 2).toList == ([] : List UInt8)) = false := beq_eq_false_iff_ne.mpr c41
               have c41b1 : ((rdOf ByteArray.empty x4_1 2).toList != ([] : List UInt8)) = true := bne_iff_ne.mpr c41
               by_cases c44 : 3 < (x4_1.length : Int)
               ·rw [if_pos c44] at H
                have c44b0 : decide (3 < (x4_1.length : Int)) = true := decide_eq_true c44
                have c44b1 : decide (3 < x4_1.length) = true := decide_eq_true (by omega)
                clear c44
                by_cases c45 : (rdOf ByteArray.empty x4_1 3).toList = ([] : List UInt8)
                ·rw [if_pos c45] at H
                 have c45b0 : ((rdOf ByteArray.empty x4_1 3).toList == ([] : List UInt8)) = true := beq_iff_eq.mpr c45
                 have c45b1 : ((rdOf ByteArray.empty x4_1 3).toList != ([] : List UInt8)) = false := bne_eq_false_iff_eq.mpr c45
                 clear c45
                 simp only [Option.some.injEq, Prod.mk.injEq] at H
                 obtain ⟨rfl, rfl, rfl, rfl, rfl, rfl⟩ := H
                 have p40018 : 0 ≤ (2 : Int) := (by omega)
                 have q40018 : 2 < (x4_1.length : Int) := of_decide_eq_true (by first | (with_reducible assumption) | assumption)
                 obtain ⟨ad40018, e40018, hx40018_0⟩ := Kd.at_string (Kd.R_reads' HO_4.out).2.2 2 p40018 q40018
                 obtain rfl : ad40008 = ad40018 := (by injection e40018)
                 (try simp only [show (2 : Int).toNat = 2 from rfl, Nat.reduceMul, Nat.reduceEqDiff, Go.Addr.add, ↓reduceIte] at hx40018_0)
                 have qi40018 : (2 < x4_1.length) = True := eq_true (by omega)
                 (try rw [show ((2 : Int)).toNat = 2 from rfl] at hx40018_0)
                 replace p40018 := eq_true p40018
                 replace q40018 := eq_true q40018
                 have p40019 : 0 ≤ (3 : Int) := (by omega)
                 have q40019 : 3 < (x4_1.length : Int) := of_decide_eq_true (by first | (with_reducible assumption) | assumption)
                 obtain ⟨ad40019, e40019, hx40019_0⟩ := Kd.at_string (Kd.R_reads' HO_4.out).2.2 3 p40019 q40019
                 obtain rfl : ad40008 = ad40019 := (by injection e40019)
                 (try simp only [show (3 : Int).toNat = 3 from rfl, Nat.reduceMul, Nat.reduceEqDiff, Go.Addr.add, ↓reduceIte] at hx40019_0)
                 have qi40019 : (3 < x4_1.length) = True := eq_true (by omega)
                 (try rw [show ((3 : Int)).toNat = 3 from rfl] at hx40019_0)
                 replace p40019 := eq_true p40019
                 replace q40019 := eq_true q40019
                 have hnb46 := NB40001_40014.out
                 have hnc46 := NB40014_40001.out
                 have hcz47_0 : wc.cell? ⟨gb40001, 0, none⟩ = some (.int .i64 x40002000_1) := (blk_cell BK40001.out 0).trans rfl
                 have hcz47_1 : wc.cell? ⟨gb40001, 1, none⟩ = some (.string x40002001_1) := (blk_cell BK40001.out 1).trans rfl
                 have hcz47_2 : wc.cell? ⟨gb40001, 2, none⟩ = some (.string x40002002_1) := (blk_cell BK40001.out 2).trans rfl
                 have hcz47_3 : wc.cell? ⟨gb40001, 3, none⟩ = some (.string x40002003_1) := (blk_cell BK40001.out 3).trans rfl
                 have hcz47_4 : wc.cell? ⟨gb40001, 4, none⟩ = some (.string x40002004_1) := (blk_cell BK40001.out 4).trans rfl
                 have hfz47_0 := blk_frozen BK40001.out 0
                 have hfz47_1 := blk_frozen BK40001.out 1
                 have hfz47_2 := blk_frozen BK40001.out 2
                 have hfz47_3 := blk_frozen BK40001.out 3
                 have hfz47_4 := blk_frozen BK40001.out 4
                 go_wp2
                 refine bodyPost_ret (results_ct rfl _ _ gb40001 23 #[.int .i64 0, .string (⟨#[]⟩ : ByteArray), .string (⟨#[]⟩ : ByteArray), .string (⟨#[]⟩ : ByteArray), .string (⟨#[]⟩ : ByteArray)] (0, 0) _ rfl (by (with_reducible repeat (first | refine blk_drewN ?_ _ | refine blk_drew ?_ | refine blk_alloc ?_ _)); refine blk_put (cs := #[.int .i64 0, .string (⟨#[]⟩ : ByteArray), .string (⟨#[]⟩ : ByteArray), .string (⟨#[]⟩ : ByteArray), .string x40002004_1]) ?_ 4 _ rfl; (with_reducible repeat (first | refine blk_drewN ?_ _ | refine blk_drew ?_ | refine blk_alloc ?_ _)); refine blk_put (cs := #[.int .i64 0, .string (⟨#[]⟩ : ByteArray), .string (⟨#[]⟩ : ByteArray), .string x40002003_1, .string x40002004_1]) ?_ 3 _ rfl; (with_reducible repeat (first | refine blk_drewN ?_ _ | refine blk_drew ?_ | refine blk_alloc ?_ _)); refine blk_put (cs := #[.int .i64 0, .string (⟨#[]⟩ : ByteArray), .string x40002002_1, .string x40002003_1, .string x40002004_1]) ?_ 2 _ rfl; (with_reducible repeat (first | refine blk_drewN ?_ _ | refine blk_drew ?_ | refine blk_alloc ?_ _)); refine blk_put (cs := #[.int .i64 0, .string x40002001_1, .string x40002002_1, .string x40002003_1, .string x40002004_1]) ?_ 1 _ rfl; (with_reducible repeat (first | refine blk_drewN ?_ _ | refine blk_drew ?_ | refine blk_alloc ?_ _)); refine blk_put (cs := #[.int .i64 x40002000_1, .string x40002001_1, .string x40002002_1, .string x40002003_1, .string x40002004_1]) ?_ 0 _ rfl; (with_reducible repeat (first | refine blk_drewN ?_ _ | refine blk_drew ?_ | refine blk_alloc ?_ _)); exact BK40001.out) Tryd.underlying23 rfl (by kernel_rfl)) rfl ?_
                 exact ⟨by first | rfl | (simp [errW_none, errW_some] <;> rfl) | (simp [*, errW_none, errW_some] <;> rfl), by repeat (first | (with_reducible first | exact HB.out | apply below_alloc | apply pw_below_drewN | apply below_drew1 | refine below_set ?_ GE40001.out | refine below_set ?_ GE40014.out) | exact HB.out)⟩
                ·rw [if_neg c45] at H
                 have c45b0 : ((rdOf ByteArray.empty x4_1 3).toList == ([] : List UInt8)) = false := beq_eq_false_iff_ne.mpr c45
                 have c45b1 : ((rdOf ByteArray.empty x4_1 3).toList != ([] : List UInt8)) = true := bne_iff_ne.mpr c45
                 by_cases c48 : 4 < (x4_1.length : Int)
                 ·rw [if_pos c48] at H
                  have c48b0 : decide (4 < (x4_1.length : Int)) = true := decide_eq_true c48
                  have c48b1 : decide (4 < x4_1.length) = true := decide_eq_true (by omega)
                  clear c48
                  by_cases c49 : (rdOf ByteArray.empty x4_1 4).toList = ([] : List UInt8)
                  ·rw [if_pos c49] at H
                   have c49b0 : ((rdOf ByteArray.empty x4_1 4).toList == ([] : List UInt8)) = true := beq_iff_eq.mpr c49
                   have c49b1 : ((rdOf ByteArray.empty x4_1 4).toList != ([] : List UInt8)) = false := bne_eq_false_iff_eq.mpr c49
                   clear c49
                   simp only [Option.some.injEq, Prod.mk.injEq] at H
                   obtain ⟨rfl, rfl, rfl, rfl, rfl, rfl⟩ := H
                   have p40018 : 0 ≤ (2 : Int) := (by omega)
                   have q40018 : 2 < (x4_1.length : Int) := of_decide_eq_true (by first | (with_reducible assumption) | assumption)
                   obtain ⟨ad40018, e40018, hx40018_0⟩ := Kd.at_string (Kd.R_reads' HO_4.out).2.2 2 p40018 q40018
                   obtain rfl : ad40008 = ad40018 := (by injection e40018)
                   (try simp only [show (2 : Int).toNat = 2 from rfl, Nat.reduceMul, Nat.reduceEqDiff, Go.Addr.add, ↓reduceIte] at hx40018_0)
                   have qi40018 : (2 < x4_1.length) = True := eq_true (by omega)
                   (try rw [show ((2 : Int)).toNat = 2 from rfl] at hx40018_0)
                   replace p40018 := eq_true p40018
                   replace q40018 := eq_true q40018
                   have p40019 : 0 ≤ (3 : Int) := (by omega)
                   have q40019 : 3 < (x4_1.length : Int) := of_decide_eq_true (by first | (with_reducible assumption) | assumption)
                   obtain ⟨ad40019, e40019, hx40019_0⟩ := Kd.at_string (Kd.R_reads' HO_4.out).2.2 3 p40019 q40019
                   obtain rfl : ad40008 = ad40019 := (by injection e40019)
                   (try simp only [show (3 : Int).toNat = 3 from rfl, Nat.reduceMul, Nat.reduceEqDiff, Go.Addr.add, ↓reduceIte] at hx40019_0)
                   have qi40019 : (3 < x4_1.length) = True := eq_true (by omega)
                   (try rw [show ((3 : Int)).toNat = 3 from rfl] at hx40019_0)
                   replace p40019 := eq_true p40019
                   replace q40019 := eq_true q40019
                   have p40020 : 0 ≤ (4 : Int) := (by omega)
                   have q40020 : 4 < (x4_1.length : Int) := of_decide_eq_true (by first | (with_reducible assumption) | assumption)
                   obtain ⟨ad40020, e40020, hx40020_0⟩ := Kd.at_string (Kd.R_reads' HO_4.out).2.2 4 p40020 q40020
                   obtain rfl : ad40008 = ad40020 := (by injection e40020)
                   (try simp only [show (4 : Int).toNat = 4 from rfl, Nat.reduceMul, Nat.reduceEqDiff, Go.Addr.add, ↓reduceIte] at hx40020_0)
                   have qi40020 : (4 < x4_1.length) = True := eq_true (by omega)
                   (try rw [show ((4 : Int)).toNat = 4 from rfl] at hx40020_0)
                   replace p40020 := eq_true p40020
                   replace q40020 := eq_true q40020
                   have hnb50 := NB40001_40014.out
                   have hnc50 := NB40014_40001.out
                   have hcz51_0 : wc.cell? ⟨gb40001, 0, none⟩ = some (.int .i64 x40002000_1) := (blk_cell BK40001.out 0).trans rfl
                   have hcz51_1 : wc.cell? ⟨gb40001, 1, none⟩ = some (.string x40002001_1) := (blk_cell BK40001.out 1).trans rfl
                   have hcz51_2 : wc.cell? ⟨gb40001, 2, none⟩ = some (.string x40002002_1) := (blk_cell BK40001.out 2).trans rfl
                   have hcz51_3 : wc.cell? ⟨gb40001, 3, none⟩ = some (.string x40002003_1) := (blk_cell BK40001.out 3).trans rfl
                   have hcz51_4 : wc.cell? ⟨gb40001, 4, none⟩ = some (.string x40002004_1) := (blk_cell BK40001.out 4).trans rfl
                   have hfz51_0 := blk_frozen BK40001.out 0
                   have hfz51_1 := blk_frozen BK40001.out 1
                   have hfz51_2 := blk_frozen BK40001.out 2
                   have hfz51_3 := blk_frozen BK40001.out 3
                   have hfz51_4 := blk_frozen BK40001.out 4
                   go_wp2
                   refine bodyPost_ret (results_ct rfl _ _ gb40001 23 #[.int .i64 0, .string (⟨#[]⟩ : ByteArray), .string (⟨#[]⟩ : ByteArray), .string (⟨#[]⟩ : ByteArray), .string (⟨#[]⟩ : ByteArray)] (0, 0) _ rfl (by (with_reducible repeat (first | refine blk_drewN ?_ _ | refine blk_drew ?_ | refine blk_alloc ?_ _)); refine blk_put (cs := #[.int .i64 0, .string (⟨#[]⟩ : ByteArray), .string (⟨#[]⟩ : ByteArray), .string (⟨#[]⟩ : ByteArray), .string x40002004_1]) ?_ 4 _ rfl; (with_reducible repeat (first | refine blk_drewN ?_ _ | refine blk_drew ?_ | refine blk_alloc ?_ _)); refine blk_put (cs := #[.int .i64 0, .string (⟨#[]⟩ : ByteArray), .string (⟨#[]⟩ : ByteArray), .string x40002003_1, .string x40002004_1]) ?_ 3 _ rfl; (with_reducible repeat (first | refine blk_drewN ?_ _ | refine blk_drew ?_ | refine blk_alloc ?_ _)); refine blk_put (cs := #[.int .i64 0, .string (⟨#[]⟩ : ByteArray), .string x40002002_1, .string x40002003_1, .string x40002004_1]) ?_ 2 _ rfl; (with_reducible repeat (first | refine blk_drewN ?_ _ | refine blk_drew ?_ | refine blk_alloc ?_ _)); refine blk_put (cs := #[.int .i64 0, .string x40002001_1, .string x40002002_1, .string x40002003_1, .string x40002004_1]) ?_ 1 _ rfl; (with_reducible repeat (first | refine blk_drewN ?_ _ | refine blk_drew ?_ | refine blk_alloc ?_ _)); refine blk_put (cs := #[.int .i64 x40002000_1, .string x40002001_1, .string x40002002_1, .string x40002003_1, .string x40002004_1]) ?_ 0 _ rfl; (with_reducible repeat (first | refine blk_drewN ?_ _ | refine blk_drew ?_ | refine blk_alloc ?_ _)); exact BK40001.out) Tryd.underlying23 rfl (by kernel_rfl)) rfl ?_
                   exact ⟨by first | rfl | (simp [errW_none, errW_some] <;> rfl) | (simp [*, errW_none, errW_some] <;> rfl), by repeat (first | (with_reducible first | exact HB.out | apply below_alloc | apply pw_below_drewN | apply below_drew1 | refine below_set ?_ GE40001.out | refine below_set ?_ GE40014.out) | exact HB.out)⟩
                  ·rw [if_neg c49] at H
                   have c49b0 : ((rdOf ByteArray.empty x4_1 4).toList == ([] : List UInt8)) = false := beq_eq_false_iff_ne.mpr c49
                   have c49b1 : ((rdOf ByteArray.empty x4_1 4).toList != ([] : List UInt8)) = true := bne_iff_ne.mpr c49
                   replace H := Option.bind_eq_some_iff.mp H
                   obtain ⟨t40021, A520, H⟩ := H
                   replace H : (some (x40015000_2, t40009, t40011, t40013, x0_1, t40021)) = some (r1, r2, r3, r4, r5, r6) := H
                   have A52 := Aside0.mk A520
                   clear A520
                   simp only [Option.some.injEq, Prod.mk.injEq] at H
                   obtain ⟨rfl, rfl, rfl, rfl, rfl, rfl⟩ := H
                   have p40018 : 0 ≤ (2 : Int) := (by omega)
                   have q40018 : 2 < (x4_1.length : Int) := of_decide_eq_true (by first | (with_reducible assumption) | assumption)
                   obtain ⟨ad40018, e40018, hx40018_0⟩ := Kd.at_string (Kd.R_reads' HO_4.out).2.2 2 p40018 q40018
                   obtain rfl : ad40008 = ad40018 := (by injection e40018)
                   (try simp only [show (2 : Int).toNat = 2 from rfl, Nat.reduceMul, Nat.reduceEqDiff, Go.Addr.add, ↓reduceIte] at hx40018_0)
                   have qi40018 : (2 < x4_1.length) = True := eq_true (by omega)
                   (try rw [show ((2 : Int)).toNat = 2 from rfl] at hx40018_0)
                   replace p40018 := eq_true p40018
                   replace q40018 := eq_true q40018
                   have p40019 : 0 ≤ (3 : Int) := (by omega)
                   have q40019 : 3 < (x4_1.length : Int) := of_decide_eq_true (by first | (with_reducible assumption) | assumption)
                   obtain ⟨ad40019, e40019, hx40019_0⟩ := Kd.at_string (Kd.R_reads' HO_4.out).2.2 3 p40019 q40019
                   obtain rfl : ad40008 = ad40019 := (by injection e40019)
                   (try simp only [show (3 : Int).toNat = 3 from rfl, Nat.reduceMul, Nat.reduceEqDiff, Go.Addr.add, ↓reduceIte] at hx40019_0)
                   have qi40019 : (3 < x4_1.length) = True := eq_true (by omega)
                   (try rw [show ((3 : Int)).toNat = 3 from rfl] at hx40019_0)
                   replace p40019 := eq_true p40019
                   replace q40019 := eq_true q40019
                   have p40020 : 0 ≤ (4 : Int) := (by omega)
                   have q40020 : 4 < (x4_1.length : Int) := of_decide_eq_true (by first | (with_reducible assumption) | assumption)
                   obtain ⟨ad40020, e40020, hx40020_0⟩ := Kd.at_string (Kd.R_reads' HO_4.out).2.2 4 p40020 q40020
                   obtain rfl : ad40008 = ad40020 := (by injection e40020)
                   (try simp only [show (4 : Int).toNat = 4 from rfl, Nat.reduceMul, Nat.reduceEqDiff, Go.Addr.add, ↓reduceIte] at hx40020_0)
                   have qi40020 : (4 < x4_1.length) = True := eq_true (by omega)
                   (try rw [show ((4 : Int)).toNat = 4 from rfl] at hx40020_0)
                   replace p40020 := eq_true p40020
                   replace q40020 := eq_true q40020
                   try go_wp2
                   have n0_ := Aside0.mk (Kd.R_drew HO_4.out)
                   have n1_ := Aside0.mk (blk_drew BK40001.out)
                   have n2_ := Aside0.mk (blk_drew BK40014.out)
                   have n3_ := Aside0.mk (below_drew1 HB.out)
                   clear HO_4
                   clear BK40001
                   clear BK40014
                   clear HB
                   have HO_4 := n0_
                   have BK40001 := n1_
                   have BK40014 := n2_
                   have HB := n3_
                   clear n0_ n1_ n2_ n3_
                   refine start_ (n := 5) (S := fun w' => w'.cell? ⟨gb40014, 0, none⟩ = some (.int .i64 x40015000_2) ∧ w'.cell? ⟨gb40014, 1, none⟩ = some (.string t40009) ∧ w'.cell? ⟨gb40014, 2, none⟩ = some (.string t40011) ∧ w'.cell? ⟨gb40014, 3, none⟩ = some (.string t40013) ∧ w'.cell? ⟨gb40014, 4, none⟩ = some (.string x0_1)) (ds := []) #[false, false, false, false, false] (by kernel_rfl) rfl rfl ⟨(blk_cell BK40014.out 0).trans rfl, (blk_cell BK40014.out 1).trans rfl, (blk_cell BK40014.out 2).trans rfl, (blk_cell BK40014.out 3).trans rfl, (blk_cell BK40014.out 4).trans rfl⟩ (fun hHeld => ?_)
                   generalize wc.drew = w53 at HO_4 BK40001 BK40014 HB hHeld ⊢
                   refine take_ (i := 0) (N := some 82) (v := ?_) (a' := ?_) #[true, false, false, false, false] rfl rfl (by kernel_rfl) (fun _ _ _ h => h) (Or.inl ⟨by rfl, ?_⟩) hHeld ?_ ?_
                   rotate_left
                   ·rintro w' ⟨s0, s1, s2, s3, s4⟩
                    go_simp
                    with_reducible rfl
                   rotate_left
                   ·simp only [Act.put, List.setIfInBounds_toArray, List.set_cons_zero, List.set_cons_succ, i64_w, i32_w]
                    rfl
                   refine take_ (i := 1) (N := some 83) (v := ?_) (a' := ?_) #[true, true, false, false, false] rfl rfl (by kernel_rfl) (fun _ _ _ h => h) (Or.inl ⟨by rfl, ?_⟩) hHeld ?_ ?_
                   rotate_left
                   ·rintro w' ⟨s0, s1, s2, s3, s4⟩
                    go_simp
                    with_reducible rfl
                   rotate_left
                   ·simp only [Act.put, List.setIfInBounds_toArray, List.set_cons_zero, List.set_cons_succ, i64_w, i32_w]
                    rfl
                   refine one_ (i := 2) (N := some 84) #[true, true, true, false, false] rfl rfl (by kernel_rfl) (by decide) (fun K hK => ?_)
                   refine goes_ Tryd.func9 (by kernel_rfl) rfl #[.agg #[.int .i64 x40015000_2, .string t40009, .string t40011, .string t40013, .string x0_1]] (by rfl) rfl rfl (by (try simp only [List.map_toArray, List.map_cons, List.map_nil]); first | done | rfl | (simp only [List.length_drop, List.length_take]; rfl)) ?_
                   with_reducible refine (dataflowref46_Check.calls kj31 x40015000_2 t40009 t40011 t40013 x0_1 t40021 _ A52.out).mono ?_
                   rintro e w54 ⟨rfl, hb⟩
                   refine ⟨_, rfl, ?_⟩
                   have n0_ := Aside0.mk (Kd.R_below (by (with_reducible repeat (first | apply Kd.R_alloc | apply Kd.R_drewN | apply Kd.R_drew)); exact HO_4.out) hb)
                   have n1_ := Aside0.mk (blk_below (g := gb40001) (o := .cells #[.int .i64 x40002000_1, .string x40002001_1, .string x40002002_1, .string x40002003_1, .string x40002004_1] 23 (0, 0)) (by (with_reducible repeat (first | refine blk_drewN ?_ _ | refine blk_drew ?_ | refine blk_alloc ?_ _)); exact BK40001.out) hb)
                   have n2_ := Aside0.mk (blk_below (g := gb40014) (o := .cells #[.int .i64 x40015000_2, .string t40009, .string t40011, .string t40013, .string x0_1] 23 (0, 0)) (by (with_reducible repeat (first | refine blk_drewN ?_ _ | refine blk_drew ?_ | refine blk_alloc ?_ _)); exact BK40014.out) hb)
                   have n3_ := Aside0.mk (below_step (by repeat (first | (with_reducible first | exact HB.out | apply below_alloc | apply pw_below_drewN | apply below_drew1 | refine below_set ?_ GE40001.out | refine below_set ?_ GE40014.out) | exact HB.out)) hb)
                   clear HO_4
                   clear BK40001
                   clear BK40014
                   clear HB
                   have HO_4 := n0_
                   have BK40001 := n1_
                   have BK40014 := n2_
                   have HB := n3_
                   clear n0_ n1_ n2_ n3_
                   (try clear hb)
                   (try clear hb2)
                   (try clear hk)
                   (try clear hi)
                   refine hK.out _ _ ⟨(blk_cell BK40014.out 0).trans rfl, (blk_cell BK40014.out 1).trans rfl, (blk_cell BK40014.out 2).trans rfl, (blk_cell BK40014.out 3).trans rfl, (blk_cell BK40014.out 4).trans rfl⟩ (fun hHeld => ?_)
                   clear hK K
                   refine norm_ (a' := ?_) ?_ ?_
                   rotate_left
                   ·show Act.put _ (some 84) _ = _
                    simp only [Act.put, List.setIfInBounds_toArray, List.set_cons_zero, List.set_cons_succ, i64_w, i32_w]
                    rfl
                   refine one_ (i := 3) (N := none) #[true, true, true, true, false] rfl rfl (by kernel_rfl) (by decide) (fun K hK => ?_)
                   have hs55 : w54.cell? ⟨gb40001, 0, none⟩ = some (.int .i64 x40002000_1) := (blk_cell BK40001.out 0).trans rfl
                   have hfs55 := blk_frozen BK40001.out 0
                   have hns55_1 := NB40014_40001.out
                   have hms55_1 := NB40001_40014.out
                   have hs56 : w54.cell? ⟨gb40001, 1, none⟩ = some (.string x40002001_1) := (blk_cell BK40001.out 1).trans rfl
                   have hfs56 := blk_frozen BK40001.out 1
                   have hns56_1 := NB40014_40001.out
                   have hms56_1 := NB40001_40014.out
                   have hs57 : w54.cell? ⟨gb40001, 2, none⟩ = some (.string x40002002_1) := (blk_cell BK40001.out 2).trans rfl
                   have hfs57 := blk_frozen BK40001.out 2
                   have hns57_1 := NB40014_40001.out
                   have hms57_1 := NB40001_40014.out
                   have hs58 : w54.cell? ⟨gb40001, 3, none⟩ = some (.string x40002003_1) := (blk_cell BK40001.out 3).trans rfl
                   have hfs58 := blk_frozen BK40001.out 3
                   have hns58_1 := NB40014_40001.out
                   have hms58_1 := NB40001_40014.out
                   have hs59 : w54.cell? ⟨gb40001, 4, none⟩ = some (.string x40002004_1) := (blk_cell BK40001.out 4).trans rfl
                   have hfs59 := blk_frozen BK40001.out 4
                   have hns59_1 := NB40014_40001.out
                   have hms59_1 := NB40001_40014.out
                   refine skip_ (w1 := ?_) (by rfl) rfl ?_ ?_
                   rotate_left
                   ·go_simp
                    rfl
                   refine hK.out _ _ ⟨((cell_far (p := ⟨gb40001, _, none⟩) NB40014_40001.out _).trans (((cell_far (p := ⟨gb40001, _, none⟩) NB40014_40001.out _).trans (((cell_far (p := ⟨gb40001, _, none⟩) NB40014_40001.out _).trans (((cell_far (p := ⟨gb40001, _, none⟩) NB40014_40001.out _).trans (((cell_far (p := ⟨gb40001, _, none⟩) NB40014_40001.out _).trans (hHeld.1)))))))))), ((cell_far (p := ⟨gb40001, _, none⟩) NB40014_40001.out _).trans (((cell_far (p := ⟨gb40001, _, none⟩) NB40014_40001.out _).trans (((cell_far (p := ⟨gb40001, _, none⟩) NB40014_40001.out _).trans (((cell_far (p := ⟨gb40001, _, none⟩) NB40014_40001.out _).trans (((cell_far (p := ⟨gb40001, _, none⟩) NB40014_40001.out _).trans (hHeld.2.1)))))))))), ((cell_far (p := ⟨gb40001, _, none⟩) NB40014_40001.out _).trans (((cell_far (p := ⟨gb40001, _, none⟩) NB40014_40001.out _).trans (((cell_far (p := ⟨gb40001, _, none⟩) NB40014_40001.out _).trans (((cell_far (p := ⟨gb40001, _, none⟩) NB40014_40001.out _).trans (((cell_far (p := ⟨gb40001, _, none⟩) NB40014_40001.out _).trans (hHeld.2.2.1)))))))))), ((cell_far (p := ⟨gb40001, _, none⟩) NB40014_40001.out _).trans (((cell_far (p := ⟨gb40001, _, none⟩) NB40014_40001.out _).trans (((cell_far (p := ⟨gb40001, _, none⟩) NB40014_40001.out _).trans (((cell_far (p := ⟨gb40001, _, none⟩) NB40014_40001.out _).trans (((cell_far (p := ⟨gb40001, _, none⟩) NB40014_40001.out _).trans (hHeld.2.2.2.1)))))))))), ((cell_far (p := ⟨gb40001, _, none⟩) NB40014_40001.out _).trans (((cell_far (p := ⟨gb40001, _, none⟩) NB40014_40001.out _).trans (((cell_far (p := ⟨gb40001, _, none⟩) NB40014_40001.out _).trans (((cell_far (p := ⟨gb40001, _, none⟩) NB40014_40001.out _).trans (((cell_far (p := ⟨gb40001, _, none⟩) NB40014_40001.out _).trans (hHeld.2.2.2.2))))))))))⟩ (fun hHeld => ?_)
                   clear hK K
                   refine pure_ (i := 4) (N := some 3) (v := ?_) (a' := ?_) #[true, true, true, true, true] rfl rfl (by kernel_rfl) (fun _ _ _ h => h) (Or.inl ⟨by rfl, ?_⟩) ?_ ?_
                   rotate_left
                   ·intro w'
                    go_simp
                    with_reducible rfl
                   rotate_left
                   ·simp only [Act.put, List.setIfInBounds_toArray, List.set_cons_zero, List.set_cons_succ, i64_w, i32_w]
                    rfl
                   refine done_ (by kernel_rfl) ?_
                   try go_wp2
                   refine bodyPost_ret (results_ct rfl _ _ gb40001 23 #[.int .i64 x40015000_2, .string t40009, .string t40011, .string t40013, .string x0_1] (0, 0) _ rfl (by (with_reducible repeat (first | refine blk_drewN ?_ _ | refine blk_drew ?_ | refine blk_alloc ?_ _)); refine blk_put (cs := #[.int .i64 x40015000_2, .string t40009, .string t40011, .string t40013, .string x40002004_1]) ?_ 4 _ rfl; (with_reducible repeat (first | refine blk_drewN ?_ _ | refine blk_drew ?_ | refine blk_alloc ?_ _)); refine blk_put (cs := #[.int .i64 x40015000_2, .string t40009, .string t40011, .string x40002003_1, .string x40002004_1]) ?_ 3 _ rfl; (with_reducible repeat (first | refine blk_drewN ?_ _ | refine blk_drew ?_ | refine blk_alloc ?_ _)); refine blk_put (cs := #[.int .i64 x40015000_2, .string t40009, .string x40002002_1, .string x40002003_1, .string x40002004_1]) ?_ 2 _ rfl; (with_reducible repeat (first | refine blk_drewN ?_ _ | refine blk_drew ?_ | refine blk_alloc ?_ _)); refine blk_put (cs := #[.int .i64 x40015000_2, .string x40002001_1, .string x40002002_1, .string x40002003_1, .string x40002004_1]) ?_ 1 _ rfl; (with_reducible repeat (first | refine blk_drewN ?_ _ | refine blk_drew ?_ | refine blk_alloc ?_ _)); refine blk_put (cs := #[.int .i64 x40002000_1, .string x40002001_1, .string x40002002_1, .string x40002003_1, .string x40002004_1]) ?_ 0 _ rfl; (with_reducible repeat (first | refine blk_drewN ?_ _ | refine blk_drew ?_ | refine blk_alloc ?_ _)); exact BK40001.out) Tryd.underlying23 rfl (by kernel_rfl)) rfl ?_
                   exact ⟨by first | rfl | (simp [errW_none, errW_some] <;> rfl) | (simp [*, errW_none, errW_some] <;> rfl), by repeat (first | (with_reducible first | exact HB.out | apply below_alloc | apply pw_below_drewN | apply below_drew1 | refine below_set ?_ GE40001.out | refine below_set ?_ GE40014.out) | exact HB.out)⟩
                 ·rw [if_neg c48] at H
                  exact absurd H (by simp)
               ·rw [if_neg c44] at H
                exact absurd H (by simp)
             ·rw [if_neg c40] at H
              exact absurd H (by simp)
      ·rw [if_neg c13] at H
       exact absurd H (by simp)
     ·rw [if_neg c11] at H
      exact absurd H (by simp)
    ·rw [if_neg c9] at H
     exact absurd H (by simp)

end Go.Proofs.YtnoangbidnigdaaDoor.H

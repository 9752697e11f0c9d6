/- Printed by a program of this session (xprint.py, over the kit's printer): Go functions as Lean functions, each with the proof that the call does what the Lean function says. -/
import Derived.Test.YtnoangbidnigdaaDoorH0
import Derived.Test.YtnoangbidnigdaaDoorHf8
import Derived.Test.YtnoangbidnigdaaDoorHf31
import Derived.Test.YtnoangbidnigdaaDoorBld
namespace Go.Proofs.YtnoangbidnigdaaDoor.H
open Go.RowKit Go.Proofs.YtnoangbidnigdaaDoorW.PrintWords Go.Proofs.YtnoangbidnigdaaDoorW.PrintLast Go.Proofs.YtnoangbidnigdaaDoorW.PrintMore
attribute [local go_sem] max2_int min2_int max_two min_two max_three min_three max_four min_four   -- for this text's walks alone
attribute [local go_sem] xs_gtr xs_leq xs_geq
set_option linter.unusedVariables false
set_option linter.unusedSimpArgs false

/-! ### suppress_Text: function 13 -/
--EXT suppress_Text
def suppress_Text.T14 : Bool × List (List Nat × List Nat) := (true, [([], []), ([0], [0]), ([1], [1]), ([2], [2]), ([3], [3]), ([4], [4]), ([], []), ([6], [6]), ([7], [7]), ([5, 8], [5, 8]), ([9], [9]), ([], []), ([11], [11]), ([12, 8], [12]), ([10, 13], [10, 13]), ([14], [14]), ([], []), ([16], [16]), ([17, 13], [17]), ([15, 18], [15, 18]), ([19], [19]), ([], []), ([21], [21]), ([20, 22], [20, 22]), ([23], [23]), ([24, 18], [24])])
def suppress_Text.B14 : List Nat := [0, 1, 3, 7, 15, 31, 0, 64, 192, 511, 1023, 0, 2048, 6592, 16383, 32767, 0, 65536, 211392, 524287, 1048575, 0, 2097152, 8388607, 16777215, 33554431]
theorem suppress_Text.tab14 : rtab .any (opsOf Tryd.f13 14) = suppress_Text.T14 := by kernel_rfl
theorem suppress_Text.bits14 : waitsOk suppress_Text.T14.2 suppress_Text.B14 = true := by kernel_rfl
def starB (s : ByteArray) : ByteArray := if s.toList = ([] : List UInt8) then (⟨#[42]⟩ : ByteArray) else s
theorem star_eq (s : ByteArray) : suppress_star.f s = some (starB s) := by
  unfold suppress_star.f starB
  split <;> rfl
def wordB (kd : Int) : ByteArray := rdOf ByteArray.empty wordsL kd
/-- The line of a suppression. -/
def nLine (n : S23) : ByteArray := ((((((((((⟨#[115, 117, 112, 112, 114, 101, 115, 115, 32]⟩ : ByteArray) ++ wordB n.f0) ++ (⟨#[32]⟩ : ByteArray)) ++ starB n.f1) ++ (⟨#[32]⟩ : ByteArray)) ++ starB n.f2) ++ (⟨#[32]⟩ : ByteArray)) ++ starB n.f3) ++ (⟨#[32]⟩ : ByteArray)) ++ n.f4) ++ (⟨#[10]⟩ : ByteArray)
def nText : List S23 → ByteArray → ByteArray
  | [], acc => acc
  | n :: l, acc => nText l (acc ++ nLine n)
/-- The first error of the suppressions. -/
def txtChk (k : Nat) : List S23 → Option Int
  | [] => some 0
  | n :: l => (suppress_Check.f k n.f0 n.f1 n.f2 n.f3 n.f4).bind fun e => if e = 0 then txtChk k l else some e
theorem txtChk_mono : ∀ (l : List S23) (k : Nat), LeO (txtChk k l) (txtChk (k + 1) l)
  | [], k => LeO.refl _
  | n :: l, k => LeO.bind (suppress_Check.mono _ _ _ _ _ _) (fun e => LeO.ite (txtChk_mono l k) (LeO.refl _))
def txtOk (l : List S23) : Bool := l.all (fun n => decide (0 ≤ n.f0) && decide (n.f0 < 5)) && decide ((nText l (⟨#[]⟩ : ByteArray)).size ≤ 140737488355328)
def suppress_Text.f (k : Nat) (l0 : List (S23)) : Option (ByteArray × Int) :=
  if (l0.length : Int) > 200 then some ((⟨#[]⟩ : ByteArray), 3) else (txtChk k l0).bind fun e => if e = 0 then (if txtOk l0 = true then some (nText l0 (⟨#[]⟩ : ByteArray), 0) else none) else some ((⟨#[]⟩ : ByteArray), e)
theorem suppress_Text.mono : ∀ a0 k, LeO (suppress_Text.f k a0) (suppress_Text.f (k + 1) a0) := by
  intro a0 k
  unfold suppress_Text.f
  exact LeO.ite (LeO.refl _) (LeO.bind (txtChk_mono _ _) (fun _ => LeO.refl _))
theorem nText_size : ∀ (l : List S23) (acc : ByteArray), acc.size ≤ (nText l acc).size := by
  intro l
  induction l with
  | nil => intro acc; exact Nat.le_refl _
  | cons m l ih =>
    intro acc
    have := ih (acc ++ nLine m)
    have h2 : (acc ++ nLine m).size = acc.size + (nLine m).size := ByteArray.size_append
    unfold nText
    omega
theorem nLine_size (n : S23) : (nLine n).size = 9 + (wordB n.f0).size + 1 + (starB n.f1).size + 1 + (starB n.f2).size + 1 + (starB n.f3).size + 1 + n.f4.size + 1 := by
  unfold nLine
  simp only [ByteArray.size_append]
  rfl
theorem word_cell {w : World} (h : Gh w) (kd : Int) (h0 : 0 ≤ kd) (h1 : kd < 5) : w.cell? ⟨0, kd.toNat, none⟩ = some (.string (wordB kd)) := by
  obtain ⟨t, fr, e⟩ := h.wd
  have hlt : kd.toNat < wordsL.length := by have : wordsL.length = 5 := rfl; omega
  unfold wordB rdOf
  rw [List.getD_eq_getElem?_getD, List.getElem?_eq_getElem hlt]
  simp [World.cell?, e, List.getElem?_eq_getElem hlt]
set_option maxHeartbeats 8000000 in
set_option maxRecDepth 100000 in
theorem suppress_Text.calls (k : Nat) (A0 : Option Addr) (c0 : Nat) (l0 : List (S23)) (r1 : ByteArray) (r2 : Int) (w : World) (hr0 : Kd.C k23 w A0 l0.length l0) (hc0 : l0.length ≤ c0) (hgh : Gh w) (h : suppress_Text.f k l0 = some (r1, r2)) :
    Calls Tryd.prog 13 #[.slice A0 l0.length c0] w fun e w' => e = .returned (.tuple #[.string r1, .int .i64 r2]) ∧ Below w.heap.size w w' := by
  have hu23 := Tryd.underlying23
  have hu64 := Tryd.underlying64
  have HR := Aside0.mk hr0
  have HC := Aside0.mk hc0
  have HGH := Aside0.mk hgh
  clear hr0 hc0 hgh
  unfold suppress_Text.f at h
  by_cases hlen : (l0.length : Int) > 200
  · rw [if_pos hlen] at h
    simp only [Option.some.injEq, Prod.mk.injEq] at h
    obtain ⟨rfl, rfl⟩ := h
    have q1 : decide (200 < (l0.length : Int)) = true := decide_eq_true hlen
    have q2 : decide (200 < l0.length) = true := decide_eq_true (by omega)
    clear hlen
    have HB := Aside0.mk (Below.refl w.heap.size w)
    go_enter Tryd.func13, Tryd.ntmps13
    go_wp2
    go_ret2
    exact ⟨rfl, HB.out⟩
  · rw [if_neg hlen] at h
    have q1 : decide (200 < (l0.length : Int)) = false := decide_eq_false hlen
    have q2 : decide (200 < l0.length) = false := decide_eq_false (by omega)
    obtain ⟨e, hA, hB⟩ := Option.bind_eq_some_iff.mp h
    clear h
    have HLEN := Aside0.mk (show l0.length ≤ 200 by omega)
    have HA := Aside0.mk hA
    have HZ := Aside0.mk hB
    clear hlen hA hB
    go_enter Tryd.func13, Tryd.ntmps13
    go_wp2
    have BD3 := Aside0.mk (B.Bld.fresh w)
    have HB3 := Aside0.mk (below_alloc (Below.refl w.heap.size w) (.cells #[.pointer none, .slice none 0 0] 59 (0, 0)))
    go_loopw [15] (fun v15 wr => ∃ (i : Nat), v15 = .int .i64 i ∧ Aside0 (i ≤ l0.length ∧ txtChk k (l0.drop i) = some e) ∧ Aside0 (Below w.heap.size w wr) ∧ Aside0 (B.Bld w.heap.size w.heap.size (⟨#[]⟩ : ByteArray) wr)) (fun v15 _ => l0.length - (intOf v15).toNat)
    case atStart => exact ⟨0, rfl, ⟨⟨Nat.zero_le _, HA.out⟩⟩, HB3, BD3⟩
    case round =>
      clear BD3 HB3
      obtain ⟨i, rfl, HI, HBr, BDr⟩ := hrel
      by_cases hlt : i < l0.length
      · have hd := decide_eq_true (show (i : Int) < (l0.length : Int) by omega)
        have hd2 := decide_eq_true hlt
        have HL := Aside0.mk hlt
        obtain ⟨am, eA, hy0, hy1, hy2, hy3, hy4⟩ := at_T23 HR.out (i : Int) (by omega) (by omega)
        subst eA
        replace hy0 := (HBr.out.cell (World.block_lt_of_cell? w _ hy0)).trans hy0
        replace hy1 := (HBr.out.cell (World.block_lt_of_cell? w _ hy1)).trans hy1
        replace hy2 := (HBr.out.cell (World.block_lt_of_cell? w _ hy2)).trans hy2
        replace hy3 := (HBr.out.cell (World.block_lt_of_cell? w _ hy3)).trans hy3
        replace hy4 := (HBr.out.cell (World.block_lt_of_cell? w _ hy4)).trans hy4
        have p5 := eq_true (show (0 : Int) ≤ (i : Int) by omega)
        have p6 := eq_true (show (i : Int) < (l0.length : Int) by omega)
        have hdrop := List.drop_eq_getElem_cons hlt
        have hm : l0[i] = rd_T23 l0 (i : Int) := by unfold rd_T23; rw [Int.toNat_natCast, List.getD_eq_getElem?_getD, List.getElem?_eq_getElem hlt]; rfl
        rw [hm] at hdrop
        have hT := HI.out.2
        rw [hdrop] at hT
        obtain ⟨⟨m0, m1, m2, m3, m4⟩, hmm⟩ : ∃ m, rd_T23 l0 (i : Int) = m := ⟨_, rfl⟩
        rw [hmm] at hy0 hy1 hy2 hy3 hy4 hT
        clear hmm hm hdrop hlt
        simp only [Int.toNat_natCast] at hy0 hy1 hy2 hy3 hy4
        obtain ⟨ei, hC, hN⟩ := Option.bind_eq_some_iff.mp (show (suppress_Check.f k m0 m1 m2 m3 m4).bind (fun e => if e = 0 then txtChk k (l0.drop (i + 1)) else some e) = some e from hT)
        have A1 := Aside0.mk hC
        clear hT hC
        have hbl := Aside0.mk (below_alloc (Below.refl wr.heap.size wr) (.cells #[.int .i64 m0, .string m1, .string m2, .string m3, .string m4] 23 (0, 0)))
        by_cases h0 : ei = 0
        · subst h0
          rw [if_pos rfl] at hN
          have HN := Aside0.mk hN
          clear hN
          have wnext : wrap64 ((i : Int) + 1) = ((i + 1 : Nat) : Int) := by have := HL.out; have := HLEN.out; unfold wrap64; omega
          go_wp2_with (first | (go_at_call 8; (with_reducible refine (suppress_Check.calls k m0 m1 m2 m3 m4 0 _ ?s1 A1.out).mono ?_); (case s1 => exact Gh.below HGH.out (below_step HBr.out hbl.out)); rintro e w5 ⟨rfl, hb⟩; have HB5 := Aside0.mk (below_step (below_step HBr.out hbl.out) hb); have BD5 := Aside0.mk ((BDr.out.below hbl.out).below hb); clear hb))
          go_roundw
          case rel => exact ⟨i + 1, by rw [wnext], ⟨⟨by have := HL.out; omega, HN.out⟩⟩, HB5, BD5⟩
          case measure => have := HL.out; rw [wnext]; simp [intOf]; omega
        · rw [if_neg h0] at hN
          obtain rfl := Option.some.inj hN
          have hz := HZ.out
          rw [if_neg h0] at hz
          simp only [Option.some.injEq, Prod.mk.injEq] at hz
          obtain ⟨rfl, rfl⟩ := hz
          have hne : (ei == 0) = false := beq_eq_false_iff_ne.2 h0
          have hne2 : (ei != 0) = true := bne_iff_ne.2 h0
          clear h0 hN
          go_wp2_with (first | (go_at_call 8; (with_reducible refine (suppress_Check.calls k m0 m1 m2 m3 m4 ei _ ?s1 A1.out).mono ?_); (case s1 => exact Gh.below HGH.out (below_step HBr.out hbl.out)); rintro e w5 ⟨rfl, hb⟩; have HB5 := Aside0.mk (below_step (below_step HBr.out hbl.out) hb); clear hb))
          go_ret2
          exact ⟨rfl, HB5.out⟩
      · obtain rfl : i = l0.length := by have := HI.out.1; omega
        have hd := decide_eq_false (show ¬ (l0.length : Int) < (l0.length : Int) by omega)
        have hd2 := decide_eq_false (show ¬ l0.length < l0.length by omega)
        have hE := HI.out.2
        rw [List.drop_length] at hE
        obtain rfl : (0 : Int) = e := Option.some.inj hE
        have hz := HZ.out
        rw [if_pos rfl] at hz
        split at hz
        · rename_i hok
          simp only [Option.some.injEq, Prod.mk.injEq] at hz
          obtain ⟨rfl, rfl⟩ := hz
          unfold txtOk at hok
          simp only [Bool.and_eq_true, decide_eq_true_eq, List.all_eq_true] at hok
          have HO := Aside0.mk hok
          clear hok hE HI
          go_wp2
          clear hd hd2
          go_loopw [27] (fun v27 ws => ∃ (i : Nat) (acc : ByteArray), v27 = .int .i64 i ∧ Aside0 (i ≤ l0.length ∧ nText (l0.drop i) acc = nText l0 (⟨#[]⟩ : ByteArray)) ∧ Aside0 (Below w.heap.size w ws) ∧ Aside0 (B.Bld w.heap.size w.heap.size acc ws)) (fun v27 _ => l0.length - (intOf v27).toNat)
          case atStart => exact ⟨0, _, rfl, ⟨⟨Nat.zero_le _, rfl⟩⟩, HBr, BDr⟩
          case round =>
            clear BDr HBr
            obtain ⟨i, acc, rfl, HI, HBr, BDr⟩ := hrel
            by_cases hlt : i < l0.length
            · have hd := decide_eq_true (show (i : Int) < (l0.length : Int) by omega)
              have hd2 := decide_eq_true hlt
              have HL := Aside0.mk hlt
              obtain ⟨am, eA, hy0, hy1, hy2, hy3, hy4⟩ := at_T23 HR.out (i : Int) (by omega) (by omega)
              subst eA
              replace hy0 := (HBr.out.cell (World.block_lt_of_cell? w _ hy0)).trans hy0
              replace hy1 := (HBr.out.cell (World.block_lt_of_cell? w _ hy1)).trans hy1
              replace hy2 := (HBr.out.cell (World.block_lt_of_cell? w _ hy2)).trans hy2
              replace hy3 := (HBr.out.cell (World.block_lt_of_cell? w _ hy3)).trans hy3
              replace hy4 := (HBr.out.cell (World.block_lt_of_cell? w _ hy4)).trans hy4
              have p5 := eq_true (show (0 : Int) ≤ (i : Int) by omega)
              have p6 := eq_true (show (i : Int) < (l0.length : Int) by omega)
              have hdrop := Aside0.mk (List.drop_eq_getElem_cons hlt)
              have hm : l0[i] = rd_T23 l0 (i : Int) := by unfold rd_T23; rw [Int.toNat_natCast, List.getD_eq_getElem?_getD, List.getElem?_eq_getElem hlt]; rfl
              rw [hm] at hdrop
              have hmem := HO.out.1 _ (List.getElem_mem hlt)
              rw [hm] at hmem
              have HM := Aside0.mk hmem
              clear hlt hm hmem
              obtain ⟨⟨m0, m1, m2, m3, m4⟩, hmm⟩ : ∃ m, rd_T23 l0 (i : Int) = m := ⟨_, rfl⟩
              rw [hmm] at hy0 hy1 hy2 hy3 hy4 hdrop HM
              clear hmm
              simp only [Int.toNat_natCast] at hy0 hy1 hy2 hy3 hy4
              go_wp2
              have hq := HM.out
              have q0 := eq_true hq.1
              have q5 := eq_true hq.2
              have HLE := Aside0.mk (show acc.size + (9 + (wordB m0).size + 1 + (starB m1).size + 1 + (starB m2).size + 1 + (starB m3).size + 1 + m4.size + 1) ≤ 140737488355328 by
                have h1 := HO.out.2
                rw [← HI.out.2, hdrop.out] at h1
                have h2 := nText_size (l0.drop (i + 1)) (acc ++ nLine ⟨m0, m1, m2, m3, m4⟩)
                rw [ByteArray.size_append, nLine_size] at h2
                unfold nText at h1
                simp only at h2
                omega)
              have hle := HLE.out
              have hbl := below_alloc (Below.refl wr.heap.size wr) (.cells #[.int .i64 m0, .string m1, .string m2, .string m3, .string m4] 23 (0, 0))
              have BM9 := Aside0.mk (blk_drew (blk_new wr (.cells #[.int .i64 m0, .string m1, .string m2, .string m3, .string m4] 23 (0, 0))))
              have HB9 := Aside0.mk (below_drew1 (below_step HBr.out hbl))
              have BD9 := Aside0.mk (BDr.out.below hbl).drew
              have GM := Aside0.mk (show w.heap.size < wr.heap.size from BDr.out.lt)
              have WC := Aside0.mk (word_cell HGH.out m0 hq.1 hq.2)
              clear hbl hq hy0 hy1 hy2 hy3 hy4 HBr BDr
              have hs1 : (9223372036854775807 < 9 + (wordB m0).size) = False := eq_false (by omega)
              have hs2 : (9223372036854775807 < 9 + (wordB m0).size + 1) = False := eq_false (by omega)
              have hs3 : (9223372036854775807 < 9 + (wordB m0).size + 1 + (starB m1).size) = False := eq_false (by omega)
              have hs4 : (9223372036854775807 < 9 + (wordB m0).size + 1 + (starB m1).size + 1) = False := eq_false (by omega)
              have hs5 : (9223372036854775807 < 9 + (wordB m0).size + 1 + (starB m1).size + 1 + (starB m2).size) = False := eq_false (by omega)
              have hs6 : (9223372036854775807 < 9 + (wordB m0).size + 1 + (starB m1).size + 1 + (starB m2).size + 1) = False := eq_false (by omega)
              have hs7 : (9223372036854775807 < 9 + (wordB m0).size + 1 + (starB m1).size + 1 + (starB m2).size + 1 + (starB m3).size) = False := eq_false (by omega)
              have hs8 : (9223372036854775807 < 9 + (wordB m0).size + 1 + (starB m1).size + 1 + (starB m2).size + 1 + (starB m3).size + 1) = False := eq_false (by omega)
              have hs9 : (9223372036854775807 < 9 + (wordB m0).size + 1 + (starB m1).size + 1 + (starB m2).size + 1 + (starB m3).size + 1 + m4.size) = False := eq_false (by omega)
              have hs10 : (9223372036854775807 < 9 + (wordB m0).size + 1 + (starB m1).size + 1 + (starB m2).size + 1 + (starB m3).size + 1 + m4.size + 1) = False := eq_false (by omega)
              clear hle
              generalize wr.alloc (.cells #[.int .i64 m0, .string m1, .string m2, .string m3, .string m4] 23 (0, 0)) = w9 at BM9 HB9 BD9 ⊢
              refine start_ (n := 26) (S := fun w' => w'.cell? ⟨wr.heap.size, 0, none⟩ = some (.int .i64 m0) ∧ w'.cell? ⟨wr.heap.size, 1, none⟩ = some (.string m1) ∧ w'.cell? ⟨wr.heap.size, 2, none⟩ = some (.string m2) ∧ w'.cell? ⟨wr.heap.size, 3, none⟩ = some (.string m3) ∧ w'.cell? ⟨wr.heap.size, 4, none⟩ = some (.string m4) ∧ w'.cell? ⟨0, m0.toNat, none⟩ = some (.string (wordB m0))) (ds := []) #[false, false, false, false, false, false, false, false, false, false, false, false, false, false, false, false, false, false, false, false, false, false, false, false, false, false] (by kernel_rfl) rfl rfl ⟨(blk_cell BM9.out 0).trans rfl, (blk_cell BM9.out 1).trans rfl, (blk_cell BM9.out 2).trans rfl, (blk_cell BM9.out 3).trans rfl, (blk_cell BM9.out 4).trans rfl, (HB9.out.cell (World.block_lt_of_cell? w _ WC.out)).trans WC.out⟩ (fun hHeld => ?_)
              refine with_tabW suppress_Text.tab14 suppress_Text.bits14 (fun HT_ HW_ => ?_)
              generalize w9.drew = wa at BM9 HB9 BD9 hHeld ⊢
              refine pure_ (i := 0) (N := some 31) (v := ?_) (a' := ?_) #[true, false, false, false, false, false, false, false, false, false, false, false, false, false, false, false, false, false, false, false, false, false, false, false, false, false] rfl rfl (any_of HT_.out (by kernel_rfl)) (fun _ _ _ h => h) (Or.inl ⟨by rfl, ?_⟩) ?_ ?_
              rotate_left
              · intro w'
                go_simp
                with_reducible rfl
              rotate_left
              · simp only [Act.put, List.setIfInBounds_toArray, List.set_cons_zero, List.set_cons_succ, i64_w, i32_w]
                rfl
              refine pure_ (i := 6) (N := some 37) (v := ?_) (a' := ?_) #[true, false, false, false, false, false, true, false, false, false, false, false, false, false, false, false, false, false, false, false, false, false, false, false, false, false] rfl rfl (any_of HT_.out (by kernel_rfl)) (fun _ _ _ h => h) (Or.inl ⟨by rfl, ?_⟩) ?_ ?_
              rotate_left
              · intro w'
                go_simp
                with_reducible rfl
              rotate_left
              · simp only [Act.put, List.setIfInBounds_toArray, List.set_cons_zero, List.set_cons_succ, i64_w, i32_w]
                rfl
              refine pure_ (i := 11) (N := some 42) (v := ?_) (a' := ?_) #[true, false, false, false, false, false, true, false, false, false, false, true, false, false, false, false, false, false, false, false, false, false, false, false, false, false] rfl rfl (any_of HT_.out (by kernel_rfl)) (fun _ _ _ h => h) (Or.inl ⟨by rfl, ?_⟩) ?_ ?_
              rotate_left
              · intro w'
                go_simp
                with_reducible rfl
              rotate_left
              · simp only [Act.put, List.setIfInBounds_toArray, List.set_cons_zero, List.set_cons_succ, i64_w, i32_w]
                rfl
              refine pure_ (i := 16) (N := some 47) (v := ?_) (a' := ?_) #[true, false, false, false, false, false, true, false, false, false, false, true, false, false, false, false, true, false, false, false, false, false, false, false, false, false] rfl rfl (any_of HT_.out (by kernel_rfl)) (fun _ _ _ h => h) (Or.inl ⟨by rfl, ?_⟩) ?_ ?_
              rotate_left
              · intro w'
                go_simp
                with_reducible rfl
              rotate_left
              · simp only [Act.put, List.setIfInBounds_toArray, List.set_cons_zero, List.set_cons_succ, i64_w, i32_w]
                rfl
              refine pure_ (i := 21) (N := some 52) (v := ?_) (a' := ?_) #[true, false, false, false, false, false, true, false, false, false, false, true, false, false, false, false, true, false, false, false, false, true, false, false, false, false] rfl rfl (any_of HT_.out (by kernel_rfl)) (fun _ _ _ h => h) (Or.inl ⟨by rfl, ?_⟩) ?_ ?_
              rotate_left
              · intro w'
                go_simp
                with_reducible rfl
              rotate_left
              · simp only [Act.put, List.setIfInBounds_toArray, List.set_cons_zero, List.set_cons_succ, i64_w, i32_w]
                rfl
              refine take_ (i := 1) (N := some 32) (v := ?_) (a' := ?_) #[true, true, false, false, false, false, true, false, false, false, false, true, false, false, false, false, true, false, false, false, false, true, false, false, false, false] rfl rfl (take_ofW HT_.out HW_.out (by kernel_rfl)) (fun _ _ _ h => h) (Or.inl ⟨by rfl, ?_⟩) hHeld ?_ ?_
              rotate_left
              · rintro w' ⟨s0, s1, s2, s3, s4, s5⟩
                go_simp
                with_reducible rfl
              rotate_left
              · simp only [Act.put, List.setIfInBounds_toArray, List.set_cons_zero, List.set_cons_succ, i64_w, i32_w]
                rfl
              refine take_ (i := 7) (N := some 38) (v := ?_) (a' := ?_) #[true, true, false, false, false, false, true, true, false, false, false, true, false, false, false, false, true, false, false, false, false, true, false, false, false, false] rfl rfl (take_ofW HT_.out HW_.out (by kernel_rfl)) (fun _ _ _ h => h) (Or.inl ⟨by rfl, ?_⟩) hHeld ?_ ?_
              rotate_left
              · rintro w' ⟨s0, s1, s2, s3, s4, s5⟩
                go_simp
                with_reducible rfl
              rotate_left
              · simp only [Act.put, List.setIfInBounds_toArray, List.set_cons_zero, List.set_cons_succ, i64_w, i32_w]
                rfl
              refine take_ (i := 12) (N := some 43) (v := ?_) (a' := ?_) #[true, true, false, false, false, false, true, true, false, false, false, true, true, false, false, false, true, false, false, false, false, true, false, false, false, false] rfl rfl (take_ofW HT_.out HW_.out (by kernel_rfl)) (fun _ _ _ h => h) (Or.inl ⟨by rfl, ?_⟩) hHeld ?_ ?_
              rotate_left
              · rintro w' ⟨s0, s1, s2, s3, s4, s5⟩
                go_simp
                with_reducible rfl
              rotate_left
              · simp only [Act.put, List.setIfInBounds_toArray, List.set_cons_zero, List.set_cons_succ, i64_w, i32_w]
                rfl
              refine take_ (i := 17) (N := some 48) (v := ?_) (a' := ?_) #[true, true, false, false, false, false, true, true, false, false, false, true, true, false, false, false, true, true, false, false, false, true, false, false, false, false] rfl rfl (take_ofW HT_.out HW_.out (by kernel_rfl)) (fun _ _ _ h => h) (Or.inl ⟨by rfl, ?_⟩) hHeld ?_ ?_
              rotate_left
              · rintro w' ⟨s0, s1, s2, s3, s4, s5⟩
                go_simp
                with_reducible rfl
              rotate_left
              · simp only [Act.put, List.setIfInBounds_toArray, List.set_cons_zero, List.set_cons_succ, i64_w, i32_w]
                rfl
              refine take_ (i := 22) (N := some 53) (v := ?_) (a' := ?_) #[true, true, false, false, false, false, true, true, false, false, false, true, true, false, false, false, true, true, false, false, false, true, true, false, false, false] rfl rfl (take_ofW HT_.out HW_.out (by kernel_rfl)) (fun _ _ _ h => h) (Or.inl ⟨by rfl, ?_⟩) hHeld ?_ ?_
              rotate_left
              · rintro w' ⟨s0, s1, s2, s3, s4, s5⟩
                go_simp
                with_reducible rfl
              rotate_left
              · simp only [Act.put, List.setIfInBounds_toArray, List.set_cons_zero, List.set_cons_succ, i64_w, i32_w]
                rfl
              refine pure_ (i := 2) (N := some 33) (v := ?_) (a' := ?_) #[true, true, true, false, false, false, true, true, false, false, false, true, true, false, false, false, true, true, false, false, false, true, true, false, false, false] rfl rfl (any_of HT_.out (by kernel_rfl)) (fun _ _ _ h => h) (Or.inl ⟨by rfl, ?_⟩) ?_ ?_
              rotate_left
              · intro w'
                go_simp
                with_reducible rfl
              rotate_left
              · simp only [Act.put, List.setIfInBounds_toArray, List.set_cons_zero, List.set_cons_succ, i64_w, i32_w]
                rfl
              refine take_ (i := 3) (N := some 34) (v := ?_) (a' := ?_) #[true, true, true, true, false, false, true, true, false, false, false, true, true, false, false, false, true, true, false, false, false, true, true, false, false, false] rfl rfl (take_ofW HT_.out HW_.out (by kernel_rfl)) (fun _ _ _ h => h) (Or.inl ⟨by rfl, ?_⟩) hHeld ?_ ?_
              rotate_left
              · rintro w' ⟨s0, s1, s2, s3, s4, s5⟩
                go_simp
                with_reducible rfl
              rotate_left
              · simp only [Act.put, List.setIfInBounds_toArray, List.set_cons_zero, List.set_cons_succ, i64_w, i32_w]
                rfl
              refine pure_ (i := 4) (N := some 35) (v := ?_) (a' := ?_) #[true, true, true, true, true, false, true, true, false, false, false, true, true, false, false, false, true, true, false, false, false, true, true, false, false, false] rfl rfl (any_of HT_.out (by kernel_rfl)) (fun _ _ _ h => h) (Or.inl ⟨by rfl, ?_⟩) ?_ ?_
              rotate_left
              · intro w'
                go_simp
                with_reducible rfl
              rotate_left
              · simp only [Act.put, List.setIfInBounds_toArray, List.set_cons_zero, List.set_cons_succ, i64_w, i32_w]
                rfl
              refine pure_ (i := 5) (N := some 36) (v := ?_) (a' := ?_) #[true, true, true, true, true, true, true, true, false, false, false, true, true, false, false, false, true, true, false, false, false, true, true, false, false, false] rfl rfl (any_of HT_.out (by kernel_rfl)) (fun _ _ _ h => h) (Or.inl ⟨by rfl, ?_⟩) ?_ ?_
              rotate_left
              · intro w'
                go_simp
                with_reducible rfl
              rotate_left
              · simp only [Act.put, List.setIfInBounds_toArray, List.set_cons_zero, List.set_cons_succ, i64_w, i32_w]
                rfl
              refine one_ (i := 8) (N := some 39) #[true, true, true, true, true, true, true, true, true, false, false, true, true, false, false, false, true, true, false, false, false, true, true, false, false, false] rfl rfl (one_of HT_.out (by kernel_rfl)) (by decide) (fun K hK => ?_)
              refine goes_ Tryd.func31 (by kernel_rfl) rfl #[.string m1] (by rfl) rfl rfl (by (try simp only [List.map_toArray, List.map_cons, List.map_nil]); first | done | rfl) ?_
              with_reducible refine (suppress_star.calls m1 (starB m1) _ (star_eq m1)).mono ?_
              rintro e w' ⟨rfl, ⟨nd1, rfl⟩⟩
              refine ⟨_, rfl, ?_⟩
              refine hK.out _ _ hHeld (fun hHeld => ?_)
              clear hK K
              refine norm_ (a' := ?_) ?_ ?_
              rotate_left
              · show Act.put _ (some 39) _ = _
                simp only [Act.put, List.setIfInBounds_toArray, List.set_cons_zero, List.set_cons_succ, i64_w, i32_w]
                rfl
              refine pure_ (i := 9) (N := some 40) (v := ?_) (a' := ?_) #[true, true, true, true, true, true, true, true, true, true, false, true, true, false, false, false, true, true, false, false, false, true, true, false, false, false] rfl rfl (any_of HT_.out (by kernel_rfl)) (fun _ _ _ h => h) (Or.inl ⟨by rfl, ?_⟩) ?_ ?_
              rotate_left
              · intro w'
                go_simp
                with_reducible rfl
              rotate_left
              · simp only [Act.put, List.setIfInBounds_toArray, List.set_cons_zero, List.set_cons_succ, i64_w, i32_w]
                rfl
              refine pure_ (i := 10) (N := some 41) (v := ?_) (a' := ?_) #[true, true, true, true, true, true, true, true, true, true, true, true, true, false, false, false, true, true, false, false, false, true, true, false, false, false] rfl rfl (any_of HT_.out (by kernel_rfl)) (fun _ _ _ h => h) (Or.inl ⟨by rfl, ?_⟩) ?_ ?_
              rotate_left
              · intro w'
                go_simp
                with_reducible rfl
              rotate_left
              · simp only [Act.put, List.setIfInBounds_toArray, List.set_cons_zero, List.set_cons_succ, i64_w, i32_w]
                rfl
              refine one_ (i := 13) (N := some 44) #[true, true, true, true, true, true, true, true, true, true, true, true, true, true, false, false, true, true, false, false, false, true, true, false, false, false] rfl rfl (one_of HT_.out (by kernel_rfl)) (by decide) (fun K hK => ?_)
              refine goes_ Tryd.func31 (by kernel_rfl) rfl #[.string m2] (by rfl) rfl rfl (by (try simp only [List.map_toArray, List.map_cons, List.map_nil]); first | done | rfl) ?_
              with_reducible refine (suppress_star.calls m2 (starB m2) _ (star_eq m2)).mono ?_
              rintro e w' ⟨rfl, ⟨nd2, rfl⟩⟩
              refine ⟨_, rfl, ?_⟩
              refine hK.out _ _ hHeld (fun hHeld => ?_)
              clear hK K
              refine norm_ (a' := ?_) ?_ ?_
              rotate_left
              · show Act.put _ (some 44) _ = _
                simp only [Act.put, List.setIfInBounds_toArray, List.set_cons_zero, List.set_cons_succ, i64_w, i32_w]
                rfl
              refine pure_ (i := 14) (N := some 45) (v := ?_) (a' := ?_) #[true, true, true, true, true, true, true, true, true, true, true, true, true, true, true, false, true, true, false, false, false, true, true, false, false, false] rfl rfl (any_of HT_.out (by kernel_rfl)) (fun _ _ _ h => h) (Or.inl ⟨by rfl, ?_⟩) ?_ ?_
              rotate_left
              · intro w'
                go_simp
                with_reducible rfl
              rotate_left
              · simp only [Act.put, List.setIfInBounds_toArray, List.set_cons_zero, List.set_cons_succ, i64_w, i32_w]
                rfl
              refine pure_ (i := 15) (N := some 46) (v := ?_) (a' := ?_) #[true, true, true, true, true, true, true, true, true, true, true, true, true, true, true, true, true, true, false, false, false, true, true, false, false, false] rfl rfl (any_of HT_.out (by kernel_rfl)) (fun _ _ _ h => h) (Or.inl ⟨by rfl, ?_⟩) ?_ ?_
              rotate_left
              · intro w'
                go_simp
                with_reducible rfl
              rotate_left
              · simp only [Act.put, List.setIfInBounds_toArray, List.set_cons_zero, List.set_cons_succ, i64_w, i32_w]
                rfl
              refine one_ (i := 18) (N := some 49) #[true, true, true, true, true, true, true, true, true, true, true, true, true, true, true, true, true, true, true, false, false, true, true, false, false, false] rfl rfl (one_of HT_.out (by kernel_rfl)) (by decide) (fun K hK => ?_)
              refine goes_ Tryd.func31 (by kernel_rfl) rfl #[.string m3] (by rfl) rfl rfl (by (try simp only [List.map_toArray, List.map_cons, List.map_nil]); first | done | rfl) ?_
              with_reducible refine (suppress_star.calls m3 (starB m3) _ (star_eq m3)).mono ?_
              rintro e w' ⟨rfl, ⟨nd3, rfl⟩⟩
              refine ⟨_, rfl, ?_⟩
              refine hK.out _ _ hHeld (fun hHeld => ?_)
              clear hK K
              refine norm_ (a' := ?_) ?_ ?_
              rotate_left
              · show Act.put _ (some 49) _ = _
                simp only [Act.put, List.setIfInBounds_toArray, List.set_cons_zero, List.set_cons_succ, i64_w, i32_w]
                rfl
              refine pure_ (i := 19) (N := some 50) (v := ?_) (a' := ?_) #[true, true, true, true, true, true, true, true, true, true, true, true, true, true, true, true, true, true, true, true, false, true, true, false, false, false] rfl rfl (any_of HT_.out (by kernel_rfl)) (fun _ _ _ h => h) (Or.inl ⟨by rfl, ?_⟩) ?_ ?_
              rotate_left
              · intro w'
                go_simp
                with_reducible rfl
              rotate_left
              · simp only [Act.put, List.setIfInBounds_toArray, List.set_cons_zero, List.set_cons_succ, i64_w, i32_w]
                rfl
              refine pure_ (i := 20) (N := some 51) (v := ?_) (a' := ?_) #[true, true, true, true, true, true, true, true, true, true, true, true, true, true, true, true, true, true, true, true, true, true, true, false, false, false] rfl rfl (any_of HT_.out (by kernel_rfl)) (fun _ _ _ h => h) (Or.inl ⟨by rfl, ?_⟩) ?_ ?_
              rotate_left
              · intro w'
                go_simp
                with_reducible rfl
              rotate_left
              · simp only [Act.put, List.setIfInBounds_toArray, List.set_cons_zero, List.set_cons_succ, i64_w, i32_w]
                rfl
              refine pure_ (i := 23) (N := some 54) (v := ?_) (a' := ?_) #[true, true, true, true, true, true, true, true, true, true, true, true, true, true, true, true, true, true, true, true, true, true, true, true, false, false] rfl rfl (any_of HT_.out (by kernel_rfl)) (fun _ _ _ h => h) (Or.inl ⟨by rfl, ?_⟩) ?_ ?_
              rotate_left
              · intro w'
                go_simp
                with_reducible rfl
              rotate_left
              · simp only [Act.put, List.setIfInBounds_toArray, List.set_cons_zero, List.set_cons_succ, i64_w, i32_w]
                rfl
              refine pure_ (i := 24) (N := some 55) (v := ?_) (a' := ?_) #[true, true, true, true, true, true, true, true, true, true, true, true, true, true, true, true, true, true, true, true, true, true, true, true, true, false] rfl rfl (any_of HT_.out (by kernel_rfl)) (fun _ _ _ h => h) (Or.inl ⟨by rfl, ?_⟩) ?_ ?_
              rotate_left
              · intro w'
                go_simp
                with_reducible rfl
              rotate_left
              · simp only [Act.put, List.setIfInBounds_toArray, List.set_cons_zero, List.set_cons_succ, i64_w, i32_w]
                rfl
              refine one_ (i := 25) (N := some 56) #[true, true, true, true, true, true, true, true, true, true, true, true, true, true, true, true, true, true, true, true, true, true, true, true, true, true] rfl rfl (one_of HT_.out (by kernel_rfl)) (by decide) (fun K hK => ?_)
              refine goes_ Tryd.func30 (by kernel_rfl) rfl #[.pointer (some ⟨w.heap.size, 0, none⟩), .string (nLine ⟨m0, m1, m2, m3, m4⟩)] (by rfl) rfl rfl (by (try simp only [List.map_toArray, List.map_cons, List.map_nil]); first | done | rfl) ?_
              refine (B.Bld.write (((BD9.out.drewN nd1).drewN nd2).drewN nd3) (nLine ⟨m0, m1, m2, m3, m4⟩) ?s3).mono ?_
              case s3 => rw [nLine_size]; have := HLE.out; simp only; omega
              rintro e wb ⟨rfl, hd, hb, ho⟩
              refine ⟨_, rfl, ?_⟩
              have HBa := Aside0.mk (pw_below_drewN (pw_below_drewN (pw_below_drewN HB9.out nd1) nd2) nd3)
              have BMa := Aside0.mk (blk_drewN (blk_drewN (blk_drewN BM9.out nd1) nd2) nd3)
              have BDb := Aside0.mk hd
              have BMb := Aside0.mk (ho _ _ BMa.out (by have := GM.out; intro e; injection e with e; omega) (fun c fz e => by injection e with e1 e2; exact absurd e2 (by decide)))
              have HBb := Aside0.mk (HBa.out.trans hb)
              clear hb hd
              refine hK.out _ _ ⟨(blk_cell BMb.out 0).trans rfl, (blk_cell BMb.out 1).trans rfl, (blk_cell BMb.out 2).trans rfl, (blk_cell BMb.out 3).trans rfl, (blk_cell BMb.out 4).trans rfl, (HBb.out.cell (World.block_lt_of_cell? w _ WC.out)).trans WC.out⟩ (fun hHeld => ?_)
              clear hK K
              refine done_ (done_of HT_.out (by kernel_rfl)) ?_
              clear hs1 hs2 hs3 hs4 hs5 hs6 hs7 hs8 hs9 hs10 hHeld BM9 HB9 BD9 HBa BMa
              have wnext : wrap64 ((i : Int) + 1) = ((i + 1 : Nat) : Int) := by have := HL.out; have := HLEN.out; unfold wrap64; omega
              try go_wp2
              go_roundw
              case rel => exact ⟨i + 1, acc ++ nLine ⟨m0, m1, m2, m3, m4⟩, by rw [wnext], ⟨by have := HL.out; omega, by rw [← HI.out.2, hdrop.out]; rfl⟩, HBb, BDb⟩
              case measure => have := HL.out; rw [wnext]; simp [intOf]; omega
            · obtain rfl : i = l0.length := by have := HI.out.1; omega
              have hd := decide_eq_false (show ¬ (l0.length : Int) < (l0.length : Int) by omega)
              have hd2 := decide_eq_false (show ¬ l0.length < l0.length by omega)
              have hE := HI.out.2
              rw [List.drop_length] at hE
              have HE := Aside0.mk (show acc = nText l0 (⟨#[]⟩ : ByteArray) from hE)
              clear hlt hE
              go_wp2_with (first | (go_at_call 32; (refine (B.Bld.string BDr.out).mono ?_); rintro e wc ⟨rfl, hb⟩; have HBc := Aside0.mk (HBr.out.trans hb); clear hb))
              go_ret2
              exact ⟨by rw [HE.out]; rfl, HBc.out⟩
        · cases hz


end Go.Proofs.YtnoangbidnigdaaDoor.H

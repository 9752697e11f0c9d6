/- The call of Parse (protocol) does what is told of it. -/
import Derived.Test.YthfhbdncphkdaaaDoorProTake
namespace Go.Proofs.YthfhbdncphkdaaaDoor.H
open Go.RowKit Go.Proofs.YthfhbdncphkdaaaDoorW.PrintWords Go.Proofs.YthfhbdncphkdaaaDoorW.PrintLast Go.Proofs.YthfhbdncphkdaaaDoorW.PrintMore
set_option linter.unusedVariables false
set_option linter.unusedSimpArgs false

theorem LRep.kept {w wc w6 : World} {S : List ByteArray} {bad bad2 : List Nat} (h : LRep w wc S bad) (hk : Kept wc w6 (KS (w.heap.size + 1 + 1) bad)) (hb : Below w.heap.size w w6) (h2 : ∀ k ∈ bad, k ∈ bad2) : LRep w w6 S bad2 :=
  ⟨(hk.2 _ (blk_lt h.rb) (fun e => e.elim (fun e => by omega) (fun e => e h.bd.1))).trans h.rb, (hk.2 _ (blk_lt h.lb) (fun e => e.elim (fun e => by omega) (fun e => e h.bd.2.1))).trans h.lb, (hk.2 _ (blk_lt h.fb) (fun e => e.elim (fun e => by omega) (fun e => e h.bd.2.2))).trans h.fb, hb, h2 _ h.bd.1, h2 _ h.bd.2.1, h2 _ h.bd.2.2⟩
theorem start_rep (w : World) (S : List ByteArray) : PRep ((((w.alloc (.cells zeroC 35)).alloc (.cells (S.map Value.string).toArray 9)).alloc (.cells zeroC 35)).alloc (.cells formC 83)) (w.heap.size + 1 + 1) w.heap.size [w.heap.size, w.heap.size + 1, w.heap.size + 1 + 1, w.heap.size + 1 + 1 + 1] true ⟨#[]⟩ [] 0 0 [] ∧
    LRep w ((((w.alloc (.cells zeroC 35)).alloc (.cells (S.map Value.string).toArray 9)).alloc (.cells zeroC 35)).alloc (.cells formC 83)) S [w.heap.size, w.heap.size + 1, w.heap.size + 1 + 1, w.heap.size + 1 + 1 + 1] := by
  have s1 : (w.alloc (.cells zeroC 35)).heap.size = w.heap.size + 1 := by simp
  have s2 : ((w.alloc (.cells zeroC 35)).alloc (.cells (S.map Value.string).toArray 9)).heap.size = w.heap.size + 1 + 1 := by simp
  have s3 : (((w.alloc (.cells zeroC 35)).alloc (.cells (S.map Value.string).toArray 9)).alloc (.cells zeroC 35)).heap.size = w.heap.size + 1 + 1 + 1 := by simp
  have s4 : ((((w.alloc (.cells zeroC 35)).alloc (.cells (S.map Value.string).toArray 9)).alloc (.cells zeroC 35)).alloc (.cells formC 83)).heap.size = w.heap.size + 1 + 1 + 1 + 1 := by simp
  have b1 := blk_alloc (blk_alloc (blk_alloc (blk_new w (.cells zeroC 35)) (.cells (S.map Value.string).toArray 9)) (.cells zeroC 35)) (.cells formC 83)
  have b2 := blk_alloc (blk_alloc (blk_new (w.alloc (.cells zeroC 35)) (.cells (S.map Value.string).toArray 9)) (.cells zeroC 35)) (.cells formC 83)
  have b3 := blk_alloc (blk_new ((w.alloc (.cells zeroC 35)).alloc (.cells (S.map Value.string).toArray 9)) (.cells zeroC 35)) (.cells formC 83)
  have b4 := blk_new (((w.alloc (.cells zeroC 35)).alloc (.cells (S.map Value.string).toArray 9)).alloc (.cells zeroC 35)) (.cells formC 83)
  rw [s1] at b2
  rw [s2] at b3
  rw [s3] at b4
  refine ⟨⟨⟨none, 0, .slice none 0 0, b3, Kd.C_nil _ _, Nat.le_refl _, (fun ad e => by cases e), Kd.R_nil _ _ _ _ _, fun _ => ⟨rfl, rfl⟩, Kd.Q_nil _ _ _ _ _⟩, by simp, fun k hk => ?_⟩, b1, b2, b4, below_alloc (below_alloc (below_alloc (below_alloc (Below.refl _ _) _) _) _) _, by simp, by simp, by simp⟩
  rw [s4]
  simp at hk
  omega
set_option maxHeartbeats 20000000 in
set_option maxRecDepth 100000 in
theorem parse_calls (K : Nat) (s : ByteArray) (p : Pr) (ln e2 : Int) (w : World) (hgh : Gh w) (h : parP K s = some (p, ln, e2)) :
    Calls Tryd.prog 37 #[.string s] w fun e w' => ParPost w p ln e2 e w' := by
  have hu35 := Tryd.underlying35
  have hu83 := Tryd.underlying83
  unfold parP at h
  by_cases hs : s.size > 65536
  · rw [if_pos hs] at h
    obtain ⟨rfl, rfl, rfl⟩ := by simpa using h
    have hd := decide_eq_true (show (65536 : Int) < (s.size : Int) by omega)
    have hd2 := decide_eq_true (show 65536 < s.size by omega)
    clear h
    go_enter Tryd.func37, Tryd.ntmps37
    go_wp2
    refine bodyPost_ret (results_ctt rfl _ _ w.heap.size 35 zeroC (0, 0) _ rfl (blk_new w _) hu35 rfl (by kernel_rfl)) rfl ?_
    exact post0 (below_alloc (Below.refl _ _) _)
  · rw [if_neg hs] at h
    have hd := decide_eq_false (show ¬ (65536 : Int) < (s.size : Int) by omega)
    have hd2 := decide_eq_false (show ¬ 65536 < s.size by omega)
    obtain ⟨x, hx, hy⟩ := Option.bind_eq_some_iff.mp h
    clear h
    have HX := Aside0.mk hx
    have HY := Aside0.mk hy
    have HS := Aside0.mk hs
    obtain ⟨mx, hmx⟩ := hgh.mx
    have MX := Aside0.mk hmx
    have HGH := Aside0.mk hgh
    have HL := Aside0.mk (spl_len 10 s)
    obtain ⟨m, hm⟩ : ∃ m, Lib.countB s ⟨#[10]⟩ = m := ⟨_, rfl⟩
    have SP := Tryd.strings_Split s ⟨#[10]⟩ mx
    rw [hm] at HL
    rw [show Lib.splitB ⟨#[10]⟩ 0 (Lib.countB s ⟨#[10]⟩) s = spl 10 s from rfl, hm] at SP
    have SPA := Aside0.mk SP
    have hml : m < (spl 10 s).length := by have := HL.out; omega
    obtain ⟨rest, hrest⟩ : ∃ rest, (spl 10 s)[m]? = some rest := ⟨_, List.getElem?_eq_getElem hml⟩
    have hmb : m ≤ 65536 := by (have h := cnt_le 10 s; rw [hm] at h; have h2 := HS.out; omega)
    have hw1 : wrap64 (m : Int) = (m : Int) := by unfold wrap64; omega
    have q0 := eq_true (show (0 : Int) ≤ (m : Int) by omega)
    have q1 := eq_true (show (m : Int) < (m : Int) + 1 by omega)
    have q2 := eq_true (show (m : Int) ≤ (m : Int) + 1 by omega)
    have q3 := eq_true (show m ≤ m + 1 by omega)
    clear hx hy hs hgh hmx SP
    go_enter Tryd.func37, Tryd.ntmps37
    go_wp2_with (first | (go_at_call 61; (with_reducible refine (SPA.out _ (by have := HS.out; omega) ?s1 (by decide)).mono ?_); (case s1 => exact ((below_alloc (Below.refl w.heap.size w) _).cell (World.block_lt_of_cell? w _ MX.out)).trans MX.out); rintro e w2 ⟨rfl, rfl⟩) | (go_at_call 62; (with_reducible refine (due_calls _).mono ?_); rintro e w3 ⟨rfl, rfl⟩))
    go_loopw [8, 36] (fun v8 v36 wr => ∃ (i : Nat) (ed : Bool) (pp : Pr) (bad : List Nat) (fr : Bool), v8 = .bool ed ∧ v36 = .int .i64 i ∧ Aside0 (i ≤ m ∧ (i < 4 → fr = true) ∧ pp.2.2.2.2.length ≤ i ∧ parG K (((spl 10 s).take m).drop i) i ed pp = some x) ∧ Aside0 (PRep wr (w.heap.size + 1 + 1) w.heap.size bad fr pp.1 pp.2.1 pp.2.2.1 pp.2.2.2.1 pp.2.2.2.2) ∧ Aside0 (LRep w wr (spl 10 s) bad)) (fun _ v36 _ => m - (intOf v36).toNat)
    case atStart => exact ⟨0, false, pr0, [w.heap.size, w.heap.size + 1, w.heap.size + 1 + 1, w.heap.size + 1 + 1 + 1], true, rfl, rfl, ⟨Nat.zero_le _, fun _ => rfl, Nat.le_refl _, by have h := HX.out; rw [HL.out] at h; exact h⟩, ⟨(start_rep w (spl 10 s)).1⟩, ⟨(start_rep w (spl 10 s)).2⟩⟩
    case round =>
      obtain ⟨i, ed, pp, bad, fr, rfl, rfl, HI, HP, HL2⟩ := hrel
      by_cases hlt : i < m
      · have hd := decide_eq_true (show (i : Int) < (m : Int) by omega)
        have hd2 := decide_eq_true hlt
        obtain ⟨l, hl⟩ : ∃ l, (spl 10 s)[i]? = some l := ⟨_, List.getElem?_eq_getElem (by omega)⟩
        have hls := spl_size 10 s l (List.mem_of_getElem? hl)
        have hcl : wr.cell? ⟨w.heap.size + 1, i, none⟩ = some (.string l) := by
          refine (blk_cell HL2.out.lb i).trans ?_
          simp [hl]
        have LS := Aside0.mk (show l.size < 4294967281 by have := HS.out; omega)
        have SPL := Tryd.strings_Split l ⟨#[32]⟩ mx
        obtain ⟨n, hn⟩ : ∃ n, Lib.countB l ⟨#[32]⟩ = n := ⟨_, rfl⟩
        rw [show Lib.splitB ⟨#[32]⟩ 0 (Lib.countB l ⟨#[32]⟩) l = spl 32 l from rfl, hn] at SPL
        have SPB := Aside0.mk SPL
        have NL := Aside0.mk (show (spl 32 l).length = n + 1 by rw [spl_len, hn])
        have p0 := eq_true (show (0 : Int) ≤ (i : Int) by omega)
        have p1 := eq_true (show (i : Int) < (m : Int) by omega)
        have LT := Aside0.mk hlt
        have DR := Aside0.mk (show ((spl 10 s).take m).drop i = l :: ((spl 10 s).take m).drop (i + 1) by
          have h1 : i < ((spl 10 s).take m).length := by rw [List.length_take]; omega
          rw [List.drop_eq_getElem_cons h1, List.getElem_take]
          congr 1
          exact Option.some.inj ((List.getElem?_eq_getElem (by omega)).symm.trans hl))
        have WN := Aside0.mk (show wrap64 ((i : Int) + 1) = ((i + 1 : Nat) : Int) by unfold wrap64; omega)
        clear SPL hls hlt
        go_upto_block 2 with (first | (go_at_call 61; (with_reducible refine (SPB.out _ LS.out ?s1 (by decide)).mono ?_); (case s1 => exact (HL2.out.bl.cell (World.block_lt_of_cell? w _ MX.out)).trans MX.out); rintro e w2 ⟨rfl, rfl⟩))
        have HBa := below_alloc (Below.refl wr.heap.size wr) (.cells (List.map Value.string (spl 32 l)).toArray 9)
        have HB5 := Aside0.mk (below_step HBa (below_alloc (Below.refl _ (wr.alloc (.cells (List.map Value.string (spl 32 l)).toArray 9))) (.cells #[.string ⟨#[109, 111, 118, 101]⟩, .int .i64 4, .int .i64 4, .func (.func 63) #[] #[]] 83)))
        have WB5 := Aside0.mk (blk_alloc (blk_new wr (.cells (List.map Value.string (spl 32 l)).toArray 9)) (.cells #[.string ⟨#[109, 111, 118, 101]⟩, .int .i64 4, .int .i64 4, .func (.func 63) #[] #[]] 83))
        have FB5 := Aside0.mk (blk_new (wr.alloc (.cells (List.map Value.string (spl 32 l)).toArray 9)) (.cells #[.string ⟨#[109, 111, 118, 101]⟩, .int .i64 4, .int .i64 4, .func (.func 63) #[] #[]] 83))
        clear HBa
        rw [show (wr.alloc (.cells (List.map Value.string (spl 32 l)).toArray 9)).heap.size = wr.heap.size + 1 by simp] at FB5
        generalize (wr.alloc (.cells (List.map Value.string (spl 32 l)).toArray 9)).alloc (.cells #[.string ⟨#[109, 111, 118, 101]⟩, .int .i64 4, .int .i64 4, .func (.func 63) #[] #[]] 83) = w5 at HB5 WB5 FB5 ⊢
        go_cut [8] (fun v8 wc => v8 = .bool ed ∧ Aside0 (¬ (4 ≤ i ∧ l.toList = endB ∧ ed = false)) ∧ Aside0 (Below wr.heap.size wr wc) ∧ Aside0 (wc.heap[wr.heap.size]? = some (.cells (List.map Value.string (spl 32 l)).toArray 9 (0, 0))) ∧ Aside0 (wc.heap[wr.heap.size + 1]? = some (.cells (formB i) 83 (0, 0))))
        case first =>
          have LF := Aside0.mk (blk_below HL2.out.fb HB5.out)
          obtain ⟨hz0, hz1, hz2, hz3, hy0, hy1, hy2, hy3⟩ := cz4_ FB5.out
          have hi5 : i = 0 ∨ i = 1 ∨ i = 2 ∨ i = 3 ∨ 4 ≤ i := by omega
          rcases hi5 with hi | hi | hi | hi | hi
          · subst hi
            have p4 := eq_true (show ((0 : Nat) : Int) < 4 by omega)
            have d4 := decide_eq_true (show ((0 : Nat) : Int) < 4 by omega)
            have hf0 : w5.cell? ⟨w.heap.size + 1 + 1 + 1, 0, none⟩ = some (.string (formW 0)) := (blk_cell LF.out 0).trans rfl
            have hf1 : w5.cell? ⟨w.heap.size + 1 + 1 + 1, 1, none⟩ = some (.int .i64 (formLo 0)) := (blk_cell LF.out 1).trans rfl
            have hf2 : w5.cell? ⟨w.heap.size + 1 + 1 + 1, 2, none⟩ = some (.int .i64 (formHi 0)) := (blk_cell LF.out 2).trans rfl
            have hf3 : w5.cell? ⟨w.heap.size + 1 + 1 + 1, 3, none⟩ = some (.func (.func (formF 0)) #[] #[]) := (blk_cell LF.out 3).trans rfl
            go_wp2
            go_meet
            case rel => exact ⟨rfl, ⟨fun h => absurd h.1 (by decide)⟩, ⟨below_set (below_set (below_set (below_set HB5.out (Nat.le_succ _)) (Nat.le_succ _)) (Nat.le_succ _)) (Nat.le_succ _)⟩, ⟨blk_far (blk_far (blk_far (blk_far WB5.out (p := ⟨wr.heap.size + 1, 0, none⟩) (Nat.ne_of_lt (Nat.lt_succ_self _)) _) (p := ⟨wr.heap.size + 1, 1, none⟩) (Nat.ne_of_lt (Nat.lt_succ_self _)) _) (p := ⟨wr.heap.size + 1, 2, none⟩) (Nat.ne_of_lt (Nat.lt_succ_self _)) _) (p := ⟨wr.heap.size + 1, 3, none⟩) (Nat.ne_of_lt (Nat.lt_succ_self _)) _⟩, ⟨blk_put (blk_put (blk_put (blk_put FB5.out 0 _ rfl) 1 _ rfl) 2 _ rfl) 3 _ rfl⟩⟩
          · subst hi
            have p4 := eq_true (show ((1 : Nat) : Int) < 4 by omega)
            have d4 := decide_eq_true (show ((1 : Nat) : Int) < 4 by omega)
            have hf0 : w5.cell? ⟨w.heap.size + 1 + 1 + 1, 4, none⟩ = some (.string (formW 1)) := (blk_cell LF.out 4).trans rfl
            have hf1 : w5.cell? ⟨w.heap.size + 1 + 1 + 1, 5, none⟩ = some (.int .i64 (formLo 1)) := (blk_cell LF.out 5).trans rfl
            have hf2 : w5.cell? ⟨w.heap.size + 1 + 1 + 1, 6, none⟩ = some (.int .i64 (formHi 1)) := (blk_cell LF.out 6).trans rfl
            have hf3 : w5.cell? ⟨w.heap.size + 1 + 1 + 1, 7, none⟩ = some (.func (.func (formF 1)) #[] #[]) := (blk_cell LF.out 7).trans rfl
            go_wp2
            go_meet
            case rel => exact ⟨rfl, ⟨fun h => absurd h.1 (by decide)⟩, ⟨below_set (below_set (below_set (below_set HB5.out (Nat.le_succ _)) (Nat.le_succ _)) (Nat.le_succ _)) (Nat.le_succ _)⟩, ⟨blk_far (blk_far (blk_far (blk_far WB5.out (p := ⟨wr.heap.size + 1, 0, none⟩) (Nat.ne_of_lt (Nat.lt_succ_self _)) _) (p := ⟨wr.heap.size + 1, 1, none⟩) (Nat.ne_of_lt (Nat.lt_succ_self _)) _) (p := ⟨wr.heap.size + 1, 2, none⟩) (Nat.ne_of_lt (Nat.lt_succ_self _)) _) (p := ⟨wr.heap.size + 1, 3, none⟩) (Nat.ne_of_lt (Nat.lt_succ_self _)) _⟩, ⟨blk_put (blk_put (blk_put (blk_put FB5.out 0 _ rfl) 1 _ rfl) 2 _ rfl) 3 _ rfl⟩⟩
          · subst hi
            have p4 := eq_true (show ((2 : Nat) : Int) < 4 by omega)
            have d4 := decide_eq_true (show ((2 : Nat) : Int) < 4 by omega)
            have hf0 : w5.cell? ⟨w.heap.size + 1 + 1 + 1, 8, none⟩ = some (.string (formW 2)) := (blk_cell LF.out 8).trans rfl
            have hf1 : w5.cell? ⟨w.heap.size + 1 + 1 + 1, 9, none⟩ = some (.int .i64 (formLo 2)) := (blk_cell LF.out 9).trans rfl
            have hf2 : w5.cell? ⟨w.heap.size + 1 + 1 + 1, 10, none⟩ = some (.int .i64 (formHi 2)) := (blk_cell LF.out 10).trans rfl
            have hf3 : w5.cell? ⟨w.heap.size + 1 + 1 + 1, 11, none⟩ = some (.func (.func (formF 2)) #[] #[]) := (blk_cell LF.out 11).trans rfl
            go_wp2
            go_meet
            case rel => exact ⟨rfl, ⟨fun h => absurd h.1 (by decide)⟩, ⟨below_set (below_set (below_set (below_set HB5.out (Nat.le_succ _)) (Nat.le_succ _)) (Nat.le_succ _)) (Nat.le_succ _)⟩, ⟨blk_far (blk_far (blk_far (blk_far WB5.out (p := ⟨wr.heap.size + 1, 0, none⟩) (Nat.ne_of_lt (Nat.lt_succ_self _)) _) (p := ⟨wr.heap.size + 1, 1, none⟩) (Nat.ne_of_lt (Nat.lt_succ_self _)) _) (p := ⟨wr.heap.size + 1, 2, none⟩) (Nat.ne_of_lt (Nat.lt_succ_self _)) _) (p := ⟨wr.heap.size + 1, 3, none⟩) (Nat.ne_of_lt (Nat.lt_succ_self _)) _⟩, ⟨blk_put (blk_put (blk_put (blk_put FB5.out 0 _ rfl) 1 _ rfl) 2 _ rfl) 3 _ rfl⟩⟩
          · subst hi
            have p4 := eq_true (show ((3 : Nat) : Int) < 4 by omega)
            have d4 := decide_eq_true (show ((3 : Nat) : Int) < 4 by omega)
            have hf0 : w5.cell? ⟨w.heap.size + 1 + 1 + 1, 12, none⟩ = some (.string (formW 3)) := (blk_cell LF.out 12).trans rfl
            have hf1 : w5.cell? ⟨w.heap.size + 1 + 1 + 1, 13, none⟩ = some (.int .i64 (formLo 3)) := (blk_cell LF.out 13).trans rfl
            have hf2 : w5.cell? ⟨w.heap.size + 1 + 1 + 1, 14, none⟩ = some (.int .i64 (formHi 3)) := (blk_cell LF.out 14).trans rfl
            have hf3 : w5.cell? ⟨w.heap.size + 1 + 1 + 1, 15, none⟩ = some (.func (.func (formF 3)) #[] #[]) := (blk_cell LF.out 15).trans rfl
            go_wp2
            go_meet
            case rel => exact ⟨rfl, ⟨fun h => absurd h.1 (by decide)⟩, ⟨below_set (below_set (below_set (below_set HB5.out (Nat.le_succ _)) (Nat.le_succ _)) (Nat.le_succ _)) (Nat.le_succ _)⟩, ⟨blk_far (blk_far (blk_far (blk_far WB5.out (p := ⟨wr.heap.size + 1, 0, none⟩) (Nat.ne_of_lt (Nat.lt_succ_self _)) _) (p := ⟨wr.heap.size + 1, 1, none⟩) (Nat.ne_of_lt (Nat.lt_succ_self _)) _) (p := ⟨wr.heap.size + 1, 2, none⟩) (Nat.ne_of_lt (Nat.lt_succ_self _)) _) (p := ⟨wr.heap.size + 1, 3, none⟩) (Nat.ne_of_lt (Nat.lt_succ_self _)) _⟩, ⟨blk_put (blk_put (blk_put (blk_put FB5.out 0 _ rfl) 1 _ rfl) 2 _ rfl) 3 _ rfl⟩⟩
          · have d4 := decide_eq_false (show ¬ (i : Int) < 4 by omega)
            have p4 := eq_false (show ¬ (i : Int) < 4 by omega)
            by_cases h9 : l.toList = endB
            · have e0 : (l.toList == ([101, 110, 100] : List UInt8)) = true := beq_iff_eq.2 h9
              cases ed with
              | false =>
                go_wp2
                go_roundw
                case rel =>
                  have hp := HI.out.2.2.2
                  rw [DR.out] at hp
                  unfold parG lineP at hp
                  rw [if_pos ⟨hi, h9, rfl⟩] at hp
                  exact ⟨i + 1, true, pp, bad, fr, rfl, by rw [WN.out], ⟨LT.out, fun h => by omega, by have := HI.out.2.2.1; omega, by simpa using hp⟩, ⟨HP.out.below HB5.out⟩, ⟨HL2.out.below HB5.out⟩⟩
                case measure => have := LT.out; rw [WN.out]; simp [intOf]; omega
              | true =>
                go_wp2
                go_meet
                case rel => exact ⟨rfl, ⟨fun h => absurd h.2.2 (by decide)⟩, HB5, WB5, ⟨by rw [formB4 i hi]; exact FB5.out⟩⟩
            · have e0 : (l.toList == ([101, 110, 100] : List UInt8)) = false := beq_eq_false_iff_ne.2 h9
              go_wp2
              go_meet
              case rel => exact ⟨rfl, ⟨fun h => h9 h.2.1⟩, HB5, WB5, ⟨by rw [formB4 i hi]; exact FB5.out⟩⟩
        case rest =>
          obtain ⟨rfl, HNE, HBc, WBc, FBc⟩ := hcut
          obtain ⟨w0, rw0, ew0⟩ : ∃ w0 r, spl 32 l = w0 :: r := by
            cases hsp : spl 32 l with
            | nil => have := NL.out; rw [hsp] at this; cases this
            | cons a r => exact ⟨a, r, rfl⟩
          have er0 : rdOf ByteArray.empty (spl 32 l) 0 = w0 := by rw [ew0]; rfl
          have hp := HI.out.2.2.2
          rw [DR.out] at hp
          unfold parG at hp
          rw [lineP_eq _ _ _ _ _ HNE.out, er0, NL.out] at hp
          obtain ⟨⟨ed2, p2, er2⟩, hq, hp⟩ := Option.bind_eq_some_iff.mp hp
          obtain ⟨bb, hbb, hq⟩ := Option.bind_eq_some_iff.mp hq
          have HP3 := Aside0.mk hp
          have HQ3 := Aside0.mk hq
          have HB3 := Aside0.mk hbb
          have hw0 : wc.cell? ⟨wr.heap.size, 0, none⟩ = some (.string w0) := by refine (blk_cell WBc.out 0).trans ?_; rw [ew0]; rfl
          have hf0 : wc.cell? ⟨wr.heap.size + 1, 0, none⟩ = some (.string (formW i)) := (blk_cell FBc.out 0).trans rfl
          have hf1 : wc.cell? ⟨wr.heap.size + 1, 1, none⟩ = some (.int .i64 (formLo i)) := (blk_cell FBc.out 1).trans rfl
          have hf2 : wc.cell? ⟨wr.heap.size + 1, 2, none⟩ = some (.int .i64 (formHi i)) := (blk_cell FBc.out 2).trans rfl
          have CW := Aside0.mk (C_row WBc.out (by rw [NL.out]; have h := cnt_le 32 l; rw [hn] at h; have h2 := LS.out; omega))
          have CW := Aside0.mk (show Kd.C Kd.string wc (some ⟨wr.heap.size, 0, none⟩) (n + 1) (spl 32 l) by have h := CW.out; rw [NL.out] at h; exact h)
          have hn0 := eq_true (show (0 : Int) < (n : Int) + 1 by omega)
          clear hp hq hbb ew0 er0 rw0
          go_upto_region 18 with (first | fail)
          go_cut [86] (fun v86 wd => ∃ b : Bool, v86 = .bool b ∧ Aside0 (b = bb) ∧ Aside0 (Drawn0 wc wd))
          case first =>
            have hbb := HB3.out
            cases ed with
            | true =>
              rw [if_pos (Or.inl rfl)] at hbb
              have HCON := Aside0.mk (Option.some.inj hbb)
              clear hbb
              go_wp2
              repeat (go_quiet (first | fail))
              try go_wp2
              go_meet
              case rel => exact ⟨true, rfl, HCON, ⟨⟨⟨_, rfl⟩⟩⟩⟩
            | false =>
              by_cases b1 : w0.toList = (formW i).toList
              · have b1a : (w0.toList == (formW i).toList) = true := beq_iff_eq.2 b1
                have b1b : (w0.toList != (formW i).toList) = false := bne_eq_false_iff_eq.2 b1
                by_cases b2 : n + 1 < formLo i
                · have b2a : decide ((n : Int) + 1 < (formLo i : Int)) = true := decide_eq_true (by omega)
                  rw [if_pos (Or.inr (Or.inr (Or.inl b2)))] at hbb
                  have HCON := Aside0.mk (Option.some.inj hbb)
                  clear hbb b1 b2
                  go_wp2
                  repeat (go_quiet (first | fail))
                  try go_wp2
                  go_meet
                  case rel => exact ⟨true, rfl, HCON, ⟨⟨⟨_, rfl⟩⟩⟩⟩
                · have b2a : decide ((n : Int) + 1 < (formLo i : Int)) = false := decide_eq_false (by omega)
                  by_cases b3 : formHi i < n + 1
                  · have b3a : decide ((formHi i : Int) < (n : Int) + 1) = true := decide_eq_true (by omega)
                    rw [if_pos (Or.inr (Or.inr (Or.inr b3)))] at hbb
                    have HCON := Aside0.mk (Option.some.inj hbb)
                    clear hbb b1 b2 b3
                    go_wp2
                    repeat (go_quiet (first | fail))
                    try go_wp2
                    go_meet
                    case rel => exact ⟨true, rfl, HCON, ⟨⟨⟨_, rfl⟩⟩⟩⟩
                  · have b3a : decide ((formHi i : Int) < (n : Int) + 1) = false := decide_eq_false (by omega)
                    rw [if_neg (by rintro (h | h | h | h) <;> first | exact absurd h (by decide) | exact h b1 | exact b2 h | exact b3 h)] at hbb
                    have CT := fun (W : World) (hr : Kd.C Kd.string W (some ⟨wr.heap.size, 0, none⟩) (spl 32 l).length (spl 32 l)) => slices_Contains_string_string.calls K (some ⟨wr.heap.size, 0, none⟩) (n + 1) (spl 32 l) (⟨#[]⟩ : ByteArray) bb W hr (by rw [NL.out]; exact Nat.le_refl _) hbb
                    simp only [NL.out] at CT
                    have CTA := Aside0.mk CT
                    clear hbb b1 b2 b3 CT
                    go_wp2
                    repeat (go_quiet (first | (go_at_call 64; (with_reducible refine (CTA.out _ ?s1).mono ?_); (case s1 => first | exact CW.out | exact Kd.C_drewN CW.out _ | exact Kd.C_drew CW.out); rintro e w' ⟨rfl, ⟨nd, rfl⟩⟩; (try first | exact ⟨rfl, _, World.drewN_drewN _ _ _⟩ | exact ⟨rfl, _, Eq.trans (World.drewN_drewN _ _ _) (congrArg (World.drewN _) (Nat.add_assoc _ _ _))⟩))))
                    try go_wp2_with (first | (go_at_call 64; (with_reducible refine (CTA.out _ ?s1).mono ?_); (case s1 => first | exact CW.out | exact Kd.C_drewN CW.out _ | exact Kd.C_drew CW.out); rintro e w' ⟨rfl, ⟨nd, rfl⟩⟩; (try first | exact ⟨rfl, _, World.drewN_drewN _ _ _⟩ | exact ⟨rfl, _, Eq.trans (World.drewN_drewN _ _ _) (congrArg (World.drewN _) (Nat.add_assoc _ _ _))⟩)))
                    go_meet
                    case rel => exact ⟨bb, rfl, ⟨rfl⟩, ⟨by first | exact ⟨⟨_, rfl⟩⟩ | exact Drawn0.step ⟨⟨_, rfl⟩⟩ _⟩⟩
              · have b1a : (w0.toList == (formW i).toList) = false := beq_eq_false_iff_ne.2 b1
                have b1b : (w0.toList != (formW i).toList) = true := bne_iff_ne.2 b1
                rw [if_pos (Or.inr (Or.inl b1))] at hbb
                have HCON := Aside0.mk (Option.some.inj hbb)
                clear hbb b1
                go_wp2
                repeat (go_quiet (first | fail))
                try go_wp2
                go_meet
                case rel => exact ⟨true, rfl, HCON, ⟨⟨⟨_, rfl⟩⟩⟩⟩
          case rest =>
            obtain ⟨b, rfl, HBB, HDR⟩ := hcut
            obtain rfl : b = bb := HBB.out
            have HBd := Aside0.mk (below_step HBc.out HDR.out.below)
            have RBd := Aside0.mk (blk_below HL2.out.rb HBd.out)
            have hq := HQ3.out
            have hp := HP3.out
            have b0 := eq_true (show (i : Int) ≤ 65536 by have := LT.out; omega)
            cases b with
            | true =>
              rw [if_pos rfl] at hq
              obtain ⟨rfl, rfl, rfl⟩ := by simpa using hq
              have hp : some (ed, pp, (i : Int) + 1, (2 : Int)) = some x := hp
              have HXE := Aside0.mk (Option.some.inj hp)
              obtain ⟨hz0, hz1, hz2, hz3, hz4, hy0, hy1, hy2, hy3, hy4⟩ := cz5_ RBd.out
              clear hq hp
              go_wp2
              have e1 : wrap64 ((i : Int) + 1) = (i : Int) + 1 := by rw [WN.out]; omega
              refine bodyPost_ret (results_ctt rfl _ _ w.heap.size 35 zeroC (0, 0) _ rfl (put5 RBd.out) hu35 rfl (by kernel_rfl)) rfl ?_
              have hy : some (pr0, (i : Int) + 1, (2 : Int)) = some (p, ln, e2) := by have h := HY.out; rw [← HXE.out] at h; exact h
              obtain ⟨rfl, rfl, rfl⟩ := by simpa using hy
              have := post0 (ln := (i : Int) + 1) (e2 := 2) (below5 (a := .string ⟨#[]⟩) (b := .slice none 0 0) (c := .int .i64 0) (d := .int .i64 0) (e := .slice none 0 0) (below_step HL2.out.bl HBd.out) (Nat.le_refl w.heap.size))
              show ParPost w pr0 ((i : Int) + 1) 2 (.returned (.tuple #[.agg zeroC, .int .i64 (wrap64 ((i : Int) + 1)), .int .i64 2])) _
              rw [e1]
              exact this
            | false =>
              rw [if_neg (by decide)] at hq
              obtain ⟨⟨p3, er3⟩, htk, hq⟩ := Option.bind_eq_some_iff.mp hq
              obtain ⟨rfl, rfl, rfl⟩ := by simpa using hq
              have hnc : ¬ (ed = true ∨ ¬ w0.toList = (formW i).toList ∨ n + 1 < formLo i ∨ formHi i < n + 1) := fun h => by have := HB3.out; rw [if_pos h] at this; cases this
              have hlo : formLo i ≤ n + 1 := by have := fun h => hnc (Or.inr (Or.inr (Or.inl h))); omega
              have hnl : n ≤ l.size := by have := cnt_le 32 l; rw [hn] at this; exact this
              have hlw : wr.heap.size < wc.heap.size := (Array.getElem?_eq_some_iff.1 (blk_below WBc.out HDR.out.below)).1
              have hgr : w.heap.size + 1 + 1 < wr.heap.size := HP.out.lt _ HP.out.gb
              have CWd := Kd.C_below CW.out HDR.out.below
              have CQd := Kd.Q_of_R (R_row (base := w.heap.size) (blk_below WBc.out HDR.out.below) (by rw [NL.out]; have := LS.out; omega) (by omega))
              rw [NL.out] at CQd
              have TC := take_calls K i (w.heap.size + 1 + 1) w.heap.size bad fr pp p3 er3 ⟨wr.heap.size, 0, none⟩ (n + 1) (spl 32 l) w wc (HP.out.below HBd.out) (by rw [NL.out]; exact CWd) HI.out.2.1 (by rw [NL.out]; exact hlo) (by rw [NL.out]; exact Nat.le_refl _) (by have := LS.out; omega) (Nat.ne_of_gt hgr) (show wr.heap.size ≠ w.heap.size by omega) hlw (by rw [NL.out]; exact CQd) (by have := HI.out.2.2.1; have := LT.out; omega) (below_step HL2.out.bl HBd.out) rfl (by omega) htk
              rw [NL.out] at TC
              have HPX := Aside0.mk hp
              have FBd := Aside0.mk (blk_below FBc.out HDR.out.below)
              have hk3 : wc.cell? ⟨wr.heap.size + 1, 3, none⟩ = some (.func (.func (formF i)) #[] #[]) := (blk_cell FBd.out 3).trans rfl
              have KR := fun (w6 : World) (hk : Kept wc w6 (KS (w.heap.size + 1 + 1) bad)) => (hk.2 w.heap.size (blk_lt RBd.out) (fun h => h.elim (fun h => by omega) (fun h => h HL2.out.bd.1))).trans RBd.out
              have KRA := Aside0.mk KR
              have HLk := Aside0.mk (fun (w6 : World) (bad2 : List Nat) (hk : Kept wc w6 (KS (w.heap.size + 1 + 1) bad)) (hb : Below w.heap.size w w6) (h2 : ∀ k ∈ bad, k ∈ bad2) => (HL2.out.below HBd.out).kept hk hb h2)
              have hi5 : i = 0 ∨ i = 1 ∨ i = 2 ∨ i = 3 ∨ 4 ≤ i := by omega
              clear hp hq htk KR hlo hnl hlw hgr CWd CQd hnc
              rcases hi5 with hi | hi | hi | hi | hi
              · have ef : formF i = 86 := (by rw [hi]; rfl)
                rw [ef] at hk3 TC
                have TCA := Aside0.mk TC
                clear TC ef hi
                by_cases he : er3 = 0
                · subst he
                  have HPY := Aside0.mk (show parG K (((spl 10 s).take m).drop (i + 1)) (i + 1) ed p3 = some x by have h := HPX.out; rw [if_pos rfl] at h; exact h)
                  clear HPX HB3 HP3 HQ3
                  go_wp2_with (first | (go_at_call 86; (with_reducible refine TCA.out.mono ?_); rintro e w6 ⟨rfl, HZ6, HK6, HB6⟩; have HZ6 := Aside0.mk HZ6; have HK6 := Aside0.mk HK6; have HB6 := Aside0.mk HB6))
                  obtain ⟨bad2, fr2, hf2, hb2, hp2, hl2⟩ := HZ6.out trivial
                  have LR6 := HLk.out w6 bad2 HK6.out HB6.out hb2
                  have hpx := HPY.out
                  have hle := HI.out.2.2.1
                  have hlt := LT.out
                  go_roundw
                  case rel => exact ⟨i + 1, ed, p3, bad2, fr2, rfl, by rw [WN.out], ⟨hlt, hf2, Nat.le_trans hl2 (Nat.succ_le_succ hle), hpx⟩, ⟨hp2⟩, ⟨LR6⟩⟩
                  case measure => rw [WN.out]; simp [intOf]; omega
                · have q9 : (er3 == 0) = false := beq_eq_false_iff_ne.2 he
                  have q8 : (er3 != 0) = true := bne_iff_ne.2 he
                  go_wp2_with (first | (go_at_call 86; (with_reducible refine TCA.out.mono ?_); rintro e w6 ⟨rfl, HZ6, HK6, HB6⟩; have HB6 := Aside0.mk HB6; have RB6 := Aside0.mk (KRA.out w6 HK6); obtain ⟨hz0, hz1, hz2, hz3, hz4, hy0, hy1, hy2, hy3, hy4⟩ := cz5_ RB6.out; clear HZ6 HK6))
                  have e1 : wrap64 ((i : Int) + 1) = (i : Int) + 1 := by rw [WN.out]; omega
                  refine bodyPost_ret (results_ctt rfl _ _ w.heap.size 35 zeroC (0, 0) _ rfl (put5 RB6.out) hu35 rfl (by kernel_rfl)) rfl ?_
                  have hp : some (ed, p3, (i : Int) + 1, er3) = some x := by have h := HPX.out; rw [if_neg he] at h; exact h
                  have hy : some (pr0, (i : Int) + 1, er3) = some (p, ln, e2) := by have h := HY.out; rw [← Option.some.inj hp, if_neg he] at h; exact h
                  obtain ⟨rfl, rfl, rfl⟩ := by simpa using hy
                  have := post0 (ln := (i : Int) + 1) (e2 := er3) (below5 (a := .string ⟨#[]⟩) (b := .slice none 0 0) (c := .int .i64 0) (d := .int .i64 0) (e := .slice none 0 0) HB6.out (Nat.le_refl w.heap.size))
                  show ParPost w pr0 ((i : Int) + 1) er3 (.returned (.tuple #[.agg zeroC, .int .i64 (wrap64 ((i : Int) + 1)), .int .i64 er3])) _
                  rw [e1]
                  exact this
              · have ef : formF i = 87 := (by rw [hi]; rfl)
                rw [ef] at hk3 TC
                have TCA := Aside0.mk TC
                clear TC ef hi
                by_cases he : er3 = 0
                · subst he
                  have HPY := Aside0.mk (show parG K (((spl 10 s).take m).drop (i + 1)) (i + 1) ed p3 = some x by have h := HPX.out; rw [if_pos rfl] at h; exact h)
                  clear HPX HB3 HP3 HQ3
                  go_wp2_with (first | (go_at_call 87; (with_reducible refine TCA.out.mono ?_); rintro e w6 ⟨rfl, HZ6, HK6, HB6⟩; have HZ6 := Aside0.mk HZ6; have HK6 := Aside0.mk HK6; have HB6 := Aside0.mk HB6))
                  obtain ⟨bad2, fr2, hf2, hb2, hp2, hl2⟩ := HZ6.out trivial
                  have LR6 := HLk.out w6 bad2 HK6.out HB6.out hb2
                  have hpx := HPY.out
                  have hle := HI.out.2.2.1
                  have hlt := LT.out
                  go_roundw
                  case rel => exact ⟨i + 1, ed, p3, bad2, fr2, rfl, by rw [WN.out], ⟨hlt, hf2, Nat.le_trans hl2 (Nat.succ_le_succ hle), hpx⟩, ⟨hp2⟩, ⟨LR6⟩⟩
                  case measure => rw [WN.out]; simp [intOf]; omega
                · have q9 : (er3 == 0) = false := beq_eq_false_iff_ne.2 he
                  have q8 : (er3 != 0) = true := bne_iff_ne.2 he
                  go_wp2_with (first | (go_at_call 87; (with_reducible refine TCA.out.mono ?_); rintro e w6 ⟨rfl, HZ6, HK6, HB6⟩; have HB6 := Aside0.mk HB6; have RB6 := Aside0.mk (KRA.out w6 HK6); obtain ⟨hz0, hz1, hz2, hz3, hz4, hy0, hy1, hy2, hy3, hy4⟩ := cz5_ RB6.out; clear HZ6 HK6))
                  have e1 : wrap64 ((i : Int) + 1) = (i : Int) + 1 := by rw [WN.out]; omega
                  refine bodyPost_ret (results_ctt rfl _ _ w.heap.size 35 zeroC (0, 0) _ rfl (put5 RB6.out) hu35 rfl (by kernel_rfl)) rfl ?_
                  have hp : some (ed, p3, (i : Int) + 1, er3) = some x := by have h := HPX.out; rw [if_neg he] at h; exact h
                  have hy : some (pr0, (i : Int) + 1, er3) = some (p, ln, e2) := by have h := HY.out; rw [← Option.some.inj hp, if_neg he] at h; exact h
                  obtain ⟨rfl, rfl, rfl⟩ := by simpa using hy
                  have := post0 (ln := (i : Int) + 1) (e2 := er3) (below5 (a := .string ⟨#[]⟩) (b := .slice none 0 0) (c := .int .i64 0) (d := .int .i64 0) (e := .slice none 0 0) HB6.out (Nat.le_refl w.heap.size))
                  show ParPost w pr0 ((i : Int) + 1) er3 (.returned (.tuple #[.agg zeroC, .int .i64 (wrap64 ((i : Int) + 1)), .int .i64 er3])) _
                  rw [e1]
                  exact this
              · have ef : formF i = 88 := (by rw [hi]; rfl)
                rw [ef] at hk3 TC
                have TCA := Aside0.mk TC
                clear TC ef hi
                by_cases he : er3 = 0
                · subst he
                  have HPY := Aside0.mk (show parG K (((spl 10 s).take m).drop (i + 1)) (i + 1) ed p3 = some x by have h := HPX.out; rw [if_pos rfl] at h; exact h)
                  clear HPX HB3 HP3 HQ3
                  go_wp2_with (first | (go_at_call 88; (with_reducible refine TCA.out.mono ?_); rintro e w6 ⟨rfl, HZ6, HK6, HB6⟩; have HZ6 := Aside0.mk HZ6; have HK6 := Aside0.mk HK6; have HB6 := Aside0.mk HB6))
                  obtain ⟨bad2, fr2, hf2, hb2, hp2, hl2⟩ := HZ6.out trivial
                  have LR6 := HLk.out w6 bad2 HK6.out HB6.out hb2
                  have hpx := HPY.out
                  have hle := HI.out.2.2.1
                  have hlt := LT.out
                  go_roundw
                  case rel => exact ⟨i + 1, ed, p3, bad2, fr2, rfl, by rw [WN.out], ⟨hlt, hf2, Nat.le_trans hl2 (Nat.succ_le_succ hle), hpx⟩, ⟨hp2⟩, ⟨LR6⟩⟩
                  case measure => rw [WN.out]; simp [intOf]; omega
                · have q9 : (er3 == 0) = false := beq_eq_false_iff_ne.2 he
                  have q8 : (er3 != 0) = true := bne_iff_ne.2 he
                  go_wp2_with (first | (go_at_call 88; (with_reducible refine TCA.out.mono ?_); rintro e w6 ⟨rfl, HZ6, HK6, HB6⟩; have HB6 := Aside0.mk HB6; have RB6 := Aside0.mk (KRA.out w6 HK6); obtain ⟨hz0, hz1, hz2, hz3, hz4, hy0, hy1, hy2, hy3, hy4⟩ := cz5_ RB6.out; clear HZ6 HK6))
                  have e1 : wrap64 ((i : Int) + 1) = (i : Int) + 1 := by rw [WN.out]; omega
                  refine bodyPost_ret (results_ctt rfl _ _ w.heap.size 35 zeroC (0, 0) _ rfl (put5 RB6.out) hu35 rfl (by kernel_rfl)) rfl ?_
                  have hp : some (ed, p3, (i : Int) + 1, er3) = some x := by have h := HPX.out; rw [if_neg he] at h; exact h
                  have hy : some (pr0, (i : Int) + 1, er3) = some (p, ln, e2) := by have h := HY.out; rw [← Option.some.inj hp, if_neg he] at h; exact h
                  obtain ⟨rfl, rfl, rfl⟩ := by simpa using hy
                  have := post0 (ln := (i : Int) + 1) (e2 := er3) (below5 (a := .string ⟨#[]⟩) (b := .slice none 0 0) (c := .int .i64 0) (d := .int .i64 0) (e := .slice none 0 0) HB6.out (Nat.le_refl w.heap.size))
                  show ParPost w pr0 ((i : Int) + 1) er3 (.returned (.tuple #[.agg zeroC, .int .i64 (wrap64 ((i : Int) + 1)), .int .i64 er3])) _
                  rw [e1]
                  exact this
              · have ef : formF i = 90 := (by rw [hi]; rfl)
                rw [ef] at hk3 TC
                have TCA := Aside0.mk TC
                clear TC ef hi
                by_cases he : er3 = 0
                · subst he
                  have HPY := Aside0.mk (show parG K (((spl 10 s).take m).drop (i + 1)) (i + 1) ed p3 = some x by have h := HPX.out; rw [if_pos rfl] at h; exact h)
                  clear HPX HB3 HP3 HQ3
                  go_wp2_with (first | (go_at_call 90; (with_reducible refine TCA.out.mono ?_); rintro e w6 ⟨rfl, HZ6, HK6, HB6⟩; have HZ6 := Aside0.mk HZ6; have HK6 := Aside0.mk HK6; have HB6 := Aside0.mk HB6))
                  obtain ⟨bad2, fr2, hf2, hb2, hp2, hl2⟩ := HZ6.out trivial
                  have LR6 := HLk.out w6 bad2 HK6.out HB6.out hb2
                  have hpx := HPY.out
                  have hle := HI.out.2.2.1
                  have hlt := LT.out
                  go_roundw
                  case rel => exact ⟨i + 1, ed, p3, bad2, fr2, rfl, by rw [WN.out], ⟨hlt, hf2, Nat.le_trans hl2 (Nat.succ_le_succ hle), hpx⟩, ⟨hp2⟩, ⟨LR6⟩⟩
                  case measure => rw [WN.out]; simp [intOf]; omega
                · have q9 : (er3 == 0) = false := beq_eq_false_iff_ne.2 he
                  have q8 : (er3 != 0) = true := bne_iff_ne.2 he
                  go_wp2_with (first | (go_at_call 90; (with_reducible refine TCA.out.mono ?_); rintro e w6 ⟨rfl, HZ6, HK6, HB6⟩; have HB6 := Aside0.mk HB6; have RB6 := Aside0.mk (KRA.out w6 HK6); obtain ⟨hz0, hz1, hz2, hz3, hz4, hy0, hy1, hy2, hy3, hy4⟩ := cz5_ RB6.out; clear HZ6 HK6))
                  have e1 : wrap64 ((i : Int) + 1) = (i : Int) + 1 := by rw [WN.out]; omega
                  refine bodyPost_ret (results_ctt rfl _ _ w.heap.size 35 zeroC (0, 0) _ rfl (put5 RB6.out) hu35 rfl (by kernel_rfl)) rfl ?_
                  have hp : some (ed, p3, (i : Int) + 1, er3) = some x := by have h := HPX.out; rw [if_neg he] at h; exact h
                  have hy : some (pr0, (i : Int) + 1, er3) = some (p, ln, e2) := by have h := HY.out; rw [← Option.some.inj hp, if_neg he] at h; exact h
                  obtain ⟨rfl, rfl, rfl⟩ := by simpa using hy
                  have := post0 (ln := (i : Int) + 1) (e2 := er3) (below5 (a := .string ⟨#[]⟩) (b := .slice none 0 0) (c := .int .i64 0) (d := .int .i64 0) (e := .slice none 0 0) HB6.out (Nat.le_refl w.heap.size))
                  show ParPost w pr0 ((i : Int) + 1) er3 (.returned (.tuple #[.agg zeroC, .int .i64 (wrap64 ((i : Int) + 1)), .int .i64 er3])) _
                  rw [e1]
                  exact this
              · have ef : formF i = 63 := (formF4 i hi)
                rw [ef] at hk3 TC
                have TCA := Aside0.mk TC
                clear TC ef hi
                by_cases he : er3 = 0
                · subst he
                  have HPY := Aside0.mk (show parG K (((spl 10 s).take m).drop (i + 1)) (i + 1) ed p3 = some x by have h := HPX.out; rw [if_pos rfl] at h; exact h)
                  clear HPX HB3 HP3 HQ3
                  go_wp2_with (first | (go_at_call 63; (with_reducible refine TCA.out.mono ?_); rintro e w6 ⟨rfl, HZ6, HK6, HB6⟩; have HZ6 := Aside0.mk HZ6; have HK6 := Aside0.mk HK6; have HB6 := Aside0.mk HB6))
                  obtain ⟨bad2, fr2, hf2, hb2, hp2, hl2⟩ := HZ6.out trivial
                  have LR6 := HLk.out w6 bad2 HK6.out HB6.out hb2
                  have hpx := HPY.out
                  have hle := HI.out.2.2.1
                  have hlt := LT.out
                  go_roundw
                  case rel => exact ⟨i + 1, ed, p3, bad2, fr2, rfl, by rw [WN.out], ⟨hlt, hf2, Nat.le_trans hl2 (Nat.succ_le_succ hle), hpx⟩, ⟨hp2⟩, ⟨LR6⟩⟩
                  case measure => rw [WN.out]; simp [intOf]; omega
                · have q9 : (er3 == 0) = false := beq_eq_false_iff_ne.2 he
                  have q8 : (er3 != 0) = true := bne_iff_ne.2 he
                  go_wp2_with (first | (go_at_call 63; (with_reducible refine TCA.out.mono ?_); rintro e w6 ⟨rfl, HZ6, HK6, HB6⟩; have HB6 := Aside0.mk HB6; have RB6 := Aside0.mk (KRA.out w6 HK6); obtain ⟨hz0, hz1, hz2, hz3, hz4, hy0, hy1, hy2, hy3, hy4⟩ := cz5_ RB6.out; clear HZ6 HK6))
                  have e1 : wrap64 ((i : Int) + 1) = (i : Int) + 1 := by rw [WN.out]; omega
                  refine bodyPost_ret (results_ctt rfl _ _ w.heap.size 35 zeroC (0, 0) _ rfl (put5 RB6.out) hu35 rfl (by kernel_rfl)) rfl ?_
                  have hp : some (ed, p3, (i : Int) + 1, er3) = some x := by have h := HPX.out; rw [if_neg he] at h; exact h
                  have hy : some (pr0, (i : Int) + 1, er3) = some (p, ln, e2) := by have h := HY.out; rw [← Option.some.inj hp, if_neg he] at h; exact h
                  obtain ⟨rfl, rfl, rfl⟩ := by simpa using hy
                  have := post0 (ln := (i : Int) + 1) (e2 := er3) (below5 (a := .string ⟨#[]⟩) (b := .slice none 0 0) (c := .int .i64 0) (d := .int .i64 0) (e := .slice none 0 0) HB6.out (Nat.le_refl w.heap.size))
                  show ParPost w pr0 ((i : Int) + 1) er3 (.returned (.tuple #[.agg zeroC, .int .i64 (wrap64 ((i : Int) + 1)), .int .i64 er3])) _
                  rw [e1]
                  exact this
      · obtain rfl : m = i := by have := HI.out.1; omega
        have hpx := HI.out.2.2.2
        rw [List.drop_eq_nil_of_le (by rw [List.length_take]; omega)] at hpx
        have hpx : some (ed, pp, (0 : Int), (0 : Int)) = some x := hpx
        have HXE := Aside0.mk (Option.some.inj hpx)
        have RB := Aside0.mk HL2.out.rb
        have BW := Aside0.mk HL2.out.bl
        obtain ⟨hz0, hz1, hz2, hz3, hz4, hy0, hy1, hy2, hy3, hy4⟩ := cz5_ RB.out
        have b0 := eq_true (show (m : Int) ≤ 65536 by omega)
        have d0 := decide_eq_false (show ¬ (m : Int) < (m : Int) by omega)
        have NLx := Aside0.mk (show ((spl 10 s).length : Int) = (m : Int) + 1 by rw [HL.out]; omega)
        have RDx := Aside0.mk (show rdOf ByteArray.empty (spl 10 s) (((spl 10 s).length : Int) - 1) = (spl 10 s)[m] by
          rw [NLx.out]; unfold rdOf; rw [show ((m : Int) + 1 - 1).toNat = m by omega, List.getD_eq_getElem?_getD, List.getElem?_eq_getElem hml]; rfl)
        clear hpx hlt
        cases ed with
        | false =>
          go_wp2
          refine bodyPost_ret (results_ctt rfl _ _ w.heap.size 35 zeroC (0, 0) _ rfl (put5 RB.out) hu35 rfl (by kernel_rfl)) rfl ?_
          have hy : some (pr0, (m : Int) + 1, (21 : Int)) = some (p, ln, e2) := by have h := HY.out; rw [← HXE.out, if_pos rfl, if_pos rfl, NLx.out] at h; exact h
          obtain ⟨rfl, rfl, rfl⟩ := by simpa using hy
          exact post0 (ln := (m : Int) + 1) (e2 := 21) (below5 (a := .string ⟨#[]⟩) (b := .slice none 0 0) (c := .int .i64 0) (d := .int .i64 0) (e := .slice none 0 0) BW.out (Nat.le_refl w.heap.size))
        | true =>
          generalize hre : (spl 10 s)[m] = re at RDx ⊢
          have HRE := Aside0.mk hre
          clear hre
          by_cases h9 : re.toList = ([] : List UInt8)
          · have e0 : (re.toList == ([] : List UInt8)) = true := beq_iff_eq.2 h9
            have e1 : (re.toList != ([] : List UInt8)) = false := bne_eq_false_iff_eq.2 h9
            have hy : ((protocol_Check.f K pp.1 pp.2.1 pp.2.2.1 pp.2.2.2.1 pp.2.2.2.2).bind fun e => if e = 0 then some (pp, (0 : Int), (0 : Int)) else some (pr0, 0, e)) = some (p, ln, e2) := by
              have h := HY.out; rw [← HXE.out, if_pos rfl, if_neg (by simp), RDx.out, if_pos h9] at h; exact h
            obtain ⟨ck, hck, hy⟩ := Option.bind_eq_some_iff.mp hy
            obtain ⟨A, c, vm, p1, p2, p3, p4, p5, p6, p7⟩ := HP.out.ex
            obtain ⟨A', c', ev⟩ := Kd.R_slice p5
            subst ev
            have CK := Aside0.mk (protocol_Check.calls K pp.1 A c pp.2.1 pp.2.2.1 pp.2.2.2.1 A' c' pp.2.2.2.2 ck wr p2 p3 (Kd.R_reads' p5).2.2 (Kd.R_reads' p5).2.1 (Gh.below HGH.out BW.out) hck)
            have PAw := Aside0.mk p1
            have P2 := Aside0.mk p2
            have P3 := Aside0.mk (And.intro p3 p4)
            have P5 := Aside0.mk p5
            have P7 := Aside0.mk p7
            obtain ⟨ha0, ha1, ha2, ha3, ha4, hb0, hb1, hb2, hb3, hb4⟩ := cz5_ p1
            clear p1 p2 p3 p4 p5 p6 p7 hck h9
            by_cases hc0 : ck = 0
            · subst hc0
              have hy : some (pp, (0 : Int), (0 : Int)) = some (p, ln, e2) := hy
              have HYE := Aside0.mk hy
              clear hy
              go_wp2_with (first | (go_at_call 33; (with_reducible refine CK.out.mono ?_); rintro e w6 ⟨rfl, HB6⟩; have HB6 := Aside0.mk HB6; have PA6 := Aside0.mk (blk_below PAw.out HB6.out); have RB6 := Aside0.mk (blk_below RB.out HB6.out); obtain ⟨ha0, ha1, ha2, ha3, ha4, hb0, hb1, hb2, hb3, hb4⟩ := cz5_ PA6.out; obtain ⟨hz0, hz1, hz2, hz3, hz4, hy0, hy1, hy2, hy3, hy4⟩ := cz5_ RB6.out))
              refine bodyPost_ret (results_ctt rfl _ _ w.heap.size 35 #[.string pp.1, .slice A pp.2.1.length c, .int .i64 pp.2.2.1, .int .i64 pp.2.2.2.1, .slice A' pp.2.2.2.2.length c'] (0, 0) _ rfl (put5v _ _ _ _ _ RB6.out) hu35 rfl (by kernel_rfl)) rfl ?_
              obtain ⟨rfl, rfl, rfl⟩ := by simpa using HYE.out
              have P56 := Kd.R_below P5.out HB6.out
              have hnb : ∀ k, k ∉ bad → k ≠ w.heap.size := fun k hk e => hk (e ▸ HL2.out.bd.1)
              have P76 := Kd.Q_below P7.out HB6.out
              refine ⟨_, _, rfl, Kd.Q_mono (ok' := fun _ => True) (Kd.Q_far (p := ⟨w.heap.size, 4, none⟩) (Kd.Q_far (p := ⟨w.heap.size, 3, none⟩) (Kd.Q_far (p := ⟨w.heap.size, 2, none⟩) (Kd.Q_far (p := ⟨w.heap.size, 1, none⟩) (Kd.Q_far (p := ⟨w.heap.size, 0, none⟩) P76 (fun k hk => hk.1.2) _) (fun k hk => hk.1.2) _) (fun k hk => hk.1.2) _) (fun k hk => hk.1.2) _) (fun k hk => hk.1.2) _) (fun _ _ => trivial), ?_, below5 (below_step BW.out HB6.out) (Nat.le_refl w.heap.size)⟩
              exact Kd.R_mono (Kd.R_far (p := ⟨w.heap.size, 4, none⟩) (Kd.R_far (p := ⟨w.heap.size, 3, none⟩) (Kd.R_far (p := ⟨w.heap.size, 2, none⟩) (Kd.R_far (p := ⟨w.heap.size, 1, none⟩) (Kd.R_far (p := ⟨w.heap.size, 0, none⟩) P56 hnb _) hnb _) hnb _) hnb _) hnb _) (fun _ _ => trivial)
            · have q9 : (ck == 0) = false := beq_eq_false_iff_ne.2 hc0
              have q8 : (ck != 0) = true := bne_iff_ne.2 hc0
              have hy : some (pr0, (0 : Int), ck) = some (p, ln, e2) := by rw [if_neg hc0] at hy; exact hy
              have HYE := Aside0.mk hy
              clear hy
              go_wp2_with (first | (go_at_call 33; (with_reducible refine CK.out.mono ?_); rintro e w6 ⟨rfl, HB6⟩; have HB6 := Aside0.mk HB6; have RB6 := Aside0.mk (blk_below RB.out HB6.out); obtain ⟨hz0, hz1, hz2, hz3, hz4, hy0, hy1, hy2, hy3, hy4⟩ := cz5_ RB6.out))
              refine bodyPost_ret (results_ctt rfl _ _ w.heap.size 35 zeroC (0, 0) _ rfl (put5 RB6.out) hu35 rfl (by kernel_rfl)) rfl ?_
              obtain ⟨rfl, rfl, rfl⟩ := by simpa using HYE.out
              exact post0 (ln := (0 : Int)) (e2 := ck) (below5 (a := .string ⟨#[]⟩) (b := .slice none 0 0) (c := .int .i64 0) (d := .int .i64 0) (e := .slice none 0 0) (below_step BW.out HB6.out) (Nat.le_refl w.heap.size))
          · have e0 : (re.toList == ([] : List UInt8)) = false := beq_eq_false_iff_ne.2 h9
            have e1 : (re.toList != ([] : List UInt8)) = true := bne_iff_ne.2 h9
            go_wp2
            refine bodyPost_ret (results_ctt rfl _ _ w.heap.size 35 zeroC (0, 0) _ rfl (put5 RB.out) hu35 rfl (by kernel_rfl)) rfl ?_
            have hy : some (pr0, (m : Int) + 1, (2 : Int)) = some (p, ln, e2) := by have h := HY.out; rw [← HXE.out, if_pos rfl, if_neg (by simp), RDx.out, if_neg h9, NLx.out] at h; exact h
            obtain ⟨rfl, rfl, rfl⟩ := by simpa using hy
            exact post0 (ln := (m : Int) + 1) (e2 := 2) (below5 (a := .string ⟨#[]⟩) (b := .slice none 0 0) (c := .int .i64 0) (d := .int .i64 0) (e := .slice none 0 0) BW.out (Nat.le_refl w.heap.size))
end Go.Proofs.YthfhbdncphkdaaaDoor.H

/- Printed by a program of this session (xprint.py, over the kit's printer): Go functions as Lean functions, each with the proof that the call does what the Lean function says. -/
import Derived.Test.YthfhbdncphkdaaaDoorG0
import Derived.Test.YthfhbdncphkdaaaDoorGa
import Derived.Test.YthfhbdncphkdaaaDoorGf19
import Derived.Test.YthfhbdncphkdaaaDoorLexEv
namespace Go.Proofs.YthfhbdncphkdaaaDoor.G
open Go.RowKit Go.Proofs.YthfhbdncphkdaaaDoorW.PrintWords Go.Proofs.YthfhbdncphkdaaaDoorW.PrintLast Go.Proofs.YthfhbdncphkdaaaDoorW.PrintMore
attribute [local go_sem] max2_int min2_int max_two min_two max_three min_three max_four min_four   -- for this text's walks alone
attribute [local go_sem] xs_gtr xs_leq xs_geq
set_option linter.unusedVariables false
set_option linter.unusedSimpArgs false

/-! ### lex_token: function 42 -/
--EXT lex_token
def lex_token.f (a0 : ByteArray) (a1 : Int) : Option (Int × Int × ByteArray × Int × Int) := if a0.size ≤ 140737488351232 ∧ 0 ≤ a1 ∧ a1 < (a0.size : Int) then some (tokS a0 a1.toNat) else none
theorem blk_put4 {w : World} {g : Nat} {t : TypeId} {c0 c1 c2 c3 : Value} (h : w.heap[g]? = some (.cells #[c0, c1, c2, c3] t (0, 0))) (a b c d : Value) :
    ((((w.setCell ⟨g, 0, none⟩ a).setCell ⟨g, 1, none⟩ b).setCell ⟨g, 2, none⟩ c).setCell ⟨g, 3, none⟩ d).heap[g]? = some (.cells #[a, b, c, d] t (0, 0)) :=
  blk_put (blk_put (blk_put (blk_put h 0 a rfl) 1 b rfl) 2 c rfl) 3 d rfl
theorem blk_off {w : World} {g : Nat} {o : Obj} (h : w.heap[g]? = some o) (p : Addr) (u : Value) (hne : g ≠ p.block) : (w.setCell p u).heap[g]? = some o := (Below.heap_setCell w p u g hne).trans h
theorem tok_posts (w : World) (g : Nat) (hg : w.heap.size ≤ g) {W : World} (hb : Below w.heap.size w W) (a b c d : Value) :
    Below w.heap.size w ((((W.setCell ⟨g, 0, none⟩ a).setCell ⟨g, 1, none⟩ b).setCell ⟨g, 2, none⟩ c).setCell ⟨g, 3, none⟩ d) :=
  below_set (below_set (below_set (below_set hb hg) hg) hg) hg
set_option maxHeartbeats 4000000 in
set_option maxRecDepth 100000 in
theorem token_short (a0 : ByteArray) (a1 : Int) (e : Int) (k : Nat) (w : World) (hgh : Gh w) (p0 : 0 ≤ a1) (q0 : a1 < (a0.size : Int)) (hl : isLb (bt a0 a1) = true)
    (he0 : a1 ≤ e) (he1 : e ≤ (a0.size : Int)) (hw : lex_wordEnd.f k a0 a1 = some e) (hshort : e - a1 ≤ 32) (kw : Bool) (hk : lex_Keyword.f (a0.extract a1.toNat e.toNat) = some kw) :
    Calls Tryd.prog 42 #[.string a0, .int .i64 a1] w fun e' w' => e' = .returned (.tuple #[.agg #[.int .i64 (if kw = true then 2 else 1), .int .i64 a1, .string (a0.extract a1.toNat e.toNat), .int .i64 0], .int .i64 0]) ∧ Below w.heap.size w w' := by
  have hu30 := Tryd.underlying30
  have A1 := Aside0.mk ((isLetter_eq (bt a0 a1)).trans (by rw [hl]))
  have A2 := Aside0.mk hw
  have A3 := Aside0.mk hk
  have HG := Aside0.mk hgh
  clear hl hw hk hgh
  have hx5 := bt_at a0 a1
  have hsz : decide (32 < ((e.toNat - a1.toNat : Nat) : Int)) = false := by simp; omega
  have p5 := eq_true p0
  have q5 := eq_true q0
  have s1 := eq_true he0
  have s2 := eq_true he1
  clear p0 q0 he0 he1 hshort
  cases kw
  all_goals
    go_enter Tryd.func42, Tryd.ntmps42
    go_wp2_with (first | (go_at_call 45; (with_reducible refine (lex_isLetter.calls (bt a0 a1) true _ A1.out).mono ?_); rintro e' w' ⟨rfl, ⟨nd, rfl⟩⟩) | (go_at_call 46; (with_reducible refine (lex_wordEnd.calls k a0 a1 e _ A2.out).mono ?_); rintro e' w' ⟨rfl, ⟨nd, rfl⟩⟩) | (go_at_call 19; (with_reducible refine (lex_Keyword.calls _ _ _ ?side1 A3.out).mono ?_); (case side1 => repeat (first | exact HG.out | (with_reducible refine Gh.drewN ?_ _) | (with_reducible refine Gh.drew ?_) | (with_reducible refine Gh.alloc ?_ _))); rintro e' w' ⟨rfl, ⟨nd, rfl⟩⟩))
  · refine bodyPost_ret (results_ct rfl _ _ w.heap.size 30 #[.int .i64 1, .int .i64 a1, .string (a0.extract a1.toNat e.toNat), .int .i64 0] (0, 0) _ rfl (blk_put4 (blk_drewN (blk_alloc (blk_drewN (blk_new w _) _) _) _) _ _ _ _) Tryd.underlying30 rfl (by kernel_rfl)) rfl ?_
    exact ⟨rfl, tok_posts w _ (Nat.le_refl _) (pw_below_drewN (below_alloc (pw_below_drewN (below_alloc (Below.refl _ _) _) _) _) _) _ _ _ _⟩
  · refine bodyPost_ret (results_ct rfl _ _ w.heap.size 30 #[.int .i64 2, .int .i64 a1, .string (a0.extract a1.toNat e.toNat), .int .i64 0] (0, 0) _ rfl (blk_put4 (blk_off (blk_drewN (blk_alloc (blk_drewN (blk_new w _) _) _) _) _ _ (by simp)) _ _ _ _) Tryd.underlying30 rfl (by kernel_rfl)) rfl ?_
    exact ⟨rfl, tok_posts w _ (Nat.le_refl _) (below_set (pw_below_drewN (below_alloc (pw_below_drewN (below_alloc (Below.refl _ _) _) _) _) _) (by simp)) _ _ _ _⟩
set_option maxHeartbeats 4000000 in
set_option maxRecDepth 100000 in
theorem token_long (a0 : ByteArray) (a1 : Int) (e : Int) (k : Nat) (w : World) (p0 : 0 ≤ a1) (q0 : a1 < (a0.size : Int)) (hl : isLb (bt a0 a1) = true)
    (he0 : a1 ≤ e) (he1 : e ≤ (a0.size : Int)) (hw : lex_wordEnd.f k a0 a1 = some e) (hlong : 32 < e - a1) :
    Calls Tryd.prog 42 #[.string a0, .int .i64 a1] w fun e' w' => e' = .returned (.tuple #[.agg #[.int .i64 0, .int .i64 0, .string (⟨#[]⟩ : ByteArray), .int .i64 0], .int .i64 3]) ∧ Below w.heap.size w w' := by
  have hu30 := Tryd.underlying30
  have A1 := Aside0.mk ((isLetter_eq (bt a0 a1)).trans (by rw [hl]))
  have A2 := Aside0.mk hw
  clear hl hw
  have hx5 := bt_at a0 a1
  have hsz : decide (32 < ((e.toNat - a1.toNat : Nat) : Int)) = true := by simp; omega
  have p5 := eq_true p0
  have q5 := eq_true q0
  have s1 := eq_true he0
  have s2 := eq_true he1
  clear p0 q0 he0 he1 hlong
  go_enter Tryd.func42, Tryd.ntmps42
  go_wp2_with (first | (go_at_call 45; (with_reducible refine (lex_isLetter.calls (bt a0 a1) true _ A1.out).mono ?_); rintro e' w' ⟨rfl, ⟨nd, rfl⟩⟩) | (go_at_call 46; (with_reducible refine (lex_wordEnd.calls k a0 a1 e _ A2.out).mono ?_); rintro e' w' ⟨rfl, ⟨nd, rfl⟩⟩))
  refine bodyPost_ret (results_ct rfl _ _ w.heap.size 30 #[.int .i64 0, .int .i64 0, .string (⟨#[]⟩ : ByteArray), .int .i64 0] (0, 0) _ rfl (blk_alloc (blk_put4 (blk_drewN (blk_new w _) _) _ _ _ _) _) Tryd.underlying30 rfl (by kernel_rfl)) rfl ?_
  exact ⟨rfl, below_alloc (tok_posts w _ (Nat.le_refl _) (pw_below_drewN (below_alloc (Below.refl _ _) _) _) _ _ _ _) _⟩
set_option maxHeartbeats 4000000 in
set_option maxRecDepth 100000 in
theorem token_digit (a0 : ByteArray) (a1 : Int) (k : Nat) (r1 r2 : Int) (r3 : ByteArray) (r4 r5 : Int) (w : World) (p0 : 0 ≤ a1) (q0 : a1 < (a0.size : Int)) (hl : isLb (bt a0 a1) = false) (hd : isDb (bt a0 a1) = true)
    (hn : lex_number.f k a0 a1 = some (r1, r2, r3, r4, r5)) :
    Calls Tryd.prog 42 #[.string a0, .int .i64 a1] w fun e' w' => e' = .returned (.tuple #[.agg #[.int .i64 r1, .int .i64 r2, .string r3, .int .i64 r4], .int .i64 r5]) ∧ Below w.heap.size w w' := by
  have hu30 := Tryd.underlying30
  have A1 := Aside0.mk ((isLetter_eq (bt a0 a1)).trans (by rw [hl]))
  have A2 := Aside0.mk ((isDigit_eq (bt a0 a1)).trans (by rw [hd]))
  have A3 := Aside0.mk hn
  clear hl hd hn
  have hx5 := bt_at a0 a1
  have p5 := eq_true p0
  have q5 := eq_true q0
  clear p0 q0
  go_enter Tryd.func42, Tryd.ntmps42
  go_wp2_with (first | (go_at_call 45; (with_reducible refine (lex_isLetter.calls (bt a0 a1) false _ A1.out).mono ?_); rintro e' w' ⟨rfl, ⟨nd, rfl⟩⟩) | (go_at_call 72; (with_reducible refine (lex_isDigit.calls (bt a0 a1) true _ A2.out).mono ?_); rintro e' w' ⟨rfl, ⟨nd, rfl⟩⟩) | (go_at_call 73; (with_reducible refine (lex_number.calls k a0 a1 r1 r2 r3 r4 r5 _ A3.out).mono ?_); rintro e' w1 ⟨rfl, hb⟩; have BK := Aside0.mk (blk_below (g := w.heap.size) (o := .cells #[.int .i64 0, .int .i64 0, .string (⟨#[]⟩ : ByteArray), .int .i64 0] 30 (0, 0)) (by repeat (first | exact blk_new _ _ | refine blk_drewN ?_ _ | refine blk_alloc ?_ _)) hb); have HB := Aside0.mk (below_step (w := w) (by repeat (first | exact Below.refl _ _ | apply pw_below_drewN | apply below_alloc | apply below_drew1)) hb); clear hb; have hcz0 := (blk_cell BK.out 0).trans rfl; have hcz1 := (blk_cell BK.out 1).trans rfl; have hcz2 := (blk_cell BK.out 2).trans rfl; have hcz3 := (blk_cell BK.out 3).trans rfl; have hfz0 := blk_frozen BK.out 0; have hfz1 := blk_frozen BK.out 1; have hfz2 := blk_frozen BK.out 2; have hfz3 := blk_frozen BK.out 3))
  refine bodyPost_ret (results_ct rfl _ _ w.heap.size 30 #[.int .i64 r1, .int .i64 r2, .string r3, .int .i64 r4] (0, 0) _ rfl (blk_put4 BK.out _ _ _ _) Tryd.underlying30 rfl (by kernel_rfl)) rfl ?_
  exact ⟨rfl, tok_posts w _ (Nat.le_refl _) HB.out _ _ _ _⟩
theorem pre_stands (s : ByteArray) (a1 : Int) (m : ByteArray) (p0 : 0 ≤ a1) (q0 : a1 < (s.size : Int)) (hm : m.size ≤ 2) : strings_HasPrefix.f (s.extract a1.toNat s.size) m = some (standsAt s a1.toNat m) := by
  unfold strings_HasPrefix.f stringslite_HasPrefix.f standsAt
  have hz : (s.extract a1.toNat s.size).size = s.size - a1.toNat := by simp [ByteArray.size_extract]
  by_cases h : a1.toNat + m.size ≤ s.size
  · rw [if_pos (by omega), if_pos (by omega), if_pos (by omega)]
    have e : (s.extract a1.toNat s.size).extract 0 ((m.size : Int)).toNat = s.extract a1.toNat (a1.toNat + m.size) := by
      apply ByteArray.ext
      simp only [ByteArray.data_extract, Array.extract_extract, Nat.add_zero, Int.toNat_natCast]
      rw [Nat.min_eq_left h]
    rw [e]
    simp [h]
  · rw [if_neg (by omega)]
    simp [h]
theorem find_at (l : List ByteArray) (p : ByteArray → Bool) (j : Nat) (hj : j < l.length) (h : p (l.getD j ByteArray.empty) = true) (hno : ∀ i, i < j → p (l.getD i ByteArray.empty) = false) : l.find? p = some (l.getD j ByteArray.empty) := by
  induction l generalizing j with
  | nil => simp at hj
  | cons x l ih =>
    cases j with
    | zero => simp at h; simp [h]
    | succ j =>
      have h0 := hno 0 (by omega)
      simp at h0
      rw [List.find?_cons, h0]
      simp only [List.getD_cons_succ] at h ⊢
      exact ih j (by simpa using hj) h (fun i hi => by have := hno (i + 1) (by omega); simpa using this)
theorem find_not (l : List ByteArray) (p : ByteArray → Bool) (hno : ∀ i, i < l.length → p (l.getD i ByteArray.empty) = false) : l.find? p = none := by
  rw [List.find?_eq_none]
  intro x hx
  obtain ⟨i, hi, rfl⟩ := List.mem_iff_getElem.1 hx
  have := hno i hi
  simpa [List.getD_eq_getElem?_getD, hi] using this
theorem mark_small (j : Nat) (h : j < 15) : (mkL.getD j ByteArray.empty).size ≤ 2 := by
  have : ∀ x ∈ mkL, x.size ≤ 2 := by decide
  refine this _ ?_
  have hl : j < mkL.length := by simpa [mkL] using h
  simp [List.getD_eq_getElem?_getD, hl]
set_option maxHeartbeats 8000000 in
set_option maxRecDepth 100000 in
theorem token_mark (a0 : ByteArray) (a1 : Int) (r1 r2 : Int) (r3 : ByteArray) (r4 r5 : Int) (w : World) (hgh : Gh w) (p0 : 0 ≤ a1) (q0 : a1 < (a0.size : Int)) (hl : isLb (bt a0 a1) = false) (hd : isDb (bt a0 a1) = false)
    (hn : markS a0 a1.toNat = (r1, r2, r3, r4, r5)) :
    Calls Tryd.prog 42 #[.string a0, .int .i64 a1] w fun e' w' => e' = .returned (.tuple #[.agg #[.int .i64 r1, .int .i64 r2, .string r3, .int .i64 r4], .int .i64 r5]) ∧ Below w.heap.size w w' := by
  have hu30 := Tryd.underlying30
  have A1 := Aside0.mk ((isLetter_eq (bt a0 a1)).trans (by rw [hl]))
  have A2 := Aside0.mk ((isDigit_eq (bt a0 a1)).trans (by rw [hd]))
  have A3 := Aside0.mk hn
  have P0 := Aside0.mk p0
  have Q0 := Aside0.mk q0
  clear hl hd hn
  have hx5 := bt_at a0 a1
  have p5 := eq_true p0
  have q5 := eq_true q0
  have q6 := eq_true (show a1 ≤ (a0.size : Int) by omega)
  obtain ⟨t, fr, hrow⟩ := hgh.ms
  have Hrow := Aside0.mk hrow
  clear p0 q0 hgh hrow
  go_enter Tryd.func42, Tryd.ntmps42
  go_wp2_with (first | (go_at_call 45; (with_reducible refine (lex_isLetter.calls (bt a0 a1) false _ A1.out).mono ?_); rintro e' w' ⟨rfl, ⟨nd, rfl⟩⟩) | (go_at_call 72; (with_reducible refine (lex_isDigit.calls (bt a0 a1) false _ A2.out).mono ?_); rintro e' w' ⟨rfl, ⟨nd, rfl⟩⟩) | (refine wpList_load_row rfl 93 _ rfl 1 rfl t _ fr _ (by repeat (first | exact Hrow.out | refine blk_drewN ?_ _ | refine blk_alloc ?_ _)) Tryd.underlying93 rfl (by kernel_rfl) ?_))
  go_loopw [43] (fun v wr => ∃ j : Nat, v = .int .i64 j ∧ j ≤ 15 ∧ Aside0 (∀ i, i < j → standsAt a0 a1.toNat (mkL.getD i ByteArray.empty) = false) ∧ Aside0 (wr.heap[w.heap.size]? = some (.cells #[.int .i64 0, .int .i64 0, .string (⟨#[]⟩ : ByteArray), .int .i64 0] 30 (0, 0))) ∧ Aside0 (Below w.heap.size w wr)) (fun v _ => 15 - (intOf v).toNat)
  case atStart => exact ⟨0, rfl, by omega, ⟨fun i hi => by omega⟩, ⟨by repeat (first | exact blk_new _ _ | refine blk_drewN ?_ _ | refine blk_alloc ?_ _)⟩, ⟨by repeat (first | exact Below.refl _ _ | apply pw_below_drewN | apply below_alloc | apply below_drew1)⟩⟩
  case round =>
    obtain ⟨j, rfl, hj, hno, BK, HB⟩ := hrel
    by_cases hlt : j < 15
    · have hrun : ∀ W : World, (Instr.index 93 (.agg (mkL.map Value.string).toArray) (.int .i64 (j : Int))).run Tryd.prog W = .ok (.string (mkL.getD j ByteArray.empty)) W := fun W => run_index_row mkL .i64 j Tryd.underlying93 Tryd.underlying9 (by kernel_rfl) rfl (by simpa [mkL] using hlt)
      have hsm := mark_small j hlt
      obtain ⟨x, hx⟩ : ∃ x, mkL.getD j ByteArray.empty = x := ⟨_, rfl⟩
      rw [hx] at hrun hsm
      have HX := Aside0.mk hx
      clear hx
      have hpre := pre_stands a0 a1 x P0.out Q0.out hsm
      have HS := Aside0.mk hsm
      clear hsm
      have hcz0 := (blk_cell BK.out 0).trans rfl
      have hcz1 := (blk_cell BK.out 1).trans rfl
      have hcz2 := (blk_cell BK.out 2).trans rfl
      have hcz3 := (blk_cell BK.out 3).trans rfl
      have hfz0 := blk_frozen BK.out 0
      have hfz1 := blk_frozen BK.out 1
      have hfz2 := blk_frozen BK.out 2
      have hfz3 := blk_frozen BK.out 3
      by_cases he : standsAt a0 a1.toNat x = true
      · have hf : mkL.find? (standsAt a0 a1.toNat) = some x := by
          have := find_at mkL (standsAt a0 a1.toNat) j (by simpa [mkL] using hlt) (by rw [HX.out]; exact he) hno.out
          rw [HX.out] at this; exact this
        rw [he] at hpre
        have A4 := Aside0.mk hpre
        have h3 := A3.out
        unfold markS at h3
        rw [show mkS = mkL from rfl, hf] at h3
        simp only [Prod.mk.injEq] at h3
        obtain ⟨rfl, hr2, rfl, rfl, rfl⟩ := h3
        have H2 := Aside0.mk hr2
        clear hpre hf he hr2
        go_wp2_with (go_at_call 40; (with_reducible refine (strings_HasPrefix.calls _ x true _ A4.out).mono ?_); rintro e' w' ⟨rfl, ⟨nd, rfl⟩⟩)
        refine bodyPost_ret (results_ct rfl _ _ w.heap.size 30 #[.int .i64 4, .int .i64 a1, .string x, .int .i64 0] (0, 0) _ rfl (blk_put4 (by repeat (first | exact BK.out | refine blk_drewN ?_ _ | refine blk_alloc ?_ _)) _ _ _ _) Tryd.underlying30 rfl (by kernel_rfl)) rfl ?_
        have e2 : r2 = a1 := by rw [← H2.out]; have := P0.out; omega
        exact ⟨by rw [e2]; rfl, tok_posts w _ (Nat.le_refl _) (by repeat (first | exact HB.out | apply pw_below_drewN | apply below_alloc | apply below_drew1)) _ _ _ _⟩
      · have he := Bool.eq_false_iff.2 he
        rw [he] at hpre
        have A4 := Aside0.mk hpre
        have HE := Aside0.mk he
        clear hpre he
        go_wp2_with (go_at_call 40; (with_reducible refine (strings_HasPrefix.calls _ x false _ A4.out).mono ?_); rintro e' w' ⟨rfl, ⟨nd, rfl⟩⟩)
        go_roundw
        case rel => exact ⟨j + 1, by go_num, by omega, ⟨fun i hi => by
          by_cases e : i = j
          · subst e; rw [HX.out]; exact HE.out
          · exact hno.out i (by omega)⟩, ⟨by repeat (first | exact BK.out | refine blk_drewN ?_ _ | refine blk_alloc ?_ _)⟩, ⟨by repeat (first | exact HB.out | apply pw_below_drewN | apply below_alloc | apply below_drew1)⟩⟩
        case measure => simp [intOf]; omega
    · obtain rfl : j = 15 := by omega
      have hf := find_not mkL (standsAt a0 a1.toNat) (fun i hi => hno.out i (by simpa [mkL] using hi))
      have h3 := A3.out
      unfold markS at h3
      rw [show mkS = mkL from rfl, hf] at h3
      simp only [noTok, Prod.mk.injEq] at h3
      obtain ⟨rfl, rfl, rfl, rfl, rfl⟩ := h3
      have hcz0 := (blk_cell BK.out 0).trans rfl
      have hcz1 := (blk_cell BK.out 1).trans rfl
      have hcz2 := (blk_cell BK.out 2).trans rfl
      have hcz3 := (blk_cell BK.out 3).trans rfl
      have hfz0 := blk_frozen BK.out 0
      have hfz1 := blk_frozen BK.out 1
      have hfz2 := blk_frozen BK.out 2
      have hfz3 := blk_frozen BK.out 3
      clear hf hno
      go_wp2
      refine bodyPost_ret (results_ct rfl _ _ w.heap.size 30 #[.int .i64 0, .int .i64 0, .string (⟨#[]⟩ : ByteArray), .int .i64 0] (0, 0) _ rfl (blk_put4 BK.out _ _ _ _) Tryd.underlying30 rfl (by kernel_rfl)) rfl ?_
      exact ⟨rfl, tok_posts w _ (Nat.le_refl _) HB.out _ _ _ _⟩
theorem lex_token.calls (a0 : ByteArray) (a1 : Int) (r1 r2 : Int) (r3 : ByteArray) (r4 r5 : Int) (w : World) (hgh : Gh w) (h : lex_token.f a0 a1 = some (r1, r2, r3, r4, r5)) :
    Calls Tryd.prog 42 #[.string a0, .int .i64 a1] w fun e w' => e = .returned (.tuple #[.agg #[.int .i64 r1, .int .i64 r2, .string r3, .int .i64 r4], .int .i64 r5]) ∧ Below w.heap.size w w' := by
  unfold lex_token.f at h
  by_cases hc : a0.size ≤ 140737488351232 ∧ 0 ≤ a1 ∧ a1 < (a0.size : Int)
  · rw [if_pos hc] at h
    obtain ⟨hs, p0, q0⟩ := hc
    obtain ⟨n, rfl⟩ := Int.eq_ofNat_of_zero_le p0
    have h := Option.some.inj h
    rw [Int.toNat_natCast] at h
    unfold tokS at h
    by_cases hl : isLb (bt a0 n) = true
    · rw [if_pos hl] at h
      obtain ⟨k, hk⟩ := (wordEnd_ev a0 hs n).rounds
      have h1 := le_scan isWb a0 n
      have h2 := scan_le' isWb a0 n (by omega)
      by_cases hlen : scan isWb a0 n - n > 32
      · rw [if_pos hlen] at h
        simp only [noTok, Prod.mk.injEq] at h
        obtain ⟨rfl, rfl, rfl, rfl, rfl⟩ := h
        exact token_long a0 n _ k w p0 q0 hl (by omega) (by omega) hk (by omega)
      · rw [if_neg hlen] at h
        simp only [Prod.mk.injEq] at h
        obtain ⟨rfl, rfl, rfl, rfl, rfl⟩ := h
        have := token_short a0 n (scan isWb a0 n : Nat) k w hgh p0 q0 hl (by omega) (by omega) hk (by omega) (isKw (cut a0 n (scan isWb a0 n))) (by simp [lex_Keyword.f, isKw, cut]; rfl)
        simpa [cut] using this
    · have hl := Bool.eq_false_iff.2 hl
      rw [if_neg (by simp [hl])] at h
      by_cases hd : isDb (bt a0 n) = true
      · rw [if_pos hd] at h
        obtain ⟨k, hk⟩ := (num_ev a0 hs n (by omega) hd).rounds
        rw [h] at hk
        exact token_digit a0 n k _ _ _ _ _ w p0 q0 hl hd hk
      · have hd := Bool.eq_false_iff.2 hd
        rw [if_neg (by simp [hd])] at h
        exact token_mark a0 n _ _ _ _ _ w hgh p0 q0 hl hd (by rw [Int.toNat_natCast]; exact h)
  · rw [if_neg hc] at h; cases h


end Go.Proofs.YthfhbdncphkdaaaDoor.G

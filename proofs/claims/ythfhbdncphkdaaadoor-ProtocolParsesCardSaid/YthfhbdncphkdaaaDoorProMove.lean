/- A move of a protocol's text is taken: the call of move does what is told of it. -/
import Derived.Test.YthfhbdncphkdaaaDoorProForms
import Derived.Test.YthfhbdncphkdaaaDoorHb
import Derived.Test.YthfhbdncphkdaaaDoorH0
namespace Go.Proofs.YthfhbdncphkdaaaDoor.H
open Go.RowKit Go.Proofs.YthfhbdncphkdaaaDoorW.PrintWords Go.Proofs.YthfhbdncphkdaaaDoorW.PrintLast Go.Proofs.YthfhbdncphkdaaaDoorW.PrintMore
set_option linter.unusedVariables false
set_option linter.unusedSimpArgs false

theorem state2 (k : Nat) (g : Nat) (cl : ByteArray) (A : Option Addr) (c : Nat) (ss : List ByteArray) (st er : Int) (vm : Value) (nm : ByteArray) (b o : Nat) (cs : Array Value) (t : TypeId) (x : Int) (r : Int) (w : World)
    (hp : PAt w g cl A ss.length c st er vm) (hr : Kd.C Kd.string w A ss.length ss) (hc : ss.length ≤ c) (hb : w.heap[b]? = some (.cells cs t (0, 0))) (hx : cs[o]? = some (.int .i64 x)) (h : slices_Index_string_string.f k ss nm = some r) :
    Calls Tryd.prog 89 #[.pointer (some ⟨g, 0, none⟩), .string nm, .pointer (some ⟨b, o, none⟩)] w fun e w' => e = .returned (.int .i64 (if r < 0 then 6 else 0)) ∧ w'.heap[b]? = some (.cells (if r < 0 then cs else cs.setIfInBounds o (.int .i64 r)) t (0, 0)) ∧ Own w w' b := by
  refine (state_calls k g cl A c ss st er vm nm b o cs t x r w hp hr hc hb hx h).mono ?_
  rintro e w' (⟨h0, rfl, hd⟩ | ⟨h0, rfl, w1, hd, rfl⟩)
  · rw [if_pos h0, if_pos h0]
    refine ⟨rfl, ?_, Own.drawn hd⟩
    obtain ⟨n, rfl⟩ := hd.out
    exact blk_drewN hb n
  · rw [if_neg (by omega), if_neg (by omega)]
    refine ⟨rfl, ?_, Own.set hd _⟩
    obtain ⟨n, rfl⟩ := hd.out
    exact blk_put (blk_drewN hb n) o _ rfl
theorem store_step_ {P : Program} {ops : Array Oper} {o : Oper} {a : Act} {Q : Exit → Act → World → Prop} {Kc : Act → World → Prop} {W w1 : World} (hw : Region.wanted o (yielded ops a.tmps) = true) (hN : o.dst = none) (hrun : (execOp a.eval o).run P W = .ok .skip w1) (h : Kc a w1) :
    if Region.wanted o (yielded ops a.tmps) = true then Oper.wp P o a W Kc Q else Kc (a.put o.dst undef) W := by
  rw [if_pos hw]
  unfold Oper.wp
  rw [hrun]
  show Kc (a.put o.dst undef) w1
  rw [hN]
  exact h
def move63.T2 : Bool × List (List Nat × List Nat) := (true, [([], []), ([], []), ([1], [1]), ([2], [2]), ([], []), ([0, 3, 4], [0, 3, 4]), ([], []), ([], []), ([7], [7]), ([8], [8]), ([], []), ([6, 9, 10, 5], [6, 9, 10]), ([5, 11], [5, 11]), ([12, 11], [12]), ([13, 13, 0, 1, 2, 3, 4, 5, 6, 7, 8, 9, 10, 11, 12, 13], [13])])
def move63.B2 : List Nat := [0, 0, 2, 6, 0, 31, 0, 0, 128, 384, 0, 2047, 4095, 8191, 16383]
theorem move63.tab2 : rtab .any (opsOf Tryd.f63 2) = move63.T2 := by kernel_rfl
theorem move63.bits2 : waitsOk move63.T2.2 move63.B2 = true := by kernel_rfl
def move63.T5 : Bool × List (List Nat × List Nat) := (true, [([], []), ([], []), ([1], [1]), ([2], [2]), ([3], [3]), ([], []), ([5], [5]), ([4, 6], [4, 6]), ([0, 0, 1, 2, 3, 4, 5, 6, 7], [0]), ([8, 0, 1, 2, 3, 4, 5, 6, 7], [8]), ([9, 7, 7, 0, 1, 2, 3, 4, 5, 6, 7], [7, 9])])
def move63.B5 : List Nat := [0, 0, 2, 6, 14, 0, 32, 126, 255, 511, 1023]
theorem move63.tab5 : rtab .any (opsOf Tryd.f63 5) = move63.T5 := by kernel_rfl
theorem move63.bits5 : waitsOk move63.T5.2 move63.B5 = true := by kernel_rfl
set_option maxHeartbeats 4000000 in
set_option maxRecDepth 100000 in
theorem move_calls (kk : Nat) (g base : Nat) (bad : List Nat) (fr : Bool) (cl : ByteArray) (ss : List ByteArray) (st er : Int) (ms : List S64) (aw : Addr) (cw : Nat) (ws : List ByteArray) (r1 r3 : Int) (w0 w : World) (hp : PRep w g base bad fr cl ss st er ms) (hw : Kd.C Kd.string w (some aw) ws.length ws) (h1 : 3 < ws.length)
    (hi1 : slices_Index_string_string.f kk ss (rdOf ByteArray.empty ws 1) = some r1) (hi3 : slices_Index_string_string.f kk ss (rdOf ByteArray.empty ws 3) = some r3) (hms : ms.length ≤ 100000000) (hb0 : Below w0.heap.size w0 w) (hbase : base = w0.heap.size) (hbg : base ≤ g) (e2 : Int) (hz : e2 = 0 → 0 ≤ r1 ∧ 0 ≤ r3) (he : api_Errno.f kk [if r1 < 0 then 6 else 0, if r3 < 0 then 6 else 0] = some e2) :
    Calls Tryd.prog 63 #[.pointer (some ⟨g, 0, none⟩), .slice (some aw) ws.length cw] w fun e w' => e = .returned (.int .i64 e2) ∧ (e2 = 0 → PRep w' g base bad false cl ss st er (ms ++ [⟨r1, rdOf ByteArray.empty ws 2, r3⟩])) ∧ Kept w w' (KS g bad) ∧ Below w0.heap.size w0 w' := by
  obtain ⟨⟨A, c, vm, a1, a2, a3, a4, a5, a6, a9⟩, a7, a8⟩ := hp
  have hu64 := Tryd.underlying64
  obtain ⟨aw', eA, hx1⟩ := Kd.at_string hw 1 (by omega) (by omega)
  obtain rfl : aw = aw' := by injection eA
  clear eA
  obtain ⟨aw', eA, hx2⟩ := Kd.at_string hw 2 (by omega) (by omega)
  obtain rfl : aw = aw' := by injection eA
  clear eA
  obtain ⟨aw', eA, hx3⟩ := Kd.at_string hw 3 (by omega) (by omega)
  obtain rfl : aw = aw' := by injection eA
  clear eA
  have X1 := Aside0.mk (show w.cell? ⟨aw.block, aw.off + 1, none⟩ = some (.string (rdOf ByteArray.empty ws 1)) from hx1)
  have hx2' : w.cell? ⟨aw.block, aw.off + 2, none⟩ = some (.string (rdOf ByteArray.empty ws 2)) := hx2
  have X3 := Aside0.mk (show w.cell? ⟨aw.block, aw.off + 3, none⟩ = some (.string (rdOf ByteArray.empty ws 3)) from hx3)
  have p1 := eq_true (show (1 : Int) < (ws.length : Int) by omega)
  have p2 := eq_true (show (2 : Int) < (ws.length : Int) by omega)
  have p3 := eq_true (show (3 : Int) < (ws.length : Int) by omega)
  have A1 := Aside0.mk a1
  have A2 := Aside0.mk a2
  have A3 := Aside0.mk a3
  have A4 := Aside0.mk a4
  have A5 := Aside0.mk (Kd.R_elderB a5 w.heap.size (Nat.le_refl _))
  have A7 := Aside0.mk a7
  have A8 := Aside0.mk a8
  have A9 := Aside0.mk a9
  have HZ := Aside0.mk hz
  have I1 := Aside0.mk hi1
  have I3 := Aside0.mk hi3
  have HE := Aside0.mk he
  have B0 := Aside0.mk hb0
  have GB := Aside0.mk (And.intro hbase hbg)
  have MS := Aside0.mk hms
  clear hz hx1 hx2 hx3 a1 a2 a3 a4 a5 a6 a7 a8 a9 hi1 hi3 he hb0 hbase hbg hms hw
  go_enter Tryd.func63, Tryd.ntmps63
  go_wp2
  have HB1 := Aside0.mk (below_drew1 (below_alloc (Below.refl w.heap.size w) (.cells #[.int .i64 0, .string (rdOf ByteArray.empty ws 2), .int .i64 0] 64 (0, 0))))
  have BM1 := Aside0.mk (blk_drew (blk_new w (.cells #[.int .i64 0, .string (rdOf ByteArray.empty ws 2), .int .i64 0] 64 (0, 0))))
  refine start_ (n := 15) (S := fun w' => w'.cell? ⟨aw.block, aw.off + 1, none⟩ = some (.string (rdOf ByteArray.empty ws 1)) ∧ w'.cell? ⟨aw.block, aw.off + 3, none⟩ = some (.string (rdOf ByteArray.empty ws 3))) (ds := []) #[false, false, false, false, false, false, false, false, false, false, false, false, false, false, false] (by kernel_rfl) rfl rfl ⟨(HB1.out.cell (World.block_lt_of_cell? w _ X1.out)).trans X1.out, (HB1.out.cell (World.block_lt_of_cell? w _ X3.out)).trans X3.out⟩ (fun hHeld => ?_)
  refine with_tabW move63.tab2 move63.bits2 (fun HT_ HW_ => ?_)
  generalize (w.alloc (.cells #[.int .i64 0, .string (rdOf ByteArray.empty ws 2), .int .i64 0] 64 (0, 0))).drew = w1 at HB1 BM1 hHeld ⊢
  refine pure_ (i := 0) (N := some 11) (v := ?_) (a' := ?_) #[true, false, false, false, false, false, false, false, false, false, false, false, false, false, false] rfl rfl (any_of HT_.out (by kernel_rfl)) (fun _ _ _ h => h) (Or.inl ⟨by rfl, ?_⟩) ?_ ?_
  rotate_left
  · intro w'
    go_simp
    with_reducible rfl
  rotate_left
  · simp only [Act.put, List.setIfInBounds_toArray, List.set_cons_zero, List.set_cons_succ, i64_w, i32_w]
    rfl
  refine pure_ (i := 1) (N := some 12) (v := ?_) (a' := ?_) #[true, true, false, false, false, false, false, false, false, false, false, false, false, false, false] rfl rfl (any_of HT_.out (by kernel_rfl)) (fun _ _ _ h => h) (Or.inl ⟨by rfl, ?_⟩) ?_ ?_
  rotate_left
  · intro w'
    go_simp
    with_reducible rfl
  rotate_left
  · simp only [Act.put, List.setIfInBounds_toArray, List.set_cons_zero, List.set_cons_succ, i64_w, i32_w]
    rfl
  refine pure_ (i := 2) (N := some 13) (v := ?_) (a' := ?_) #[true, true, true, false, false, false, false, false, false, false, false, false, false, false, false] rfl rfl (any_of HT_.out (by kernel_rfl)) (fun _ _ _ h => h) (Or.inl ⟨by rfl, ?_⟩) ?_ ?_
  rotate_left
  · intro w'
    go_simp
    with_reducible rfl
  rotate_left
  · simp only [Act.put, List.setIfInBounds_toArray, List.set_cons_zero, List.set_cons_succ, i64_w, i32_w]
    rfl
  refine take_ (i := 3) (N := some 14) (v := ?_) (a' := ?_) #[true, true, true, true, false, false, false, false, false, false, false, false, false, false, false] rfl rfl (take_ofW HT_.out HW_.out (by kernel_rfl)) (fun _ _ _ h => h) (Or.inl ⟨by rfl, ?_⟩) hHeld ?_ ?_
  rotate_left
  · rintro w' ⟨s0, s1⟩
    go_simp
    with_reducible rfl
  rotate_left
  · simp only [Act.put, List.setIfInBounds_toArray, List.set_cons_zero, List.set_cons_succ, i64_w, i32_w]
    rfl
  refine pure_ (i := 4) (N := some 15) (v := ?_) (a' := ?_) #[true, true, true, true, true, false, false, false, false, false, false, false, false, false, false] rfl rfl (any_of HT_.out (by kernel_rfl)) (fun _ _ _ h => h) (Or.inl ⟨by rfl, ?_⟩) ?_ ?_
  rotate_left
  · intro w'
    go_simp
    with_reducible rfl
  rotate_left
  · simp only [Act.put, List.setIfInBounds_toArray, List.set_cons_zero, List.set_cons_succ, i64_w, i32_w]
    rfl
  refine pure_ (i := 6) (N := some 17) (v := ?_) (a' := ?_) #[true, true, true, true, true, false, true, false, false, false, false, false, false, false, false] rfl rfl (any_of HT_.out (by kernel_rfl)) (fun _ _ _ h => h) (Or.inl ⟨by rfl, ?_⟩) ?_ ?_
  rotate_left
  · intro w'
    go_simp
    with_reducible rfl
  rotate_left
  · simp only [Act.put, List.setIfInBounds_toArray, List.set_cons_zero, List.set_cons_succ, i64_w, i32_w]
    rfl
  refine pure_ (i := 7) (N := some 18) (v := ?_) (a' := ?_) #[true, true, true, true, true, false, true, true, false, false, false, false, false, false, false] rfl rfl (any_of HT_.out (by kernel_rfl)) (fun _ _ _ h => h) (Or.inl ⟨by rfl, ?_⟩) ?_ ?_
  rotate_left
  · intro w'
    go_simp
    with_reducible rfl
  rotate_left
  · simp only [Act.put, List.setIfInBounds_toArray, List.set_cons_zero, List.set_cons_succ, i64_w, i32_w]
    rfl
  refine pure_ (i := 8) (N := some 19) (v := ?_) (a' := ?_) #[true, true, true, true, true, false, true, true, true, false, false, false, false, false, false] rfl rfl (any_of HT_.out (by kernel_rfl)) (fun _ _ _ h => h) (Or.inl ⟨by rfl, ?_⟩) ?_ ?_
  rotate_left
  · intro w'
    go_simp
    with_reducible rfl
  rotate_left
  · simp only [Act.put, List.setIfInBounds_toArray, List.set_cons_zero, List.set_cons_succ, i64_w, i32_w]
    rfl
  refine take_ (i := 9) (N := some 20) (v := ?_) (a' := ?_) #[true, true, true, true, true, false, true, true, true, true, false, false, false, false, false] rfl rfl (take_ofW HT_.out HW_.out (by kernel_rfl)) (fun _ _ _ h => h) (Or.inl ⟨by rfl, ?_⟩) hHeld ?_ ?_
  rotate_left
  · rintro w' ⟨s0, s1⟩
    go_simp
    with_reducible rfl
  rotate_left
  · simp only [Act.put, List.setIfInBounds_toArray, List.set_cons_zero, List.set_cons_succ, i64_w, i32_w]
    rfl
  refine pure_ (i := 10) (N := some 21) (v := ?_) (a' := ?_) #[true, true, true, true, true, false, true, true, true, true, true, false, false, false, false] rfl rfl (any_of HT_.out (by kernel_rfl)) (fun _ _ _ h => h) (Or.inl ⟨by rfl, ?_⟩) ?_ ?_
  rotate_left
  · intro w'
    go_simp
    with_reducible rfl
  rotate_left
  · simp only [Act.put, List.setIfInBounds_toArray, List.set_cons_zero, List.set_cons_succ, i64_w, i32_w]
    rfl
  refine one_ (i := 5) (N := some 16) #[true, true, true, true, true, true, true, true, true, true, true, false, false, false, false] rfl rfl (one_of HT_.out (by kernel_rfl)) (by decide) (fun K hK => ?_)
  refine goes_ Tryd.func89 (by kernel_rfl) rfl #[.pointer (some ⟨g, 0, none⟩), .string (rdOf ByteArray.empty ws 1), .pointer (some ⟨w.heap.size, 0, none⟩)] (by rfl) rfl rfl (by (try simp only [List.map_toArray, List.map_cons, List.map_nil]); first | done | rfl) ?_
  with_reducible refine (state2 kk g cl A c ss st er vm (rdOf ByteArray.empty ws 1) w.heap.size 0 #[.int .i64 0, .string (rdOf ByteArray.empty ws 2), .int .i64 0] 64 0 r1 _ ?s1 ?s2 A3.out BM1.out ?s4 I1.out).mono ?_
  case s1 => exact blk_below A1.out HB1.out
  case s2 => exact Kd.C_below A2.out HB1.out
  case s4 => rfl
  rintro e w2 ⟨rfl, hbm, hown⟩
  refine ⟨_, rfl, ?_⟩
  have HB2 := Aside0.mk (hown w HB1.out (Nat.le_refl _))
  have BM2 := Aside0.mk (show w2.heap[w.heap.size]? = some (.cells #[.int .i64 (if r1 < 0 then 0 else r1), .string (rdOf ByteArray.empty ws 2), .int .i64 0] 64 (0, 0)) by rw [hbm]; split <;> rfl)
  clear hbm hown
  refine hK.out _ _ ⟨(HB2.out.cell (World.block_lt_of_cell? w _ X1.out)).trans X1.out, (HB2.out.cell (World.block_lt_of_cell? w _ X3.out)).trans X3.out⟩ (fun hHeld => ?_)
  clear hK K
  refine norm_ (a' := ?_) ?_ ?_
  rotate_left
  · show Act.put _ (some 16) _ = _
    simp only [Act.put, List.setIfInBounds_toArray, List.set_cons_zero, List.set_cons_succ, i64_w, i32_w]
    rfl
  refine one_ (i := 11) (N := some 22) #[true, true, true, true, true, true, true, true, true, true, true, true, false, false, false] rfl rfl (one_of HT_.out (by kernel_rfl)) (by decide) (fun K hK => ?_)
  refine goes_ Tryd.func89 (by kernel_rfl) rfl #[.pointer (some ⟨g, 0, none⟩), .string (rdOf ByteArray.empty ws 3), .pointer (some ⟨w.heap.size, 2, none⟩)] (by rfl) rfl rfl (by (try simp only [List.map_toArray, List.map_cons, List.map_nil]); first | done | rfl) ?_
  with_reducible refine (state2 kk g cl A c ss st er vm (rdOf ByteArray.empty ws 3) w.heap.size 2 #[.int .i64 (if r1 < 0 then 0 else r1), .string (rdOf ByteArray.empty ws 2), .int .i64 0] 64 0 r3 _ ?s1 ?s2 A3.out BM2.out ?s4 I3.out).mono ?_
  case s1 => exact blk_below A1.out HB2.out
  case s2 => exact Kd.C_below A2.out HB2.out
  case s4 => rfl
  rintro e w3 ⟨rfl, hbm, hown⟩
  refine ⟨_, rfl, ?_⟩
  have HB3 := Aside0.mk (hown w HB2.out (Nat.le_refl _))
  have BM3 := Aside0.mk (show w3.heap[w.heap.size]? = some (.cells #[.int .i64 (if r1 < 0 then 0 else r1), .string (rdOf ByteArray.empty ws 2), .int .i64 (if r3 < 0 then 0 else r3)] 64 (0, 0)) by rw [hbm]; split <;> rfl)
  clear hbm hown
  refine hK.out _ _ ⟨(HB3.out.cell (World.block_lt_of_cell? w _ X1.out)).trans X1.out, (HB3.out.cell (World.block_lt_of_cell? w _ X3.out)).trans X3.out⟩ (fun hHeld => ?_)
  clear hK K
  refine norm_ (a' := ?_) ?_ ?_
  rotate_left
  · show Act.put _ (some 22) _ = _
    simp only [Act.put, List.setIfInBounds_toArray, List.set_cons_zero, List.set_cons_succ, i64_w, i32_w]
    rfl
  refine one_ (i := 12) (N := some 23) #[true, true, true, true, true, true, true, true, true, true, true, true, true, false, false] rfl rfl (one_of HT_.out (by kernel_rfl)) (by decide) (fun K hK => ?_)
  refine Kd.R_lit_step (Kd.int .i64) _ 23 ?hg (N := 23) ?hd (xs := ([if r1 < 0 then 6 else 0, if r3 < 0 then 6 else 0] : List Int)) (inner := [.int .i64 (if r1 < 0 then 6 else 0), .int .i64 (if r3 < 0 then 6 else 0)]) (ok := fun _ => True) (okp := fun _ => True) ?hr ?hp (fun _ hk => hk) trivial (Below.refl _ _) (Nat.le_refl _) (by simp) ?_
  case hd => rfl
  case hg => rfl
  case hr => first | (go_simp; done) | (go_simp; rfl)
  case hp => exact (Reps.one (show Kd.M (Kd.int .i64) _ _ _ (if r1 < 0 then 6 else 0) [.int .i64 (if r1 < 0 then 6 else 0)] from rfl) (Reps.one (show Kd.M (Kd.int .i64) _ _ _ (if r3 < 0 then 6 else 0) [.int .i64 (if r3 < 0 then 6 else 0)] from rfl) (Reps.none _ _)))
  intro v4 w4 ho hb hg_ hnew_
  clear hg_ hnew_
  have HO4 := Aside0.mk ho
  have HB4 := Aside0.mk (below_step HB3.out hb)
  have BM4 := Aside0.mk (blk_below BM3.out hb)
  clear ho hb
  obtain ⟨Ao4, co4, eo4⟩ := Kd.R_slice HO4.out
  subst eo4
  refine hK.out _ _ ⟨(HB4.out.cell (World.block_lt_of_cell? w _ X1.out)).trans X1.out, (HB4.out.cell (World.block_lt_of_cell? w _ X3.out)).trans X3.out⟩ (fun hHeld => ?_)
  clear hK K
  refine norm_ (a' := ?_) ?_ ?_
  rotate_left
  · show Act.put _ (some 23) _ = _
    simp only [Act.put, List.setIfInBounds_toArray, List.set_cons_zero, List.set_cons_succ, i64_w, i32_w]
    rfl
  refine one_ (i := 13) (N := some 24) #[true, true, true, true, true, true, true, true, true, true, true, true, true, true, false] rfl rfl (one_of HT_.out (by kernel_rfl)) (by decide) (fun K hK => ?_)
  refine goes_ Tryd.func91 (by kernel_rfl) rfl #[.slice Ao4 ([if r1 < 0 then 6 else 0, if r3 < 0 then 6 else 0] : List Int).length co4] (by rfl) rfl rfl (by (try simp only [List.map_toArray, List.map_cons, List.map_nil]); first | done | rfl) ?_
  with_reducible refine (api_Errno.calls kk _ _ [if r1 < 0 then 6 else 0, if r3 < 0 then 6 else 0] e2 _ ?s1 ?s2 HE.out).mono ?_
  case s1 => exact (Kd.R_reads' HO4.out).2.2
  case s2 => exact (Kd.R_reads' HO4.out).2.1
  rintro e w5 ⟨rfl, hd⟩
  refine ⟨_, rfl, ?_⟩
  have HB5 := Aside0.mk (below_step HB4.out hd.below)
  have BM5 := Aside0.mk (blk_below BM4.out hd.below)
  clear hd
  refine hK.out _ _ ⟨(HB5.out.cell (World.block_lt_of_cell? w _ X1.out)).trans X1.out, (HB5.out.cell (World.block_lt_of_cell? w _ X3.out)).trans X3.out⟩ (fun hHeld => ?_)
  clear hK K
  refine norm_ (a' := ?_) ?_ ?_
  rotate_left
  · show Act.put _ (some 24) _ = _
    simp only [Act.put, List.setIfInBounds_toArray, List.set_cons_zero, List.set_cons_succ, i64_w, i32_w]
    rfl
  refine pure_ (i := 14) (N := some 6) (v := ?_) (a' := ?_) #[true, true, true, true, true, true, true, true, true, true, true, true, true, true, true] rfl rfl (any_of HT_.out (by kernel_rfl)) (fun _ _ _ h => h) (Or.inl ⟨by rfl, ?_⟩) ?_ ?_
  rotate_left
  · intro w'
    go_simp
    with_reducible rfl
  rotate_left
  · simp only [Act.put, List.setIfInBounds_toArray, List.set_cons_zero, List.set_cons_succ, i64_w, i32_w]
    rfl
  refine done_ (done_of HT_.out (by kernel_rfl)) ?_
  clear hHeld
  generalize (if r1 < 0 then (6 : Int) else 0) = z1
  generalize (if r3 < 0 then (6 : Int) else 0) = z3
  by_cases h0 : e2 = 0
  · subst h0
    have hz := HZ.out rfl
    have BM6 := Aside0.mk (show w5.heap[w.heap.size]? = some (.cells #[.int .i64 r1, .string (rdOf ByteArray.empty ws 2), .int .i64 r3] 64 (0, 0)) by have h := BM5.out; rw [if_neg (by omega), if_neg (by omega)] at h; exact h)
    clear hz
    try go_wp2
    have AG6 := Aside0.mk (blk_drew (blk_below A1.out HB5.out))
    have BM6 := Aside0.mk (blk_drew BM6.out)
    have HB6 := Aside0.mk (below_drew1 HB5.out)
    refine start_ (n := 11) (S := fun w' => w'.cell? ⟨g, 4, none⟩ = some vm ∧ w'.cell? ⟨w.heap.size, 0, none⟩ = some (.int .i64 r1) ∧ w'.cell? ⟨w.heap.size, 1, none⟩ = some (.string (rdOf ByteArray.empty ws 2)) ∧ w'.cell? ⟨w.heap.size, 2, none⟩ = some (.int .i64 r3)) (ds := [10]) #[false, false, false, false, false, false, false, false, false, false, false] (by kernel_rfl) rfl rfl ⟨(blk_cell AG6.out 4).trans rfl, (blk_cell BM6.out 0).trans rfl, (blk_cell BM6.out 1).trans rfl, (blk_cell BM6.out 2).trans rfl⟩ (fun hHeld => ?_)
    refine with_tabW move63.tab5 move63.bits5 (fun HT_ HW_ => ?_)
    generalize w5.drew = w6 at AG6 BM6 HB6 hHeld ⊢
    refine pure_ (i := 0) (N := some 28) (v := ?_) (a' := ?_) #[true, false, false, false, false, false, false, false, false, false, false] rfl rfl (any_of HT_.out (by kernel_rfl)) (fun _ _ _ h => h) (Or.inl ⟨by rfl, ?_⟩) ?_ ?_
    rotate_left
    · intro w'
      go_simp
      with_reducible rfl
    rotate_left
    · simp only [Act.put, List.setIfInBounds_toArray, List.set_cons_zero, List.set_cons_succ, i64_w, i32_w]
      rfl
    refine pure_ (i := 1) (N := some 29) (v := ?_) (a' := ?_) #[true, true, false, false, false, false, false, false, false, false, false] rfl rfl (any_of HT_.out (by kernel_rfl)) (fun _ _ _ h => h) (Or.inl ⟨by rfl, ?_⟩) ?_ ?_
    rotate_left
    · intro w'
      go_simp
      with_reducible rfl
    rotate_left
    · simp only [Act.put, List.setIfInBounds_toArray, List.set_cons_zero, List.set_cons_succ, i64_w, i32_w]
      rfl
    refine pure_ (i := 2) (N := some 30) (v := ?_) (a' := ?_) #[true, true, true, false, false, false, false, false, false, false, false] rfl rfl (any_of HT_.out (by kernel_rfl)) (fun _ _ _ h => h) (Or.inl ⟨by rfl, ?_⟩) ?_ ?_
    rotate_left
    · intro w'
      go_simp
      with_reducible rfl
    rotate_left
    · simp only [Act.put, List.setIfInBounds_toArray, List.set_cons_zero, List.set_cons_succ, i64_w, i32_w]
      rfl
    refine pure_ (i := 3) (N := some 31) (v := ?_) (a' := ?_) #[true, true, true, true, false, false, false, false, false, false, false] rfl rfl (any_of HT_.out (by kernel_rfl)) (fun _ _ _ h => h) (Or.inl ⟨by rfl, ?_⟩) ?_ ?_
    rotate_left
    · intro w'
      go_simp
      with_reducible rfl
    rotate_left
    · simp only [Act.put, List.setIfInBounds_toArray, List.set_cons_zero, List.set_cons_succ, i64_w, i32_w]
      rfl
    refine take_ (i := 4) (N := some 32) (v := ?_) (a' := ?_) #[true, true, true, true, true, false, false, false, false, false, false] rfl rfl (take_ofW HT_.out HW_.out (by kernel_rfl)) (fun _ _ _ h => h) (Or.inl ⟨by rfl, ?_⟩) hHeld ?_ ?_
    rotate_left
    · rintro w' ⟨s0, s1, s2, s3⟩
      go_simp
      with_reducible rfl
    rotate_left
    · simp only [Act.put, List.setIfInBounds_toArray, List.set_cons_zero, List.set_cons_succ, i64_w, i32_w]
      rfl
    refine take_ (i := 5) (N := some 33) (v := ?_) (a' := ?_) #[true, true, true, true, true, true, false, false, false, false, false] rfl rfl (take_ofW HT_.out HW_.out (by kernel_rfl)) (fun _ _ _ h => h) (Or.inl ⟨by rfl, ?_⟩) hHeld ?_ ?_
    rotate_left
    · rintro w' ⟨s0, s1, s2, s3⟩
      go_simp
      with_reducible rfl
    rotate_left
    · simp only [Act.put, List.setIfInBounds_toArray, List.set_cons_zero, List.set_cons_succ, i64_w, i32_w]
      rfl
    refine one_ (i := 6) (N := some 34) #[true, true, true, true, true, true, true, false, false, false, false] rfl rfl (one_of HT_.out (by kernel_rfl)) (by decide) (fun K hK => ?_)
    refine Kd.R_lit_step k64 _ 64 ?hg (N := 34) ?hd (xs := ([(⟨r1, rdOf ByteArray.empty ws 2, r3⟩ : S64)] : List S64)) (inner := [.int .i64 r1, .string (rdOf ByteArray.empty ws 2), .int .i64 r3]) (ok := fun _ => True) (okp := fun _ => True) ?hr ?hp (fun _ hk => hk) trivial (Below.refl _ _) (Nat.le_refl _) (by simp) ?_
    case hd => rfl
    case hg => rfl
    case hr => first | (go_simp; done) | (go_simp; rfl)
    case hp => exact (Reps.c3 (show Kd.M k64 _ _ _ (⟨r1, rdOf ByteArray.empty ws 2, r3⟩ : S64) [.int .i64 r1, .string (rdOf ByteArray.empty ws 2), .int .i64 r3] from (k64_mkM _ _ _ (⟨r1, rdOf ByteArray.empty ws 2, r3⟩ : S64))) (Reps.none _ _))
    intro v7 w7 ho hb hg_ hnew_
    clear hg_ hnew_
    have HO7 := Aside0.mk ho
    have HB7 := Aside0.mk (below_step HB6.out hb)
    have BM7 := Aside0.mk (blk_below BM6.out hb)
    have AG7 := Aside0.mk (blk_below AG6.out hb)
    clear ho hb
    obtain ⟨Ao7, co7, eo7⟩ := Kd.R_slice HO7.out
    subst eo7
    refine hK.out _ _ ⟨(blk_cell AG7.out 4).trans rfl, (blk_cell BM7.out 0).trans rfl, (blk_cell BM7.out 1).trans rfl, (blk_cell BM7.out 2).trans rfl⟩ (fun hHeld => ?_)
    clear hK K
    refine norm_ (a' := ?_) ?_ ?_
    rotate_left
    · show Act.put _ (some 34) _ = _
      simp only [Act.put, List.setIfInBounds_toArray, List.set_cons_zero, List.set_cons_succ, i64_w, i32_w]
      rfl
    refine one_ (i := 7) (N := some 35) #[true, true, true, true, true, true, true, true, false, false, false] rfl rfl (one_of HT_.out (by kernel_rfl)) (by decide) (fun K hK => ?_)
    have S7 := Aside0.mk HB7.out.size
    refine Kd.R_append_rows_step k64 (w0 := w0) base (by rfl) (.tmp 32) (.tmp 34) 33 64 (.agg #[(.int .i64 0), (.string ⟨#[]⟩), (.int .i64 0)]) 32 rfl Tryd.underlying33 info64 rfl (by decide) (by omega) vm ms ([(⟨r1, rdOf ByteArray.empty ws 2, r3⟩ : S64)]) _ _ _ (fun k => ¬ k ∈ bad ∧ k ≠ w.heap.size) (fun _ => False) rfl rfl ?aO ?aR (fun _ _ h => h) (fun _ h => h.elim) ?aF ?aB ?aS ?aL ?_
    case aO => exact Kd.R_below A5.out HB7.out
    case aR => exact (Kd.R_reads' HO7.out).2.2
    case aF => exact fun k hk => ⟨fun hm => by have := A8.out k hm; have := S7.out; omega, fun e => by have := BM7.out; have h9 := (Array.getElem?_eq_some_iff.1 this).1; omega⟩
    case aB => rw [GB.out.1]; exact below_step B0.out HB7.out
    case aS => have := S7.out; have := B0.out.size; have := GB.out.1; omega
    case aL => have := MS.out; rw [List.length_singleton]; omega
    intro v8 w8 ho hb hg8 hat8
    obtain ⟨Ao8, co8, eo8⟩ := Kd.R_slice ho
    subst eo8
    have HO8 := Aside0.mk ho
    have HB8 := Aside0.mk hb
    have KP8 := Aside0.mk (Kept.of_grown hg8 (Kept.refl w7 (fun k => ¬ k ∈ bad ∧ k ≠ w.heap.size)) (fun k hk => .inl (A5.out.1 k hk)))
    clear ho hb hg8 hat8
    have L7 := (Array.getElem?_eq_some_iff.1 AG7.out).1
    have AG8 := Aside0.mk ((KP8.out.2 g L7 (fun h => h.1 A7.out)).trans AG7.out)
    have BM8 := Aside0.mk ((KP8.out.2 w.heap.size (Array.getElem?_eq_some_iff.1 BM7.out).1 (fun h => h.2 rfl)).trans BM7.out)
    clear L7
    refine hK.out _ _ ⟨(blk_cell AG8.out 4).trans rfl, (blk_cell BM8.out 0).trans rfl, (blk_cell BM8.out 1).trans rfl, (blk_cell BM8.out 2).trans rfl⟩ (fun hHeld => ?_)
    clear hK K
    refine norm_ (a' := ?_) ?_ ?_
    rotate_left
    · show Act.put _ (some 35) _ = _
      simp only [Act.put, List.setIfInBounds_toArray, List.set_cons_zero, List.set_cons_succ, i64_w, i32_w]
      rfl
    refine pure_ (i := 8) (N := some 36) (v := ?_) (a' := ?_) #[true, true, true, true, true, true, true, true, true, false, false] rfl rfl (any_of HT_.out (by kernel_rfl)) (fun _ _ _ h => h) (Or.inl ⟨by rfl, ?_⟩) ?_ ?_
    rotate_left
    · intro w'
      go_simp
      with_reducible rfl
    rotate_left
    · simp only [Act.put, List.setIfInBounds_toArray, List.set_cons_zero, List.set_cons_succ, i64_w, i32_w]
      rfl
    refine pure_ (i := 9) (N := some 37) (v := ?_) (a' := ?_) #[true, true, true, true, true, true, true, true, true, true, false] rfl rfl (any_of HT_.out (by kernel_rfl)) (fun _ _ _ h => h) (Or.inl ⟨by rfl, ?_⟩) ?_ ?_
    rotate_left
    · intro w'
      go_simp
      with_reducible rfl
    rotate_left
    · simp only [Act.put, List.setIfInBounds_toArray, List.set_cons_zero, List.set_cons_succ, i64_w, i32_w]
      rfl
    have hcg := hHeld.1
    have hfg := blk_frozen AG8.out 4
    refine last_ (i := 10) (N := none) #[true, true, true, true, true, true, true, true, true, true, true] rfl rfl (one_of HT_.out (by kernel_rfl)) (by decide) (fun K hK => ?_)
    refine store_step_ (w1 := w8.setCell ⟨g, 4, none⟩ (.slice Ao8 (ms ++ [(⟨r1, rdOf ByteArray.empty ws 2, r3⟩ : S64)]).length co8)) (by rfl) rfl ?hr ?_
    case hr => first | (go_simp; done) | (go_simp; rfl)
    have PG9 := Aside0.mk (show PAt (w8.setCell ⟨g, 4, none⟩ (.slice Ao8 (ms ++ [(⟨r1, rdOf ByteArray.empty ws 2, r3⟩ : S64)]).length co8)) g cl A ss.length c st er (.slice Ao8 (ms ++ [(⟨r1, rdOf ByteArray.empty ws 2, r3⟩ : S64)]).length co8) from blk_put AG8.out 4 _ rfl)
    refine hK.out _ _ ?_
    clear hK K hHeld
    refine done_ (done_of HT_.out (by kernel_rfl)) ?_
    try go_wp2
    go_ret
    have KW := Aside0.mk (((Kept.of_below HB7.out (KS g bad)).then_ KP8.out (fun k hk => .inl (.inr hk.1))).setCell (p := ⟨g, 4, none⟩) (.inl (.inl rfl)) (.slice Ao8 (ms ++ [(⟨r1, rdOf ByteArray.empty ws 2, r3⟩ : S64)]).length co8))
    have hgl := GB.out.2
    have eL : (ms ++ [(⟨r1, rdOf ByteArray.empty ws 2, r3⟩ : S64)]).length = ms.length + 1 := by rw [List.length_append, List.length_singleton]
    rw [eL] at PG9 KW HO8
    refine ⟨rfl, ⟨⟨A, c, _, PG9.out, ?_, A3.out, A4.out, ?_, (fun h => by cases h), Kd.Q_step A9.out (fun k hk hlt => KW.out.2 k hlt (fun h => h.elim hk.2 (fun h => h hk.1.1)))⟩, A7.out, fun k hk => Nat.lt_of_lt_of_le (A8.out k hk) KW.out.1⟩, KW.out, ?_⟩
    · exact C_str A2.out (fun ad e => KW.out.2 ad.block (A8.out _ (A4.out ad e).1.1) (fun h => h.elim (A4.out ad e).2 (fun h => h (A4.out ad e).1.1)))
    · exact Kd.R_far (Kd.R_mono HO8.out (fun k hk => hk.1)) (fun k hk e => hk (e ▸ A7.out)) _
    · rw [← GB.out.1]
      have h8 := HB8.out
      have e0 := GB.out.1
      subst e0
      exact h8.setCell (p := ⟨g, 4, none⟩) hgl _
  · have hne : (e2 == 0) = false := beq_eq_false_iff_ne.2 h0
    have hne2 : (e2 != 0) = true := bne_iff_ne.2 h0
    try go_wp2
    go_ret
    exact ⟨rfl, fun h => absurd h h0, (Kept.of_below HB5.out _), below_step B0.out HB5.out⟩
end Go.Proofs.YthfhbdncphkdaaaDoor.H

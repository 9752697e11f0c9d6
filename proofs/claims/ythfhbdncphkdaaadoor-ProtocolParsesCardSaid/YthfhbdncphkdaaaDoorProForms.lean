/- The forms of a protocol's lines: the calls of state, of due's functions and of move do what is told of them. -/
import Derived.Test.YthfhbdncphkdaaaDoorBld
import Derived.Test.YthfhbdncphkdaaaDoorShelf
import Derived.Test.YthfhbdncphkdaaaDoorHb
namespace Go.Proofs.YthfhbdncphkdaaaDoor.H
open Go.RowKit Go.Proofs.YthfhbdncphkdaaaDoorW.PrintWords Go.Proofs.YthfhbdncphkdaaaDoorW.PrintLast Go.Proofs.YthfhbdncphkdaaaDoorW.PrintMore
set_option linter.unusedVariables false
set_option linter.unusedSimpArgs false

/-- A protocol's block. -/
def PAt (w : World) (g : Nat) (cl : ByteArray) (A : Option Addr) (n c : Nat) (st er : Int) (vm : Value) : Prop := w.heap[g]? = some (.cells #[.string cl, .slice A n c, .int .i64 st, .int .i64 er, vm] 35 (0, 0))
theorem PAt.cells {w : World} {g : Nat} {cl : ByteArray} {A : Option Addr} {n c : Nat} {st er : Int} {vm : Value} (h : PAt w g cl A n c st er vm) :
    w.cell? ⟨g, 0, none⟩ = some (.string cl) ∧ w.cell? ⟨g, 1, none⟩ = some (.slice A n c) ∧ w.cell? ⟨g, 2, none⟩ = some (.int .i64 st) ∧ w.cell? ⟨g, 3, none⟩ = some (.int .i64 er) ∧ w.cell? ⟨g, 4, none⟩ = some vm :=
  ⟨(blk_cell h 0).trans rfl, (blk_cell h 1).trans rfl, (blk_cell h 2).trans rfl, (blk_cell h 3).trans rfl, (blk_cell h 4).trans rfl⟩
set_option maxHeartbeats 2000000 in
set_option maxRecDepth 100000 in
theorem state_calls (k : Nat) (g : Nat) (cl : ByteArray) (A : Option Addr) (c : Nat) (ss : List ByteArray) (st er : Int) (vm : Value) (nm : ByteArray) (b o : Nat) (cs : Array Value) (t : TypeId) (x : Int) (r : Int) (w : World)
    (hp : PAt w g cl A ss.length c st er vm) (hr : Kd.C Kd.string w A ss.length ss) (hc : ss.length ≤ c) (hb : w.heap[b]? = some (.cells cs t (0, 0))) (hx : cs[o]? = some (.int .i64 x)) (h : slices_Index_string_string.f k ss nm = some r) :
    Calls Tryd.prog 89 #[.pointer (some ⟨g, 0, none⟩), .string nm, .pointer (some ⟨b, o, none⟩)] w fun e w' => (r < 0 ∧ e = .returned (.int .i64 6) ∧ Drawn0 w w') ∨ (0 ≤ r ∧ e = .returned (.int .i64 0) ∧ ∃ w1, Drawn0 w w1 ∧ w' = w1.setCell ⟨b, o, none⟩ (.int .i64 r)) := by
  have HP := Aside0.mk hp
  have HR := Aside0.mk hr
  have HC := Aside0.mk hc
  have HM := Aside0.mk h
  have hq1 := hp.cells.2.1
  have hqf1 := blk_frozen hp 1
  have hqb : w.cell? ⟨b, o, none⟩ = some (.int .i64 x) := (blk_cell hb o).trans hx
  have hqf := blk_frozen hb o
  clear hp hr hc h hb hx
  by_cases hlt : r < 0
  · have hd := decide_eq_true hlt
    go_enter Tryd.func89, Tryd.ntmps89
    go_wp2_with (first | (go_at_call 92; (with_reducible refine (slices_Index_string_string.calls k A c ss nm r _ ?s1 HC.out HM.out).mono ?_); (case s1 => first | exact HR.out | exact Kd.C_drewN HR.out _); rintro e w' ⟨rfl, ⟨nd, rfl⟩⟩))
    go_ret
    exact .inl ⟨hlt, rfl, ⟨⟨nd, rfl⟩⟩⟩
  · have hd := decide_eq_false hlt
    go_enter Tryd.func89, Tryd.ntmps89
    go_wp2_with (first | (go_at_call 92; (with_reducible refine (slices_Index_string_string.calls k A c ss nm r _ ?s1 HC.out HM.out).mono ?_); (case s1 => first | exact HR.out | exact Kd.C_drewN HR.out _); rintro e w' ⟨rfl, ⟨nd, rfl⟩⟩))
    go_ret
    exact .inr ⟨by omega, rfl, _, ⟨⟨nd, rfl⟩⟩, rfl⟩
set_option maxHeartbeats 2000000 in
set_option maxRecDepth 100000 in
theorem due1_calls (g : Nat) (cl : ByteArray) (A : Option Addr) (n c : Nat) (st er : Int) (vm : Value) (Aw : Option Addr) (cw : Nat) (ws : List ByteArray) (w : World)
    (hp : PAt w g cl A n c st er vm) (hr : Kd.C Kd.string w Aw ws.length ws) (h1 : 1 < ws.length) :
    Calls Tryd.prog 86 #[.pointer (some ⟨g, 0, none⟩), .slice Aw ws.length cw] w fun e w' => e = .returned (.int .i64 0) ∧ w' = w.setCell ⟨g, 0, none⟩ (.string (rdOf ByteArray.empty ws 1)) := by
  obtain ⟨aw, eA, hx⟩ := Kd.at_string hr 1 (by omega) (by omega)
  subst eA
  have hx2 : w.cell? ⟨aw.block, aw.off + 1, none⟩ = some (.string (rdOf ByteArray.empty ws 1)) := hx
  have hq0 := hp.cells.1
  have hqf0 := blk_frozen hp 0
  have p1 := eq_true (show (1 : Int) < (ws.length : Int) by omega)
  clear hp hr
  go_enter Tryd.func86, Tryd.ntmps86
  go_wp2
  go_ret
  exact ⟨rfl, rfl⟩
set_option maxHeartbeats 2000000 in
set_option maxRecDepth 100000 in
theorem due2_calls (g : Nat) (cl : ByteArray) (A : Option Addr) (n c : Nat) (st er : Int) (vm : Value) (aw : Addr) (cw : Nat) (ws : List ByteArray) (w : World)
    (hp : PAt w g cl A n c st er vm) (h1 : 1 < ws.length) (h2 : ws.length ≤ cw) (h3 : cw ≤ 4000000000000) :
    Calls Tryd.prog 87 #[.pointer (some ⟨g, 0, none⟩), .slice (some aw) ws.length cw] w fun e w' => e = .returned (.int .i64 0) ∧ w' = w.setCell ⟨g, 1, none⟩ (.slice (some (aw.add 1)) (ws.length - 1) (cw - 1)) := by
  have hq1 := hp.cells.2.1
  have hqf1 := blk_frozen hp 1
  have p1 := eq_true (show (1 : Int) ≤ (ws.length : Int) by omega)
  clear hp
  go_enter Tryd.func87, Tryd.ntmps87
  go_wp2
  go_ret
  exact ⟨rfl, rfl⟩
def due3.T1 : Bool × List (List Nat × List Nat) := (true, [([], []), ([], []), ([1], [1]), ([2], [2]), ([], []), ([4], [4]), ([5], [5]), ([0, 3, 6], [0, 3, 6]), ([7, 7, 0, 1, 2, 3, 4, 5, 6, 7], [7])])
def due3.B1 : List Nat := [0, 0, 2, 6, 0, 16, 48, 127, 255]
theorem due3.tab1 : rtab .any (opsOf Tryd.f88 1) = due3.T1 := by kernel_rfl
theorem due3.bits1 : waitsOk due3.T1.2 due3.B1 = true := by kernel_rfl
set_option maxHeartbeats 2000000 in
set_option maxRecDepth 100000 in
theorem due3_calls (k : Nat) (g : Nat) (cl : ByteArray) (A : Option Addr) (c : Nat) (ss : List ByteArray) (st er : Int) (vm : Value) (Aw : Option Addr) (cw : Nat) (ws : List ByteArray) (r : Int) (w : World)
    (hp : PAt w g cl A ss.length c st er vm) (hr : Kd.C Kd.string w A ss.length ss) (hc : ss.length ≤ c) (hw : Kd.C Kd.string w Aw ws.length ws) (h1 : 1 < ws.length) (hne : ∀ ad, Aw = some ad → ad.block ≠ g) (h : slices_Index_string_string.f k ss (rdOf ByteArray.empty ws 1) = some r) :
    Calls Tryd.prog 88 #[.pointer (some ⟨g, 0, none⟩), .slice Aw ws.length cw] w fun e w' => (r < 0 ∧ e = .returned (.int .i64 6) ∧ Drawn0 w w') ∨ (0 ≤ r ∧ e = .returned (.int .i64 0) ∧ ∃ w1, Drawn0 w w1 ∧ w' = w1.setCell ⟨g, 2, none⟩ (.int .i64 r)) := by
  obtain ⟨aw, eA, hx⟩ := Kd.at_string hw 1 (by omega) (by omega)
  subst eA
  have hx2 := Aside0.mk (show w.drew.cell? ⟨aw.block, aw.off + 1, none⟩ = some (.string (rdOf ByteArray.empty ws 1)) from hx)
  have p1 := eq_true (show (1 : Int) < (ws.length : Int) by omega)
  have HP := Aside0.mk (show PAt w.drew g cl A ss.length c st er vm from blk_drew hp)
  have HR := Aside0.mk (Kd.C_drew hr)
  have HC := Aside0.mk hc
  have HM := Aside0.mk h
  have HN := Aside0.mk (hne aw rfl)
  have HD := Aside0.mk (show Drawn0 w w.drew from ⟨⟨1, rfl⟩⟩)
  clear hp hr hw h hc hx hne
  go_enter Tryd.func88, Tryd.ntmps88
  go_wp2
  refine start_ (n := 9) (S := fun w' => w'.cell? ⟨aw.block, aw.off + 1, none⟩ = some (.string (rdOf ByteArray.empty ws 1))) (ds := []) #[false, false, false, false, false, false, false, false, false] (by kernel_rfl) rfl rfl hx2.out (fun hHeld => ?_)
  refine with_tabW due3.tab1 due3.bits1 (fun HT_ HW_ => ?_)
  generalize w.drew = w1 at HP HR hx2 HD hHeld ⊢
  refine pure_ (i := 0) (N := some 5) (v := ?_) (a' := ?_) #[true, false, false, false, false, false, false, false, false] rfl rfl (any_of HT_.out (by kernel_rfl)) (fun _ _ _ h => h) (Or.inl ⟨by rfl, ?_⟩) ?_ ?_
  rotate_left
  · intro w'
    go_simp
    with_reducible rfl
  rotate_left
  · simp only [Act.put, List.setIfInBounds_toArray, List.set_cons_zero, List.set_cons_succ, i64_w, i32_w]
    rfl
  refine pure_ (i := 1) (N := some 6) (v := ?_) (a' := ?_) #[true, true, false, false, false, false, false, false, false] rfl rfl (any_of HT_.out (by kernel_rfl)) (fun _ _ _ h => h) (Or.inl ⟨by rfl, ?_⟩) ?_ ?_
  rotate_left
  · intro w'
    go_simp
    with_reducible rfl
  rotate_left
  · simp only [Act.put, List.setIfInBounds_toArray, List.set_cons_zero, List.set_cons_succ, i64_w, i32_w]
    rfl
  refine pure_ (i := 2) (N := some 7) (v := ?_) (a' := ?_) #[true, true, true, false, false, false, false, false, false] rfl rfl (any_of HT_.out (by kernel_rfl)) (fun _ _ _ h => h) (Or.inl ⟨by rfl, ?_⟩) ?_ ?_
  rotate_left
  · intro w'
    go_simp
    with_reducible rfl
  rotate_left
  · simp only [Act.put, List.setIfInBounds_toArray, List.set_cons_zero, List.set_cons_succ, i64_w, i32_w]
    rfl
  refine take_ (i := 3) (N := some 8) (v := ?_) (a' := ?_) #[true, true, true, true, false, false, false, false, false] rfl rfl (take_ofW HT_.out HW_.out (by kernel_rfl)) (fun _ _ _ h => h) (Or.inl ⟨by rfl, ?_⟩) hHeld ?_ ?_
  rotate_left
  · rintro w' s0
    go_simp
    with_reducible rfl
  rotate_left
  · simp only [Act.put, List.setIfInBounds_toArray, List.set_cons_zero, List.set_cons_succ, i64_w, i32_w]
    rfl
  refine pure_ (i := 4) (N := some 9) (v := ?_) (a' := ?_) #[true, true, true, true, true, false, false, false, false] rfl rfl (any_of HT_.out (by kernel_rfl)) (fun _ _ _ h => h) (Or.inl ⟨by rfl, ?_⟩) ?_ ?_
  rotate_left
  · intro w'
    go_simp
    with_reducible rfl
  rotate_left
  · simp only [Act.put, List.setIfInBounds_toArray, List.set_cons_zero, List.set_cons_succ, i64_w, i32_w]
    rfl
  refine pure_ (i := 5) (N := some 10) (v := ?_) (a' := ?_) #[true, true, true, true, true, true, false, false, false] rfl rfl (any_of HT_.out (by kernel_rfl)) (fun _ _ _ h => h) (Or.inl ⟨by rfl, ?_⟩) ?_ ?_
  rotate_left
  · intro w'
    go_simp
    with_reducible rfl
  rotate_left
  · simp only [Act.put, List.setIfInBounds_toArray, List.set_cons_zero, List.set_cons_succ, i64_w, i32_w]
    rfl
  refine pure_ (i := 6) (N := some 11) (v := ?_) (a' := ?_) #[true, true, true, true, true, true, true, false, false] rfl rfl (any_of HT_.out (by kernel_rfl)) (fun _ _ _ h => h) (Or.inl ⟨by rfl, ?_⟩) ?_ ?_
  rotate_left
  · intro w'
    go_simp
    with_reducible rfl
  rotate_left
  · simp only [Act.put, List.setIfInBounds_toArray, List.set_cons_zero, List.set_cons_succ, i64_w, i32_w]
    rfl
  refine one_ (i := 7) (N := some 12) #[true, true, true, true, true, true, true, true, false] rfl rfl (one_of HT_.out (by kernel_rfl)) (by decide) (fun K hK => ?_)
  refine goes_ Tryd.func89 (by kernel_rfl) rfl #[.pointer (some ⟨g, 0, none⟩), .string (rdOf ByteArray.empty ws 1), .pointer (some ⟨g, 2, none⟩)] (by rfl) rfl rfl (by (try simp only [List.map_toArray, List.map_cons, List.map_nil]); first | done | rfl) ?_
  with_reducible refine (state_calls k g cl A c ss st er vm (rdOf ByteArray.empty ws 1) g 2 #[.string cl, .slice A ss.length c, .int .i64 st, .int .i64 er, vm] 35 st r _ ?s1 ?s2 HC.out ?s3 ?s4 HM.out).mono ?_
  case s1 => exact HP.out
  case s2 => exact HR.out
  case s3 => exact HP.out
  case s4 => rfl
  rintro e w2 (⟨h0, rfl, ⟨⟨nd, rfl⟩⟩⟩ | ⟨h0, rfl, w3, ⟨⟨nd, rfl⟩⟩, rfl⟩)
  · refine ⟨_, rfl, ?_⟩
    refine hK.out _ _ hHeld (fun hHeld => ?_)
    clear hK K
    refine norm_ (a' := ?_) ?_ ?_
    rotate_left
    · show Act.put _ (some 12) _ = _
      simp only [Act.put, List.setIfInBounds_toArray, List.set_cons_zero, List.set_cons_succ, i64_w, i32_w]
      rfl
    refine pure_ (i := 8) (N := some 4) (v := ?_) (a' := ?_) #[true, true, true, true, true, true, true, true, true] rfl rfl (any_of HT_.out (by kernel_rfl)) (fun _ _ _ h => h) (Or.inl ⟨by rfl, ?_⟩) ?_ ?_
    rotate_left
    · intro w'
      go_simp
      with_reducible rfl
    rotate_left
    · simp only [Act.put, List.setIfInBounds_toArray, List.set_cons_zero, List.set_cons_succ, i64_w, i32_w]
      rfl
    refine done_ (done_of HT_.out (by kernel_rfl)) ?_
    try go_wp2
    go_ret
    exact .inl ⟨h0, rfl, HD.out.step nd⟩
  · refine ⟨_, rfl, ?_⟩
    refine hK.out _ _ ((cell_far HN.out _).trans hHeld) (fun hHeld => ?_)
    clear hK K
    refine norm_ (a' := ?_) ?_ ?_
    rotate_left
    · show Act.put _ (some 12) _ = _
      simp only [Act.put, List.setIfInBounds_toArray, List.set_cons_zero, List.set_cons_succ, i64_w, i32_w]
      rfl
    refine pure_ (i := 8) (N := some 4) (v := ?_) (a' := ?_) #[true, true, true, true, true, true, true, true, true] rfl rfl (any_of HT_.out (by kernel_rfl)) (fun _ _ _ h => h) (Or.inl ⟨by rfl, ?_⟩) ?_ ?_
    rotate_left
    · intro w'
      go_simp
      with_reducible rfl
    rotate_left
    · simp only [Act.put, List.setIfInBounds_toArray, List.set_cons_zero, List.set_cons_succ, i64_w, i32_w]
      rfl
    refine done_ (done_of HT_.out (by kernel_rfl)) ?_
    try go_wp2
    go_ret
    exact .inr ⟨h0, rfl, _, HD.out.step nd, rfl⟩
def due4.T1 : Bool × List (List Nat × List Nat) := (true, [([], []), ([], []), ([1], [1]), ([2], [2]), ([], []), ([4], [4]), ([5], [5]), ([0, 3, 6], [0, 3, 6]), ([7, 7, 0, 1, 2, 3, 4, 5, 6, 7], [7])])
def due4.B1 : List Nat := [0, 0, 2, 6, 0, 16, 48, 127, 255]
theorem due4.tab1 : rtab .any (opsOf Tryd.f90 1) = due4.T1 := by kernel_rfl
theorem due4.bits1 : waitsOk due4.T1.2 due4.B1 = true := by kernel_rfl
set_option maxHeartbeats 2000000 in
set_option maxRecDepth 100000 in
theorem due4_calls (k : Nat) (g : Nat) (cl : ByteArray) (A : Option Addr) (c : Nat) (ss : List ByteArray) (st er : Int) (vm : Value) (Aw : Option Addr) (cw : Nat) (ws : List ByteArray) (r : Int) (w : World)
    (hp : PAt w g cl A ss.length c st er vm) (hr : Kd.C Kd.string w A ss.length ss) (hc : ss.length ≤ c) (hw : Kd.C Kd.string w Aw ws.length ws) (h1 : 1 < ws.length) (hne : ∀ ad, Aw = some ad → ad.block ≠ g) (h : slices_Index_string_string.f k ss (rdOf ByteArray.empty ws 1) = some r) :
    Calls Tryd.prog 90 #[.pointer (some ⟨g, 0, none⟩), .slice Aw ws.length cw] w fun e w' => (r < 0 ∧ e = .returned (.int .i64 6) ∧ Drawn0 w w') ∨ (0 ≤ r ∧ e = .returned (.int .i64 0) ∧ ∃ w1, Drawn0 w w1 ∧ w' = w1.setCell ⟨g, 3, none⟩ (.int .i64 r)) := by
  obtain ⟨aw, eA, hx⟩ := Kd.at_string hw 1 (by omega) (by omega)
  subst eA
  have hx2 := Aside0.mk (show w.drew.cell? ⟨aw.block, aw.off + 1, none⟩ = some (.string (rdOf ByteArray.empty ws 1)) from hx)
  have p1 := eq_true (show (1 : Int) < (ws.length : Int) by omega)
  have HP := Aside0.mk (show PAt w.drew g cl A ss.length c st er vm from blk_drew hp)
  have HR := Aside0.mk (Kd.C_drew hr)
  have HC := Aside0.mk hc
  have HM := Aside0.mk h
  have HN := Aside0.mk (hne aw rfl)
  have HD := Aside0.mk (show Drawn0 w w.drew from ⟨⟨1, rfl⟩⟩)
  clear hp hr hw h hc hx hne
  go_enter Tryd.func90, Tryd.ntmps90
  go_wp2
  refine start_ (n := 9) (S := fun w' => w'.cell? ⟨aw.block, aw.off + 1, none⟩ = some (.string (rdOf ByteArray.empty ws 1))) (ds := []) #[false, false, false, false, false, false, false, false, false] (by kernel_rfl) rfl rfl hx2.out (fun hHeld => ?_)
  refine with_tabW due4.tab1 due4.bits1 (fun HT_ HW_ => ?_)
  generalize w.drew = w1 at HP HR hx2 HD hHeld ⊢
  refine pure_ (i := 0) (N := some 5) (v := ?_) (a' := ?_) #[true, false, false, false, false, false, false, false, false] rfl rfl (any_of HT_.out (by kernel_rfl)) (fun _ _ _ h => h) (Or.inl ⟨by rfl, ?_⟩) ?_ ?_
  rotate_left
  · intro w'
    go_simp
    with_reducible rfl
  rotate_left
  · simp only [Act.put, List.setIfInBounds_toArray, List.set_cons_zero, List.set_cons_succ, i64_w, i32_w]
    rfl
  refine pure_ (i := 1) (N := some 6) (v := ?_) (a' := ?_) #[true, true, false, false, false, false, false, false, false] rfl rfl (any_of HT_.out (by kernel_rfl)) (fun _ _ _ h => h) (Or.inl ⟨by rfl, ?_⟩) ?_ ?_
  rotate_left
  · intro w'
    go_simp
    with_reducible rfl
  rotate_left
  · simp only [Act.put, List.setIfInBounds_toArray, List.set_cons_zero, List.set_cons_succ, i64_w, i32_w]
    rfl
  refine pure_ (i := 2) (N := some 7) (v := ?_) (a' := ?_) #[true, true, true, false, false, false, false, false, false] rfl rfl (any_of HT_.out (by kernel_rfl)) (fun _ _ _ h => h) (Or.inl ⟨by rfl, ?_⟩) ?_ ?_
  rotate_left
  · intro w'
    go_simp
    with_reducible rfl
  rotate_left
  · simp only [Act.put, List.setIfInBounds_toArray, List.set_cons_zero, List.set_cons_succ, i64_w, i32_w]
    rfl
  refine take_ (i := 3) (N := some 8) (v := ?_) (a' := ?_) #[true, true, true, true, false, false, false, false, false] rfl rfl (take_ofW HT_.out HW_.out (by kernel_rfl)) (fun _ _ _ h => h) (Or.inl ⟨by rfl, ?_⟩) hHeld ?_ ?_
  rotate_left
  · rintro w' s0
    go_simp
    with_reducible rfl
  rotate_left
  · simp only [Act.put, List.setIfInBounds_toArray, List.set_cons_zero, List.set_cons_succ, i64_w, i32_w]
    rfl
  refine pure_ (i := 4) (N := some 9) (v := ?_) (a' := ?_) #[true, true, true, true, true, false, false, false, false] rfl rfl (any_of HT_.out (by kernel_rfl)) (fun _ _ _ h => h) (Or.inl ⟨by rfl, ?_⟩) ?_ ?_
  rotate_left
  · intro w'
    go_simp
    with_reducible rfl
  rotate_left
  · simp only [Act.put, List.setIfInBounds_toArray, List.set_cons_zero, List.set_cons_succ, i64_w, i32_w]
    rfl
  refine pure_ (i := 5) (N := some 10) (v := ?_) (a' := ?_) #[true, true, true, true, true, true, false, false, false] rfl rfl (any_of HT_.out (by kernel_rfl)) (fun _ _ _ h => h) (Or.inl ⟨by rfl, ?_⟩) ?_ ?_
  rotate_left
  · intro w'
    go_simp
    with_reducible rfl
  rotate_left
  · simp only [Act.put, List.setIfInBounds_toArray, List.set_cons_zero, List.set_cons_succ, i64_w, i32_w]
    rfl
  refine pure_ (i := 6) (N := some 11) (v := ?_) (a' := ?_) #[true, true, true, true, true, true, true, false, false] rfl rfl (any_of HT_.out (by kernel_rfl)) (fun _ _ _ h => h) (Or.inl ⟨by rfl, ?_⟩) ?_ ?_
  rotate_left
  · intro w'
    go_simp
    with_reducible rfl
  rotate_left
  · simp only [Act.put, List.setIfInBounds_toArray, List.set_cons_zero, List.set_cons_succ, i64_w, i32_w]
    rfl
  refine one_ (i := 7) (N := some 12) #[true, true, true, true, true, true, true, true, false] rfl rfl (one_of HT_.out (by kernel_rfl)) (by decide) (fun K hK => ?_)
  refine goes_ Tryd.func89 (by kernel_rfl) rfl #[.pointer (some ⟨g, 0, none⟩), .string (rdOf ByteArray.empty ws 1), .pointer (some ⟨g, 3, none⟩)] (by rfl) rfl rfl (by (try simp only [List.map_toArray, List.map_cons, List.map_nil]); first | done | rfl) ?_
  with_reducible refine (state_calls k g cl A c ss st er vm (rdOf ByteArray.empty ws 1) g 3 #[.string cl, .slice A ss.length c, .int .i64 st, .int .i64 er, vm] 35 er r _ ?s1 ?s2 HC.out ?s3 ?s4 HM.out).mono ?_
  case s1 => exact HP.out
  case s2 => exact HR.out
  case s3 => exact HP.out
  case s4 => rfl
  rintro e w2 (⟨h0, rfl, ⟨⟨nd, rfl⟩⟩⟩ | ⟨h0, rfl, w3, ⟨⟨nd, rfl⟩⟩, rfl⟩)
  · refine ⟨_, rfl, ?_⟩
    refine hK.out _ _ hHeld (fun hHeld => ?_)
    clear hK K
    refine norm_ (a' := ?_) ?_ ?_
    rotate_left
    · show Act.put _ (some 12) _ = _
      simp only [Act.put, List.setIfInBounds_toArray, List.set_cons_zero, List.set_cons_succ, i64_w, i32_w]
      rfl
    refine pure_ (i := 8) (N := some 4) (v := ?_) (a' := ?_) #[true, true, true, true, true, true, true, true, true] rfl rfl (any_of HT_.out (by kernel_rfl)) (fun _ _ _ h => h) (Or.inl ⟨by rfl, ?_⟩) ?_ ?_
    rotate_left
    · intro w'
      go_simp
      with_reducible rfl
    rotate_left
    · simp only [Act.put, List.setIfInBounds_toArray, List.set_cons_zero, List.set_cons_succ, i64_w, i32_w]
      rfl
    refine done_ (done_of HT_.out (by kernel_rfl)) ?_
    try go_wp2
    go_ret
    exact .inl ⟨h0, rfl, HD.out.step nd⟩
  · refine ⟨_, rfl, ?_⟩
    refine hK.out _ _ ((cell_far HN.out _).trans hHeld) (fun hHeld => ?_)
    clear hK K
    refine norm_ (a' := ?_) ?_ ?_
    rotate_left
    · show Act.put _ (some 12) _ = _
      simp only [Act.put, List.setIfInBounds_toArray, List.set_cons_zero, List.set_cons_succ, i64_w, i32_w]
      rfl
    refine pure_ (i := 8) (N := some 4) (v := ?_) (a' := ?_) #[true, true, true, true, true, true, true, true, true] rfl rfl (any_of HT_.out (by kernel_rfl)) (fun _ _ _ h => h) (Or.inl ⟨by rfl, ?_⟩) ?_ ?_
    rotate_left
    · intro w'
      go_simp
      with_reducible rfl
    rotate_left
    · simp only [Act.put, List.setIfInBounds_toArray, List.set_cons_zero, List.set_cons_succ, i64_w, i32_w]
      rfl
    refine done_ (done_of HT_.out (by kernel_rfl)) ?_
    try go_wp2
    go_ret
    exact .inr ⟨h0, rfl, _, HD.out.step nd, rfl⟩
/-! #### what a form makes of the protocol -/
theorem cell_at {w w' : World} {a : Addr} (h : w'.heap[a.block]? = w.heap[a.block]?) : w'.cell? a = w.cell? a := by simp only [World.cell?, h]
theorem C_str {w w' : World} {A : Option Addr} {n : Nat} {xs : List ByteArray} (h : Kd.C Kd.string w A n xs) (hb : ∀ ad, A = some ad → w'.heap[ad.block]? = w.heap[ad.block]?) : Kd.C Kd.string w' A n xs := by
  refine ⟨h.1, h.2.1, fun h0 => ?_⟩
  obtain ⟨ad, e, hc⟩ := h.2.2 h0
  refine ⟨ad, e, fun j p hj => ?_⟩
  obtain ⟨c, h1, h2, h3⟩ := hc j p hj
  refine ⟨c, h1, h2, fun i u hu => ?_⟩
  rw [cell_at (show w'.heap[(ad.add (j * Kd.string.sz + i)).block]? = w.heap[(ad.add (j * Kd.string.sz + i)).block]? by rw [show (ad.add (j * Kd.string.sz + i)).block = ad.block by unfold Addr.add; split <;> rfl]; exact hb ad e)]
  exact h3 i u hu
/-- The call's own world: old blocks are as they were. -/
def Own (w w' : World) (g : Nat) : Prop := ∀ w0 : World, Below w0.heap.size w0 w → w0.heap.size ≤ g → Below w0.heap.size w0 w'
theorem Own.drawn {w w' : World} {g : Nat} (h : Drawn0 w w') : Own w w' g := fun w0 h0 _ => below_step h0 h.below
theorem Own.set {w w' : World} {g o : Nat} (h : Drawn0 w w') (u : Value) : Own w (w'.setCell ⟨g, o, none⟩ u) g := fun w0 h0 hg => below_set (below_step h0 h.below) hg
/-- A protocol that lies in its block; the moves' row is not one of the blocks named. -/
structure PRep (w : World) (g base : Nat) (bad : List Nat) (fr : Bool) (cl : ByteArray) (ss : List ByteArray) (st er : Int) (ms : List S64) : Prop where
  ex : ∃ A c vm, PAt w g cl A ss.length c st er vm ∧ Kd.C Kd.string w A ss.length ss ∧ ss.length ≤ c ∧ (∀ ad, A = some ad → (ad.block ∈ bad ∧ ad.block ≠ base) ∧ ad.block ≠ g) ∧ Kd.R k64 64 w base (fun k => k ∉ bad) vm ms ∧ (fr = true → vm = .slice none 0 0 ∧ ms = []) ∧ Kd.Q Kd.string 9 w base (fun k => (k ∈ bad ∧ k ≠ base) ∧ k ≠ g) (.slice A ss.length c) ss
  gb : g ∈ bad
  lt : ∀ k ∈ bad, k < w.heap.size
abbrev KS (g : Nat) (bad : List Nat) : Nat → Prop := fun k => k = g ∨ k ∉ bad
theorem PRep.drawn {w w' : World} {g base : Nat} {bad : List Nat} {fr : Bool} {cl : ByteArray} {ss : List ByteArray} {st er : Int} {ms : List S64} (h : PRep w g base bad fr cl ss st er ms) (hd : Drawn0 w w') : PRep w' g base bad fr cl ss st er ms := by
  obtain ⟨n, rfl⟩ := hd.out
  obtain ⟨⟨A, c, vm, h1, h2, h3, h4, h5, h6, h9⟩, h7, h8⟩ := h
  exact ⟨⟨A, c, vm, blk_drewN h1 n, Kd.C_drewN h2 n, h3, h4, Kd.R_drewN h5 n, h6, Kd.Q_drewN h9 n⟩, h7, h8⟩
/-- A field of the protocol's block is written. -/
theorem PRep.set {w : World} {g base : Nat} {bad : List Nat} {fr : Bool} {cl cl' : ByteArray} {ss : List ByteArray} {st er st' er' : Int} {ms : List S64} (h : PRep w g base bad fr cl ss st er ms) (o : Nat) (u : Value)
    (he : ∀ (A : Option Addr) (c : Nat) (vm : Value), (#[.string cl, .slice A ss.length c, .int .i64 st, .int .i64 er, vm] : Array Value).setIfInBounds o u = #[.string cl', .slice A ss.length c, .int .i64 st', .int .i64 er', vm]) : PRep (w.setCell ⟨g, o, none⟩ u) g base bad fr cl' ss st' er' ms := by
  obtain ⟨⟨A, c, vm, h1, h2, h3, h4, h5, h6, h9⟩, h7, h8⟩ := h
  refine ⟨⟨A, c, vm, blk_put h1 o u (he A c vm), C_str h2 (fun ad e => Below.heap_setCell w _ u _ (h4 ad e).2), h3, h4, Kd.R_far h5 (fun k hk e => hk (e ▸ h7)) u, h6, Kd.Q_far (p := ⟨g, o, none⟩) h9 (fun k hk => hk.2) u⟩, h7, fun k hk => by rw [World.size_setCell]; exact h8 k hk⟩
theorem Kept.set0 {w w' : World} {g o : Nat} {bad : List Nat} (h : Drawn0 w w') (u : Value) : Kept w (w'.setCell ⟨g, o, none⟩ u) (KS g bad) := (Kept.of_below h.below _).setCell (.inl (.inl rfl)) u
theorem take1 (g base : Nat) (bad : List Nat) (fr : Bool) (cl : ByteArray) (ss : List ByteArray) (st er : Int) (ms : List S64) (Aw : Option Addr) (cw : Nat) (ws : List ByteArray) (w : World) (hp : PRep w g base bad fr cl ss st er ms) (hr : Kd.C Kd.string w Aw ws.length ws) (h1 : 1 < ws.length) :
    Calls Tryd.prog 86 #[.pointer (some ⟨g, 0, none⟩), .slice Aw ws.length cw] w fun e w' => e = .returned (.int .i64 0) ∧ PRep w' g base bad fr (rdOf ByteArray.empty ws 1) ss st er ms ∧ Kept w w' (KS g bad) ∧ Own w w' g := by
  obtain ⟨A, c, vm, h2, _⟩ := hp.ex
  refine (due1_calls g cl A ss.length c st er vm Aw cw ws w h2 hr h1).mono ?_
  rintro e w' ⟨rfl, rfl⟩
  exact ⟨rfl, hp.set 0 _ (fun A c vm => rfl), Kept.set0 (Drawn0.refl w) _, Own.set (Drawn0.refl w) _⟩
theorem take2 (g base : Nat) (bad : List Nat) (cl : ByteArray) (ss : List ByteArray) (st er : Int) (ms : List S64) (aw : Addr) (cw : Nat) (ws : List ByteArray) (w : World) (hp : PRep w g base bad true cl ss st er ms) (hr : Kd.C Kd.string w (some aw) ws.length ws) (h1 : 1 < ws.length) (h2 : ws.length ≤ cw) (h3 : cw ≤ 4000000000000) (hg : aw.block ≠ g) (hgb : aw.block ≠ base) (hlt : aw.block < w.heap.size) (hq : Kd.Q Kd.string 9 w base (fun k => k = aw.block) (.slice (some aw) ws.length cw) ws) :
    Calls Tryd.prog 87 #[.pointer (some ⟨g, 0, none⟩), .slice (some aw) ws.length cw] w fun e w' => e = .returned (.int .i64 0) ∧ PRep w' g base (aw.block :: bad) true cl (ws.drop 1) st er ms ∧ Kept w w' (KS g bad) ∧ Own w w' g := by
  obtain ⟨⟨A, c, vm, a1, a2, a3, a4, a5, a6, a9⟩, a7, a8⟩ := hp
  refine (due2_calls g cl A ss.length c st er vm aw cw ws w a1 h1 h2 h3).mono ?_
  rintro e w' ⟨rfl, rfl⟩
  obtain ⟨rfl, rfl⟩ := a6 rfl
  have hl : (ws.drop 1).length = ws.length - 1 := List.length_drop
  refine ⟨rfl, ⟨⟨some (aw.add 1), cw - 1, .slice none 0 0, ?_, ?_, by omega, ?_, Kd.R_nil _ _ _ _ _, fun _ => ⟨rfl, rfl⟩, ?_⟩, List.mem_cons_of_mem _ a7, fun k hk => ?_⟩, Kept.set0 (Drawn0.refl w) _, Own.set (Drawn0.refl w) _⟩
  · rw [hl]; exact blk_put a1 1 _ rfl
  · refine C_str (w := w) ?_ (fun ad e => Below.heap_setCell w _ _ _ ?_)
    · have hd := Kd.C_drop (k := Kd.string) hr (m := 1) (c := cw) (by omega) h2
      rw [if_neg (by omega)] at hd
      exact hd
    · injection e with e; subst e; exact hg
  · intro ad e
    injection e with e
    subst e
    exact ⟨⟨List.mem_cons_self, hgb⟩, hg⟩
  · have hd := Kd.Q_drop (k := 1) hq (by omega)
    rw [if_neg (by omega)] at hd
    rw [hl]
    exact Kd.Q_mono (Kd.Q_far (p := ⟨g, 1, none⟩) hd (fun k hk => by rw [hk]; exact hg) _) (fun k hk => ⟨⟨by rw [hk]; exact List.mem_cons_self, by rw [hk]; exact hgb⟩, by rw [hk]; exact hg⟩)
  · rw [World.size_setCell]
    rcases List.mem_cons.1 hk with rfl | hk
    · exact hlt
    · exact a8 k hk
theorem take34 (K : Nat) (g base : Nat) (bad : List Nat) (fr : Bool) (cl : ByteArray) (ss : List ByteArray) (st er : Int) (ms : List S64) (Aw : Option Addr) (cw : Nat) (ws : List ByteArray) (r : Int) (w : World) (hp : PRep w g base bad fr cl ss st er ms) (hw : Kd.C Kd.string w Aw ws.length ws) (h1 : 1 < ws.length) (hne : ∀ ad, Aw = some ad → ad.block ≠ g) (h : slices_Index_string_string.f K ss (rdOf ByteArray.empty ws 1) = some r) :
    (Calls Tryd.prog 88 #[.pointer (some ⟨g, 0, none⟩), .slice Aw ws.length cw] w fun e w' => e = .returned (.int .i64 (if r < 0 then 6 else 0)) ∧ PRep w' g base bad fr cl ss (if r < 0 then st else r) er ms ∧ Kept w w' (KS g bad) ∧ Own w w' g) ∧
    (Calls Tryd.prog 90 #[.pointer (some ⟨g, 0, none⟩), .slice Aw ws.length cw] w fun e w' => e = .returned (.int .i64 (if r < 0 then 6 else 0)) ∧ PRep w' g base bad fr cl ss st (if r < 0 then er else r) ms ∧ Kept w w' (KS g bad) ∧ Own w w' g) := by
  obtain ⟨A, c, vm, a1, a2, a3, _⟩ := hp.ex
  constructor
  · refine (due3_calls K g cl A c ss st er vm Aw cw ws r w a1 a2 a3 hw h1 hne h).mono ?_
    rintro e w' (⟨h0, rfl, hd⟩ | ⟨h0, rfl, w1, hd, rfl⟩)
    · rw [if_pos h0, if_pos h0]; exact ⟨rfl, hp.drawn hd, Kept.of_below hd.below _, Own.drawn hd⟩
    · rw [if_neg (by omega), if_neg (by omega)]; exact ⟨rfl, (hp.drawn hd).set 2 _ (fun A c vm => rfl), Kept.set0 hd _, Own.set hd _⟩
  · refine (due4_calls K g cl A c ss st er vm Aw cw ws r w a1 a2 a3 hw h1 hne h).mono ?_
    rintro e w' (⟨h0, rfl, hd⟩ | ⟨h0, rfl, w1, hd, rfl⟩)
    · rw [if_pos h0, if_pos h0]; exact ⟨rfl, hp.drawn hd, Kept.of_below hd.below _, Own.drawn hd⟩
    · rw [if_neg (by omega), if_neg (by omega)]; exact ⟨rfl, (hp.drawn hd).set 3 _ (fun A c vm => rfl), Kept.set0 hd _, Own.set hd _⟩
end Go.Proofs.YthfhbdncphkdaaaDoor.H

/- What Parse (protocol) comes to; the call of a form's function. -/
import Derived.Test.YthfhbdncphkdaaaDoorProMove
import Derived.Lib.SplitLaws
import Derived.Laws.EntriesVeiled
import Derived.Deep.CutBlock
import Derived.Test.YthfhbdncphkdaaaDoorHc
import Derived.Test.YthfhbdncphkdaaaDoorHb
namespace Go.Proofs.YthfhbdncphkdaaaDoor.H
open Go.RowKit Go.Proofs.YthfhbdncphkdaaaDoorW.PrintWords Go.Proofs.YthfhbdncphkdaaaDoorW.PrintLast Go.Proofs.YthfhbdncphkdaaaDoorW.PrintMore
set_option linter.unusedVariables false
set_option linter.unusedSimpArgs false

/-- The forms' cells. -/
def formC : Array Value := #[.string ⟨#[112, 114, 111, 116, 111, 99, 111, 108]⟩, .int .i64 2, .int .i64 2, .func (.func 86) #[] #[], .string ⟨#[115, 116, 97, 116, 101, 115]⟩, .int .i64 2, .int .i64 65536, .func (.func 87) #[] #[],
  .string ⟨#[115, 116, 97, 114, 116]⟩, .int .i64 2, .int .i64 2, .func (.func 88) #[] #[], .string ⟨#[101, 114, 114, 111, 114]⟩, .int .i64 2, .int .i64 2, .func (.func 90) #[] #[]]
set_option maxHeartbeats 2000000 in
set_option maxRecDepth 100000 in
theorem due_calls (w : World) : Calls Tryd.prog 62 #[] w fun e w' => e = .returned (.slice (some ⟨w.heap.size, 0, none⟩) 4 4) ∧ w' = w.alloc (.cells formC 83) := by
  go_enter Tryd.func62, Tryd.ntmps62
  go_wp2
  go_ret
  exact ⟨rfl, rfl⟩
/-! #### what Parse comes to -/
def spl (c : UInt8) (s : ByteArray) : List ByteArray := Lib.splitB ⟨#[c]⟩ 0 (Lib.countB s ⟨#[c]⟩) s
abbrev Pr : Type := ByteArray × List ByteArray × Int × Int × List S64
def pr0 : Pr := (⟨#[]⟩, [], 0, 0, [])
def formW : Nat → ByteArray
  | 0 => ⟨#[112, 114, 111, 116, 111, 99, 111, 108]⟩
  | 1 => ⟨#[115, 116, 97, 116, 101, 115]⟩
  | 2 => ⟨#[115, 116, 97, 114, 116]⟩
  | 3 => ⟨#[101, 114, 114, 111, 114]⟩
  | _ => ⟨#[109, 111, 118, 101]⟩
def formLo (i : Nat) : Nat := if i < 4 then 2 else 4
theorem formLo4 (i : Nat) (h : 4 ≤ i) : formLo i = 4 := if_neg (by omega)
def formHi (i : Nat) : Nat := if i = 1 then 65536 else if i < 4 then 2 else 4
def takeP (K i : Nat) (ws : List ByteArray) (p : Pr) : Option (Pr × Int) :=
  match i with
  | 0 => some ((rdOf ByteArray.empty ws 1, p.2), 0)
  | 1 => some ((p.1, ws.drop 1, p.2.2), 0)
  | 2 => (slices_Index_string_string.f K p.2.1 (rdOf ByteArray.empty ws 1)).bind fun r => some ((p.1, p.2.1, (if r < 0 then p.2.2.1 else r), p.2.2.2), if r < 0 then 6 else 0)
  | 3 => (slices_Index_string_string.f K p.2.1 (rdOf ByteArray.empty ws 1)).bind fun r => some ((p.1, p.2.1, p.2.2.1, (if r < 0 then p.2.2.2.1 else r), p.2.2.2.2), if r < 0 then 6 else 0)
  | _ => (slices_Index_string_string.f K p.2.1 (rdOf ByteArray.empty ws 1)).bind fun r1 => (slices_Index_string_string.f K p.2.1 (rdOf ByteArray.empty ws 3)).bind fun r3 => (api_Errno.f K [if r1 < 0 then 6 else 0, if r3 < 0 then 6 else 0]).bind fun e => if (e = 0 → 0 ≤ r1 ∧ 0 ≤ r3) then some ((p.1, p.2.1, p.2.2.1, p.2.2.2.1, p.2.2.2.2 ++ [⟨r1, rdOf ByteArray.empty ws 2, r3⟩]), e) else none
def endB : List UInt8 := [101, 110, 100]
/-- A line: has the end come, the protocol, the error. -/
def lineP (K i : Nat) (ended : Bool) (p : Pr) (l : ByteArray) : Option (Bool × Pr × Int) :=
  if 4 ≤ i ∧ l.toList = endB ∧ ended = false then some (true, p, 0)
  else if ended = true ∨ ¬ (rdOf ByteArray.empty (spl 32 l) 0).toList = (formW i).toList ∨ (spl 32 l).length < formLo i ∨ formHi i < (spl 32 l).length then some (ended, p, 2)
  else (slices_Contains_string_string.f K (spl 32 l) (⟨#[]⟩ : ByteArray)).bind fun b => if b = true then some (ended, p, 2) else (takeP K i (spl 32 l) p).bind fun x => some (ended, x.1, x.2)
theorem lineP_eq (K i : Nat) (ended : Bool) (p : Pr) (l : ByteArray) (h : ¬ (4 ≤ i ∧ l.toList = endB ∧ ended = false)) : lineP K i ended p l = ((if ended = true ∨ ¬ (rdOf ByteArray.empty (spl 32 l) 0).toList = (formW i).toList ∨ (spl 32 l).length < formLo i ∨ formHi i < (spl 32 l).length then some true else slices_Contains_string_string.f K (spl 32 l) (⟨#[]⟩ : ByteArray)).bind fun b => if b = true then some (ended, p, 2) else (takeP K i (spl 32 l) p).bind fun x => some (ended, x.1, x.2)) := by
  unfold lineP
  rw [if_neg h]
  by_cases c : ended = true ∨ ¬ (rdOf ByteArray.empty (spl 32 l) 0).toList = (formW i).toList ∨ (spl 32 l).length < formLo i ∨ formHi i < (spl 32 l).length
  · rw [if_pos c, if_pos c]; rfl
  · rw [if_neg c, if_neg c]
def parG (K : Nat) : List ByteArray → Nat → Bool → Pr → Option (Bool × Pr × Int × Int)
  | [], _, e, p => some (e, p, 0, 0)
  | l :: r, i, e, p => (lineP K i e p l).bind fun x => if x.2.2 = 0 then parG K r (i + 1) x.1 x.2.1 else some (x.1, x.2.1, (i : Int) + 1, x.2.2)
/-- What Parse returns: the protocol, the line, the error. -/
def parP (K : Nat) (s : ByteArray) : Option (Pr × Int × Int) :=
  if s.size > 65536 then some (pr0, 0, 3) else
  (parG K ((spl 10 s).take ((spl 10 s).length - 1)) 0 false pr0).bind fun x =>
    if x.2.2.2 = 0 then (if x.1 = false then some (pr0, ((spl 10 s).length : Int), 21) else if (rdOf ByteArray.empty (spl 10 s) ((spl 10 s).length - 1)).toList = ([] : List UInt8) then
      ((protocol_Check.f K x.2.1.1 x.2.1.2.1 x.2.1.2.2.1 x.2.1.2.2.2.1 x.2.1.2.2.2.2).bind fun e => if e = 0 then some (x.2.1, 0, 0) else some (pr0, 0, e)) else some (pr0, ((spl 10 s).length : Int), 2))
    else some (pr0, x.2.2.1, x.2.2.2)
theorem splitB_sizes (sep : ByteArray) : ∀ (n : Nat) (s : ByteArray) (x : ByteArray), x ∈ Lib.splitB sep 0 n s → x.size ≤ s.size := by
  intro n
  induction n with
  | zero => intro s x h; rw [Lib.splitB_zero, List.mem_singleton] at h; rw [h]; exact Nat.le_refl _
  | succ n ih =>
    intro s x h
    rcases Lib.indexB_cases s sep with hi | ⟨i, hi, _⟩
    · rw [Lib.splitB_miss sep 0 (n + 1) s hi, List.mem_singleton] at h; rw [h]; exact Nat.le_refl _
    · rw [Lib.splitB_hit sep 0 n s i hi] at h
      rcases List.mem_cons.1 h with h | h
      · rw [h, ByteArray.size_extract]; omega
      · have := ih _ _ h; rw [ByteArray.size_extract] at this; omega
theorem spl_size (c : UInt8) (s l : ByteArray) (h : l ∈ spl c s) : l.size ≤ s.size := splitB_sizes _ _ _ _ h
/-- What Parse's loop leaves as it is: the result's block, the lines, the forms. -/
structure LRep (w wr : World) (S : List ByteArray) (bad : List Nat) : Prop where
  rb : wr.heap[w.heap.size]? = some (.cells #[.string ⟨#[]⟩, .slice none 0 0, .int .i64 0, .int .i64 0, .slice none 0 0] 35 (0, 0))
  lb : wr.heap[w.heap.size + 1]? = some (.cells (S.map Value.string).toArray 9 (0, 0))
  fb : wr.heap[w.heap.size + 1 + 1 + 1]? = some (.cells formC 83 (0, 0))
  bl : Below w.heap.size w wr
  bd : w.heap.size ∈ bad ∧ w.heap.size + 1 ∈ bad ∧ w.heap.size + 1 + 1 + 1 ∈ bad
theorem LRep.below {w wr w' : World} {S : List ByteArray} {bad : List Nat} (h : LRep w wr S bad) (hb : Below wr.heap.size wr w') : LRep w w' S bad := ⟨blk_below h.rb hb, blk_below h.lb hb, blk_below h.fb hb, below_step h.bl hb, h.bd⟩
theorem PRep.below {w w' : World} {g base : Nat} {bad : List Nat} {fr : Bool} {cl : ByteArray} {ss : List ByteArray} {st er : Int} {ms : List S64} (h : PRep w g base bad fr cl ss st er ms) (hb : Below w.heap.size w w') : PRep w' g base bad fr cl ss st er ms := by
  obtain ⟨⟨A, c, vm, h1, h2, h3, h4, h5, h6, h9⟩, h7, h8⟩ := h
  exact ⟨⟨A, c, vm, blk_below h1 hb, Kd.C_below h2 hb, h3, h4, Kd.R_below h5 hb, h6, Kd.Q_below h9 hb⟩, h7, fun k hk => Nat.lt_of_lt_of_le (h8 k hk) hb.size⟩
def formF : Nat → Nat
  | 0 => 86
  | 1 => 87
  | 2 => 88
  | 3 => 90
  | _ => 63
theorem formF4 (i : Nat) (h : 4 ≤ i) : formF i = 63 := by
  obtain ⟨j, rfl⟩ : ∃ j, i = j + 4 := ⟨i - 4, by omega⟩
  rfl
def formB (i : Nat) : Array Value := #[.string (formW i), .int .i64 (formLo i), .int .i64 (formHi i), .func (.func (formF i)) #[] #[]]
theorem formB4 (i : Nat) (h : 4 ≤ i) : formB i = #[.string ⟨#[109, 111, 118, 101]⟩, .int .i64 4, .int .i64 4, .func (.func 63) #[] #[]] := by
  obtain ⟨j, rfl⟩ : ∃ j, i = j + 4 := ⟨i - 4, by omega⟩
  unfold formB formLo formHi
  rw [if_neg (by omega), if_neg (by omega)]
  rfl
theorem C_row {g : Nat} {l : List ByteArray} {w : World} {t : TypeId} {fr : Nat × Nat} (e : w.heap[g]? = some (.cells (l.map Value.string).toArray t fr)) (hl : l.length ≤ 9223372036854775807) : Kd.C Kd.string w (some ⟨g, 0, none⟩) l.length l := by
  refine ⟨rfl, by omega, fun _ => ⟨_, rfl, fun j p hj => ⟨[.string p], rfl, rfl, fun i u hu => ?_⟩⟩⟩
  cases i with
  | zero =>
    obtain rfl : Value.string p = u := by simpa using hu
    rw [show Kd.string.sz = 1 from rfl, Nat.mul_one, Nat.add_zero, Go.WideShapes.add_plain, Nat.zero_add]
    simp [World.cell?, e, hj]
  | succ i => simp at hu
abbrev zeroC : Array Value := #[.string ⟨#[]⟩, .slice none 0 0, .int .i64 0, .int .i64 0, .slice none 0 0]
/-- What is told of the call's end. -/
abbrev ParPost (w : World) (p : Pr) (ln e2 : Int) (e : Ending) (w' : World) : Prop := ∃ v1 v4 : Value, e = .returned (.tuple #[.agg #[.string p.1, v1, .int .i64 p.2.2.1, .int .i64 p.2.2.2.1, v4], .int .i64 ln, .int .i64 e2]) ∧ Kd.Q Kd.string 9 w' w.heap.size (fun _ => True) v1 p.2.1 ∧ Kd.R k64 64 w' w.heap.size (fun _ => True) v4 p.2.2.2.2 ∧ Below w.heap.size w w'
theorem post0 {w w' : World} {ln e2 : Int} (hb : Below w.heap.size w w') : ParPost w pr0 ln e2 (.returned (.tuple #[.agg zeroC, .int .i64 ln, .int .i64 e2])) w' := ⟨.slice none 0 0, .slice none 0 0, rfl, Kd.Q_nil _ _ _ _ _, Kd.R_nil _ _ _ _ _, hb⟩
/-- A row of texts that fills its block. -/
theorem R_row {g base : Nat} {l : List ByteArray} {w : World} (e : w.heap[g]? = some (.cells (l.map Value.string).toArray 9 (0, 0))) (hl : l.length ≤ 4000000000000) (hb : base ≤ g) : Kd.R Kd.string 9 w base (fun k => k = g) (.slice (some ⟨g, 0, none⟩) l.length l.length) l := by
  refine Kd.R_of_own ⟨?_, .inr ⟨g, l.length, (l.map Value.string).toArray, rfl, hb, e, Nat.le_refl _, ?_, ?_, ?_⟩⟩ (fun k hk => ?_)
  · simp [encs]
  · unfold maxLen; omega
  · simp
  · unfold encs
    rw [List.toList_toArray, List.take_of_length_le (by simp)]
  · have : g = k := by simpa [Value.ownBlock] using hk
    exact this.symm
theorem put5 {w : World} {g : Nat} (h : w.heap[g]? = some (.cells zeroC 35 (0, 0))) : (((((w.setCell ⟨g, 0, none⟩ (.string ⟨#[]⟩)).setCell ⟨g, 1, none⟩ (.slice none 0 0)).setCell ⟨g, 2, none⟩ (.int .i64 0)).setCell ⟨g, 3, none⟩ (.int .i64 0)).setCell ⟨g, 4, none⟩ (.slice none 0 0)).heap[g]? = some (.cells zeroC 35 (0, 0)) :=
  blk_put (blk_put (blk_put (blk_put (blk_put h 0 _ rfl) 1 _ rfl) 2 _ rfl) 3 _ rfl) 4 _ rfl
theorem put5v {w : World} {g : Nat} (a b c d e : Value) (h : w.heap[g]? = some (.cells zeroC 35 (0, 0))) : (((((w.setCell ⟨g, 0, none⟩ a).setCell ⟨g, 1, none⟩ b).setCell ⟨g, 2, none⟩ c).setCell ⟨g, 3, none⟩ d).setCell ⟨g, 4, none⟩ e).heap[g]? = some (.cells #[a, b, c, d, e] 35 (0, 0)) :=
  blk_put (blk_put (blk_put (blk_put (blk_put h 0 _ rfl) 1 _ rfl) 2 _ rfl) 3 _ rfl) 4 _ rfl
theorem below5 {w0 w : World} {g : Nat} {a b c d e : Value} (h : Below w0.heap.size w0 w) (hg : w0.heap.size ≤ g) : Below w0.heap.size w0 (((((w.setCell ⟨g, 0, none⟩ a).setCell ⟨g, 1, none⟩ b).setCell ⟨g, 2, none⟩ c).setCell ⟨g, 3, none⟩ d).setCell ⟨g, 4, none⟩ e) := below_set (below_set (below_set (below_set (below_set h hg) hg) hg) hg) hg
theorem spl_len (c : UInt8) (s : ByteArray) : (spl c s).length = Lib.countB s ⟨#[c]⟩ + 1 := Lib.splitB_all ⟨#[c]⟩ (Nat.le_refl 1) 0 _ s rfl
theorem cnt_le (c : UInt8) (s : ByteArray) : Lib.countB s ⟨#[c]⟩ ≤ s.size := Lib.countB_le ⟨#[c]⟩ (Nat.le_refl 1) _ s (Nat.le_refl _)
theorem results_ctt {P : Program} {fn : Func} {p u v : Tmp} {ty : TypeId} (h : fn.results = #[.cell p ty, .tmp u, .tmp v]) (tmps : Array Value) (w : World) (g : Nat) (t : TypeId) (cs : Array Value) (fr : Nat × Nat) (d : TypeDesc)
    (hp : tmps.getD p undef = .pointer (some ⟨g, 0, none⟩)) (hg : w.heap[g]? = some (.cells cs t fr))
    (hu : P.underlying ty = some d) (hd : (match d with | .struct _ | .array _ _ => true | _ => false) = true) (hi : (P.info? ty).map (·.size) = some cs.size) :
    (results fn tmps).run P w = .ok (.tuple #[.agg cs, tmps.getD u undef, tmps.getD v undef]) w := by
  have hp' : tmps[p]?.getD undef = .pointer (some ⟨g, 0, none⟩) := by simpa using hp
  simp [results, h, hp', asAddr, run_loadVar_row w g t ty cs fr d hg hu hd hi]
/-- A form's function is called. -/
theorem take_calls (K i : Nat) (g base : Nat) (bad : List Nat) (fr : Bool) (pp p2 : Pr) (er2 : Int) (aw : Addr) (cw : Nat) (ws : List ByteArray) (w0 w : World) (hp : PRep w g base bad fr pp.1 pp.2.1 pp.2.2.1 pp.2.2.2.1 pp.2.2.2.2) (hw : Kd.C Kd.string w (some aw) ws.length ws) (hfr : i < 4 → fr = true) (hlo : formLo i ≤ ws.length) (hcw : ws.length ≤ cw) (hcm : cw ≤ 4000000000000) (hg : aw.block ≠ g) (hgb : aw.block ≠ base) (hlt : aw.block < w.heap.size) (hq : Kd.Q Kd.string 9 w base (fun k => k = aw.block) (.slice (some aw) ws.length cw) ws) (hms : pp.2.2.2.2.length ≤ 100000000) (hb0 : Below w0.heap.size w0 w) (hbase : base = w0.heap.size) (hbg : base ≤ g) (h : takeP K i ws pp = some (p2, er2)) :
    Calls Tryd.prog (formF i) #[.pointer (some ⟨g, 0, none⟩), .slice (some aw) ws.length cw] w fun e w' => e = .returned (.int .i64 er2) ∧ (er2 = 0 → ∃ bad' fr', (i + 1 < 4 → fr' = true) ∧ (∀ k ∈ bad, k ∈ bad') ∧ PRep w' g base bad' fr' p2.1 p2.2.1 p2.2.2.1 p2.2.2.2.1 p2.2.2.2.2 ∧ p2.2.2.2.2.length ≤ pp.2.2.2.2.length + 1) ∧ Kept w w' (KS g bad) ∧ Below w0.heap.size w0 w' := by
  have hgw : w0.heap.size ≤ g := by omega
  rcases i with _ | _ | _ | _ | i
  · obtain ⟨rfl, rfl⟩ : _ ∧ _ := by simpa [takeP] using h
    refine (take1 g base bad fr _ _ _ _ _ (some aw) cw ws w hp hw (show 2 ≤ ws.length from hlo)).mono ?_
    rintro e w' ⟨rfl, h1, h2, h3⟩
    exact ⟨rfl, fun _ => ⟨bad, fr, fun _ => hfr (by omega), fun k hk => hk, h1, Nat.le_succ _⟩, h2, h3 w0 hb0 hgw⟩
  · obtain ⟨rfl, rfl⟩ : _ ∧ _ := Prod.mk.inj (Option.some.inj (show some ((pp.1, ws.drop 1, pp.2.2), (0 : Int)) = some (p2, er2) from h))
    obtain rfl : fr = true := hfr (by omega)
    refine (take2 g base bad _ _ _ _ _ aw cw ws w hp hw (show 2 ≤ ws.length from hlo) hcw hcm hg hgb hlt hq).mono ?_
    rintro e w' ⟨rfl, h1, h2, h3⟩
    exact ⟨rfl, fun _ => ⟨_, true, fun _ => rfl, fun k hk => List.mem_cons_of_mem _ hk, h1, Nat.le_succ _⟩, h2, h3 w0 hb0 hgw⟩
  · obtain ⟨r, h1, h2⟩ := Option.bind_eq_some_iff.mp (show (slices_Index_string_string.f K pp.2.1 (rdOf ByteArray.empty ws 1)).bind _ = _ from h)
    obtain ⟨rfl, rfl⟩ : _ ∧ _ := by simpa using h2
    refine (take34 K g base bad fr _ _ _ _ _ (some aw) cw ws r w hp hw (show 2 ≤ ws.length from hlo) (fun ad e => by injection e with e; rw [← e]; exact hg) h1).1.mono ?_
    rintro e w' ⟨rfl, h1, h2, h3⟩
    exact ⟨rfl, fun _ => ⟨bad, fr, fun _ => hfr (by omega), fun k hk => hk, h1, Nat.le_succ _⟩, h2, h3 w0 hb0 hgw⟩
  · obtain ⟨r, h1, h2⟩ := Option.bind_eq_some_iff.mp (show (slices_Index_string_string.f K pp.2.1 (rdOf ByteArray.empty ws 1)).bind _ = _ from h)
    obtain ⟨rfl, rfl⟩ : _ ∧ _ := by simpa using h2
    refine (take34 K g base bad fr _ _ _ _ _ (some aw) cw ws r w hp hw (show 2 ≤ ws.length from hlo) (fun ad e => by injection e with e; rw [← e]; exact hg) h1).2.mono ?_
    rintro e w' ⟨rfl, h1, h2, h3⟩
    exact ⟨rfl, fun _ => ⟨bad, fr, fun h => absurd h (by omega), fun k hk => hk, h1, Nat.le_succ _⟩, h2, h3 w0 hb0 hgw⟩
  · obtain ⟨r1, h1, h2⟩ := Option.bind_eq_some_iff.mp (show (slices_Index_string_string.f K pp.2.1 (rdOf ByteArray.empty ws 1)).bind _ = _ from h)
    obtain ⟨r3, h3, h2⟩ := Option.bind_eq_some_iff.mp h2
    obtain ⟨e0, h4, h2⟩ := Option.bind_eq_some_iff.mp h2
    by_cases hz : e0 = 0 → 0 ≤ r1 ∧ 0 ≤ r3
    · rw [if_pos hz] at h2
      obtain ⟨rfl, rfl⟩ : _ ∧ _ := by simpa using h2
      refine (move_calls K g base bad fr _ _ _ _ _ aw cw ws r1 r3 w0 w hp hw (by have h9 : formLo (i + 4) ≤ ws.length := hlo; rw [formLo4 _ (by omega)] at h9; omega) h1 h3 hms hb0 hbase hbg _ hz h4).mono ?_
      rintro e w' ⟨rfl, h1, h2, h3⟩
      exact ⟨rfl, fun he => ⟨bad, false, fun h => absurd h (by omega), fun k hk => hk, h1 he, by rw [List.length_append]; exact Nat.le_refl _⟩, h2, h3⟩
    · rw [if_neg hz] at h2; cases h2
end Go.Proofs.YthfhbdncphkdaaaDoor.H

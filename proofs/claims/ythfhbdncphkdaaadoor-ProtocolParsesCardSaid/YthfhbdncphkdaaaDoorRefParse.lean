/- The reference's Parse of a protocol: its call does what is told of it. -/
import Derived.Test.YthfhbdncphkdaaaDoorRefHead
import Derived.Test.YthfhbdncphkdaaaDoorHf68
import Derived.Test.YthfhbdncphkdaaaDoorHe
import Derived.Test.YthfhbdncphkdaaaDoorHf66
import Derived.Test.YthfhbdncphkdaaaDoorHf65
import Derived.Test.YthfhbdncphkdaaaDoorHf69
namespace Go.Proofs.YthfhbdncphkdaaaDoor.H
open Go.RowKit Go.Proofs.YthfhbdncphkdaaaDoorW.PrintWords Go.Proofs.YthfhbdncphkdaaaDoorW.PrintLast Go.Proofs.YthfhbdncphkdaaaDoorW.PrintMore
set_option linter.unusedVariables false
set_option linter.unusedSimpArgs false

def moveP (K : Nat) (ws : List ByteArray) (p : Pr) : Option (Pr × Int) := (dataflowref39_move.f K p.1 p.2.1 p.2.2.1 p.2.2.2.1 p.2.2.2.2 ws).map fun r => ((r.1, r.2.1, r.2.2.1, r.2.2.2.1, r.2.2.2.2.1), r.2.2.2.2.2)
/-- A line, the reference: has the end come, the protocol, the error. -/
def rlineP (K i : Nat) (ended : Bool) (p : Pr) (ws : List ByteArray) : Option (Bool × Pr × Int) :=
  if ended = true then some (true, p, 2)
  else if i < 4 then (headP K i ws p).map fun x => (false, x.1, x.2)
  else (dataflowref39_form.f K ws (⟨#[101, 110, 100]⟩ : ByteArray) 1).bind fun b => if b = true then some (true, p, 0) else (moveP K ws p).map fun x => (false, x.1, x.2)
def rparG (K : Nat) : List ByteArray → Nat → Bool → Pr → Option (Bool × Pr × Int × Int)
  | [], _, e, p => some (e, p, 0, 0)
  | l :: r, i, e, p => (dataflowref39_Words.f K l).bind fun ws => (rlineP K i e p ws).bind fun x => if x.2.2 = 0 then rparG K r (i + 1) x.1 x.2.1 else some (x.1, x.2.1, (i : Int) + 1, x.2.2)
def rparP (K : Nat) (s : ByteArray) : Option (Pr × Int × Int) :=
  if s.size > 65536 then some (pr0, 0, 3) else
  (dataflowref39_Lines.f K s).bind fun y => if y.1.length ≤ 1000000 then (rparG K y.1 0 false pr0).bind fun x =>
    if x.2.2.2 = 0 then (if x.1 = true ∧ ¬ y.2.toList = ([] : List UInt8) then some (pr0, (y.1.length : Int) + 1, 2) else if x.1 = false then some (pr0, (y.1.length : Int) + 1, 21) else
      ((dataflowref39_Check.f K x.2.1.1 x.2.1.2.1 x.2.1.2.2.1 x.2.1.2.2.2.1 x.2.1.2.2.2.2).bind fun e => if e = 0 then some (x.2.1, 0, 0) else some (pr0, 0, e)))
    else some (pr0, x.2.2.1, x.2.2.2)
  else none
/-- The blocks that no row of the protocol's is in: the result's, the protocol's, the lines'. -/
def bdR (h g : Nat) (A : Option Addr) (k : Nat) : Prop := k = h ∨ k = g ∨ ∃ ad, A = some ad ∧ ad.block = k
/-- The loop's world: the result's block, the protocol's, the lines. -/
structure RBase (w wr : World) (g : Nat) (A : Option Addr) (L : List ByteArray) : Prop where
  rb : wr.heap[w.heap.size]? = some (.cells zeroC 35 (0, 0))
  gx : ∃ a0 a1 a2 a3 a4 : Value, wr.heap[g]? = some (.cells #[a0, a1, a2, a3, a4] 35 (0, 0))
  lc : Kd.C Kd.string wr A L.length L
  lt : ∀ k, bdR w.heap.size g A k → k < wr.heap.size
  bl : Below w.heap.size w wr
  gne : w.heap.size < g
  lne : ∀ ad, A = some ad → ad.block ≠ g ∧ ad.block ≠ w.heap.size
structure RRep (w wr : World) (g : Nat) (A : Option Addr) (L : List ByteArray) (p : Pr) : Prop where
  base : RBase w wr g A L
  gb : ∃ As cs Am cm, wr.heap[g]? = some (.cells #[.string p.1, .slice As p.2.1.length cs, .int .i64 p.2.2.1, .int .i64 p.2.2.2.1, .slice Am p.2.2.2.2.length cm] 35 (0, 0)) ∧ Kd.Q Kd.string 9 wr w.heap.size (fun k => ¬ bdR w.heap.size g A k) (.slice As p.2.1.length cs) p.2.1 ∧ Kd.R k64 64 wr w.heap.size (fun k => ¬ bdR w.heap.size g A k) (.slice Am p.2.2.2.2.length cm) p.2.2.2.2
theorem RBase.below {w wr w' : World} {g : Nat} {A : Option Addr} {L : List ByteArray} (h : RBase w wr g A L) (hb : Below wr.heap.size wr w') : RBase w w' g A L := by
  obtain ⟨h1, ⟨a0, a1, a2, a3, a4, h2⟩, h3, h4, h5, h6, h7⟩ := h
  exact ⟨blk_below h1 hb, ⟨a0, a1, a2, a3, a4, blk_below h2 hb⟩, Kd.C_below h3 hb, fun k hk => Nat.lt_of_lt_of_le (h4 k hk) hb.size, below_step h5 hb, h6, h7⟩
theorem RRep.below {w wr w' : World} {g : Nat} {A : Option Addr} {L : List ByteArray} {p : Pr} (h : RRep w wr g A L p) (hb : Below wr.heap.size wr w') : RRep w w' g A L p := by
  obtain ⟨h0, As, cs, Am, cm, a1, a2, a3⟩ := h
  exact ⟨h0.below hb, As, cs, Am, cm, blk_below a1 hb, Kd.Q_below a2 hb, Kd.R_below a3 hb⟩
/-- A call that writes none of the blocks told of. -/
theorem RBase.kept {w wr w' : World} {g : Nat} {A : Option Addr} {L : List ByteArray} {S : Nat → Prop} (h : RBase w wr g A L) (hk : Kept wr w' S) (hS : ∀ k, S k → ¬ bdR w.heap.size g A k) (hb : Below w.heap.size w w') : RBase w w' g A L := by
  obtain ⟨h1, ⟨a0, a1, a2, a3, a4, h2⟩, h3, h4, h5, h6, h7⟩ := h
  have hh : ∀ k, bdR w.heap.size g A k → w'.heap[k]? = wr.heap[k]? := fun k hd => hk.2 k (h4 k hd) (fun hs => hS k hs hd)
  exact ⟨(hh _ (.inl rfl)).trans h1, ⟨a0, a1, a2, a3, a4, (hh _ (.inr (.inl rfl))).trans h2⟩, C_str h3 (fun ad e => hh _ (.inr (.inr ⟨ad, e, rfl⟩))), fun k hd => Nat.lt_of_lt_of_le (h4 k hd) hk.1, hb, h6, h7⟩
/-- The protocol's block is written anew. -/
theorem RBase.put {w wr : World} {g : Nat} {A : Option Addr} {L : List ByteArray} (h : RBase w wr g A L) (p2 : Pr) (As Am : Option Addr) (cs cm : Nat) (hs : Kd.Q Kd.string 9 wr w.heap.size (fun k => ¬ bdR w.heap.size g A k) (.slice As p2.2.1.length cs) p2.2.1) (hm : Kd.R k64 64 wr w.heap.size (fun k => ¬ bdR w.heap.size g A k) (.slice Am p2.2.2.2.2.length cm) p2.2.2.2.2) :
    RRep w (((((wr.setCell ⟨g, 0, none⟩ (.string p2.1)).setCell ⟨g, 1, none⟩ (.slice As p2.2.1.length cs)).setCell ⟨g, 2, none⟩ (.int .i64 p2.2.2.1)).setCell ⟨g, 3, none⟩ (.int .i64 p2.2.2.2.1)).setCell ⟨g, 4, none⟩ (.slice Am p2.2.2.2.2.length cm)) g A L p2 := by
  obtain ⟨h1, ⟨a0, a1, a2, a3, a4, h2⟩, h3, h4, h5, h6, h7⟩ := h
  have hng : ∀ k, ¬ bdR w.heap.size g A k → k ≠ g := fun k hk e => hk (.inr (.inl e))
  have hw : w.heap.size ≠ g := Nat.ne_of_lt h6
  have hG := blk_put (blk_put (blk_put (blk_put (blk_put h2 0 (.string p2.1) rfl) 1 (.slice As p2.2.1.length cs) rfl) 2 (.int .i64 p2.2.2.1) rfl) 3 (.int .i64 p2.2.2.2.1) rfl) 4 (.slice Am p2.2.2.2.2.length cm) rfl
  refine ⟨⟨blk_far (blk_far (blk_far (blk_far (blk_far h1 hw _) hw _) hw _) hw _) hw _, ⟨_, _, _, _, _, hG⟩, C_str h3 (fun ad e => ?_), fun k hk => ?_, below_set (below_set (below_set (below_set (below_set h5 (Nat.le_of_lt h6)) (Nat.le_of_lt h6)) (Nat.le_of_lt h6)) (Nat.le_of_lt h6)) (Nat.le_of_lt h6), h6, h7⟩, As, cs, Am, cm, hG, Kd.Q_far (p := ⟨g, 4, none⟩) (Kd.Q_far (p := ⟨g, 3, none⟩) (Kd.Q_far (p := ⟨g, 2, none⟩) (Kd.Q_far (p := ⟨g, 1, none⟩) (Kd.Q_far (p := ⟨g, 0, none⟩) hs hng _) hng _) hng _) hng _) hng _, Kd.R_far (p := ⟨g, 4, none⟩) (Kd.R_far (p := ⟨g, 3, none⟩) (Kd.R_far (p := ⟨g, 2, none⟩) (Kd.R_far (p := ⟨g, 1, none⟩) (Kd.R_far (p := ⟨g, 0, none⟩) hm hng _) hng _) hng _) hng _) hng _⟩
  · have hne := (h7 ad e).1
    exact (Below.heap_setCell _ _ _ _ hne).trans ((Below.heap_setCell _ _ _ _ hne).trans ((Below.heap_setCell _ _ _ _ hne).trans ((Below.heap_setCell _ _ _ _ hne).trans (Below.heap_setCell _ _ _ _ hne))))
  · rw [World.size_setCell, World.size_setCell, World.size_setCell, World.size_setCell, World.size_setCell]
    exact h4 k hk
theorem head_vs {w4 w5 : World} {base : Nat} {ok ok2 : Nat → Prop} {As : Option Addr} {cs : Nat} {ss ss2 ws : List ByteArray} {aw : Addr} {c4 : Nat} {vS : Value} (hs : Kd.Q Kd.string 9 w4 base ok (.slice As ss.length cs) ss) (hw : Kd.Q Kd.string 9 w4 base ok2 (.slice (some aw) ws.length c4) ws) (ho : ∀ k, ok2 k → ok k) (hb : Below w4.heap.size w4 w5)
    (h : vS = .slice As ss.length cs ∧ ss2 = ss ∨ vS = .slice (some (aw.add 1)) (ws.length - 1) (c4 - 1) ∧ ss2 = ws.drop 1 ∧ 1 < ws.length) : ∃ As2 cs2, vS = .slice As2 ss2.length cs2 ∧ Kd.Q Kd.string 9 w5 base ok (.slice As2 ss2.length cs2) ss2 := by
  rcases h with ⟨rfl, rfl⟩ | ⟨rfl, rfl, h1⟩
  · exact ⟨As, cs, rfl, Kd.Q_below hs hb⟩
  · have hl : (ws.drop 1).length = ws.length - 1 := List.length_drop
    have hle := (Kd.Q_reads' hw).2.1
    have hd := Kd.Q_drop (k := 1) hw (by omega)
    rw [if_neg (by omega)] at hd
    rw [hl]
    exact ⟨_, _, rfl, Kd.Q_mono (Kd.Q_below hd hb) ho⟩
theorem R_cap {α : Type} {d : Kd α} {e : Nat} {w : World} {base : Nat} {ok : Nat → Prop} {A : Option Addr} {n c : Nat} {xs : List α} (h : d.R e w base ok (.slice A n c) xs) : c ≤ maxLen := by
  obtain ⟨_, inner, ho, _⟩ := h
  rcases ho.2 with ⟨h1, _⟩ | ⟨g, cap, cur, h1, _, _, _, hc, _⟩
  · injection h1 with _ _ h1; rw [h1]; exact Nat.zero_le _
  · injection h1 with _ _ h1; rw [h1]; exact hc
theorem rstart {w w2 : World} {A : Option Addr} {c : Nat} {L : List ByteArray} (hB : Below (w.alloc (.cells zeroC 35)).heap.size (w.alloc (.cells zeroC 35)) w2) (hR : Kd.R Kd.string 9 w2 (w.alloc (.cells zeroC 35)).heap.size (fun _ => True) (.slice A L.length c) L) :
    RRep w (w2.alloc (.cells zeroC 35)) w2.heap.size A L pr0 := by
  have s1 : (w.alloc (.cells zeroC 35)).heap.size = w.heap.size + 1 := by simp
  have h1 := hB.size
  rw [s1] at h1
  have hlt : ∀ ad, A = some ad → ad.block < w2.heap.size ∧ w.heap.size + 1 ≤ ad.block := fun ad e => by
    subst e
    have a1 := Kd.R_lt hR ad.block rfl
    have a2 := Kd.R_base hR ad.block rfl
    rw [s1] at a2
    exact ⟨a1, a2⟩
  have s2 : (w2.alloc (.cells zeroC 35)).heap.size = w2.heap.size + 1 := by simp
  refine ⟨⟨blk_alloc (blk_below (blk_new w _) hB) _, ⟨_, _, _, _, _, blk_new w2 _⟩, Kd.C_alloc (Kd.R_reads' hR).2.2 _, fun k hk => ?_, below_alloc (below_step (below_alloc (Below.refl _ _) _) hB) _, by omega, fun ad e => ?_⟩, none, 0, none, 0, blk_new w2 _, Kd.Q_nil _ _ _ _ _, Kd.R_nil _ _ _ _ _⟩
  · rw [s2]
    rcases hk with rfl | rfl | ⟨ad, e, rfl⟩
    · omega
    · omega
    · have := (hlt ad e).1; omega
  · have := hlt ad e; omega
set_option maxHeartbeats 20000000 in
set_option maxRecDepth 100000 in
theorem rparse_calls (K : Nat) (s : ByteArray) (p : Pr) (ln e2 : Int) (w : World) (h : rparP K s = some (p, ln, e2)) :
    Calls Tryd.prog 39 #[.string s] w fun e w' => ParPost w p ln e2 e w' := by
  have hu35 := Tryd.underlying35
  unfold rparP at h
  by_cases hs : s.size > 65536
  · rw [if_pos hs] at h
    obtain ⟨rfl, rfl, rfl⟩ := by simpa using h
    have hd := decide_eq_true (show (65536 : Int) < (s.size : Int) by omega)
    have hd2 := decide_eq_true (show 65536 < s.size by omega)
    clear h
    go_enter Tryd.func39, Tryd.ntmps39
    go_wp2
    refine bodyPost_ret (results_ctt rfl _ _ w.heap.size 35 zeroC (0, 0) _ rfl (blk_new w _) hu35 rfl (by kernel_rfl)) rfl ?_
    exact post0 (below_alloc (Below.refl _ _) _)
  · rw [if_neg hs] at h
    have hd := decide_eq_false (show ¬ (65536 : Int) < (s.size : Int) by omega)
    have hd2 := decide_eq_false (show ¬ 65536 < s.size by omega)
    obtain ⟨⟨L, rest⟩, hy, h⟩ := Option.bind_eq_some_iff.mp h
    by_cases hLL : L.length ≤ 1000000
    case neg => dsimp only at h; rw [if_neg hLL] at h; cases h
    have h := (if_pos hLL).symm.trans h
    obtain ⟨x, hx, h⟩ := Option.bind_eq_some_iff.mp h
    have LLA := Aside0.mk hLL
    have HX := Aside0.mk hx
    have HY := Aside0.mk h
    have HLN := Aside0.mk hy
    clear hx h hy hs hLL
    go_enter Tryd.func39, Tryd.ntmps39
    go_upto_region 4 with (first | (go_at_call 65; (with_reducible refine (dataflowref39_Lines.calls K s L rest _ HLN.out).mono ?_); rintro e w2 ⟨v0, rfl, hR0, hB0⟩; obtain ⟨A, c, rfl⟩ := Kd.R_slice hR0; have HR0 := Aside0.mk hR0; have HB0 := Aside0.mk hB0; clear hR0 hB0))
    have HL0 := Aside0.mk (rstart HB0.out HR0.out)
    have hcc := eq_true (show L.length ≤ c from (Kd.R_reads' HR0.out).2.1)
    go_wp2
    go_loopw [8, 9] (fun v8 v9 wr => ∃ (i : Nat) (ed : Bool) (pp : Pr), v8 = .bool ed ∧ v9 = .int .i64 i ∧ Aside0 (i ≤ L.length ∧ rparG K (L.drop i) i ed pp = some x) ∧ Aside0 (RRep w wr w2.heap.size A L pp)) (fun _ v9 _ => L.length - (intOf v9).toNat)
    case atStart => exact ⟨0, false, pr0, rfl, rfl, ⟨Nat.zero_le _, HX.out⟩, HL0⟩
    case round =>
      obtain ⟨i, ed, pp, rfl, rfl, HI, HP⟩ := hrel
      have LM := Nat.le_trans (Kd.R_reads' HR0.out).2.1 (R_cap HR0.out)
      by_cases hlt : i < L.length
      · obtain ⟨⟨lb, lo, sp⟩, eA, hx0⟩ := Kd.at_string HP.out.base.lc 0 (by omega) (by omega)
        have hsp : sp = none := by simpa [Addr.add] using World.cell?_spot hx0
        subst hsp
        obtain ⟨ad2, eA2, hxi⟩ := Kd.at_string HP.out.base.lc (i : Int) (by omega) (by omega)
        obtain rfl : (⟨lb, lo, none⟩ : Addr) = ad2 := Option.some.inj (eA.symm.trans eA2)
        rw [Int.toNat_natCast, Go.WideShapes.add_plain] at hxi
        obtain ⟨l, hl⟩ : ∃ l, L[i]? = some l := ⟨_, List.getElem?_eq_getElem hlt⟩
        have hrl : rdOf ByteArray.empty L (i : Int) = l := by unfold rdOf; rw [Int.toNat_natCast, List.getD_eq_getElem?_getD, hl]; rfl
        rw [hrl] at hxi
        have DR := Aside0.mk (show L.drop i = l :: L.drop (i + 1) by
          rw [List.drop_eq_getElem_cons hlt]
          congr 1
          exact Option.some.inj ((List.getElem?_eq_getElem hlt).symm.trans hl))
        have hp := HI.out.2
        rw [DR.out] at hp
        unfold rparG at hp
        obtain ⟨ws, hws, hp⟩ := Option.bind_eq_some_iff.mp hp
        obtain ⟨⟨ed2, p2, er2⟩, hq, hp⟩ := Option.bind_eq_some_iff.mp hp
        have HWS := Aside0.mk hws
        have HQ := Aside0.mk hq
        have HPX := Aside0.mk hp
        have LT := Aside0.mk hlt
        have EA := Aside0.mk eA
        have WN := Aside0.mk (show wrap64 ((i : Int) + 1) = ((i + 1 : Nat) : Int) by unfold maxLen at LM; unfold wrap64; omega)
        have b0 := eq_true (show (i : Int) ≤ 9223372036854775806 by unfold maxLen at LM; omega)
        have p0 := eq_true (show (0 : Int) ≤ (i : Int) by omega)
        have p1 := eq_true (show (i : Int) < (L.length : Int) by omega)
        have d1 := decide_eq_true (show (i : Int) < (L.length : Int) by omega)
        have d2 := decide_eq_true hlt
        have hAs : A = some ⟨lb, lo, none⟩ := eA
        clear eA2 hrl hl hp hq hws hx0 hlt LM
        subst hAs
        clear eA
        go_upto_region 10 with (first | (go_at_call 66; (with_reducible refine (dataflowref39_Words.calls K l ws _ HWS.out).mono ?_); rintro e w4 ⟨v4, rfl, hR4, hB4⟩; obtain ⟨A4, c4, rfl⟩ := Kd.R_slice hR4; have HR4 := Aside0.mk hR4; have HB4 := Aside0.mk hB4; clear hR4 hB4))
        have HP4 := Aside0.mk (HP.out.below HB4.out)
        obtain ⟨hbase, As, cs, Am, cm, g1, g2, g3⟩ := HP.out
        have HBS := Aside0.mk (hbase.below HB4.out)
        have HG1 := Aside0.mk (blk_below g1 HB4.out)
        have HG2 := Aside0.mk (Kd.Q_below g2 HB4.out)
        have HG3 := Aside0.mk (Kd.R_below g3 HB4.out)
        have BLT := Aside0.mk hbase.lt
        have HO2 := Aside0.mk (show Kd.Q Kd.string 9 w4 w.heap.size (fun k => ¬ bdR w.heap.size w2.heap.size (some ⟨lb, lo, none⟩) k ∧ k < wr.heap.size) (.slice As pp.2.1.length cs) pp.2.1 from Kd.Q_below (Kd.Q_mono (Kd.Q_bound g2) (fun k hk => ⟨hk.1, hk.2.2.1⟩)) HB4.out)
        have HO3 := Aside0.mk (show Kd.R k64 64 w4 w.heap.size (fun k => ¬ bdR w.heap.size w2.heap.size (some ⟨lb, lo, none⟩) k ∧ k < wr.heap.size) (.slice Am pp.2.2.2.2.length cm) pp.2.2.2.2 from Kd.R_below (Kd.R_mono (Kd.R_bound g3) (fun k hk => ⟨hk.1, hk.2.2.1⟩)) HB4.out)
        have QW := Aside0.mk (show Kd.Q Kd.string 9 w4 w.heap.size (fun k => ¬ bdR w.heap.size w2.heap.size (some ⟨lb, lo, none⟩) k ∧ wr.heap.size ≤ k) (.slice A4 ws.length c4) ws from
          Kd.Q_mono (Kd.Q_lower (Kd.Q_bound (Kd.Q_of_R HR4.out)) hbase.bl.size) (fun k hk => ⟨fun hb => (by have h1 := hbase.lt k hb; have h2 := hk.2.1; omega), hk.2.1⟩))
        clear hbase g1 g2 g3
        have CWd := Aside0.mk (Kd.R_reads' HR4.out).2.2
        have CC4 := Aside0.mk (Kd.R_reads' HR4.out).2.1
        have CM4 := Aside0.mk (show c4 ≤ 9223372036854775807 from R_cap HR4.out)
        go_upto_block 2 with (fail)
        go_cut [8, 11] (fun v8 v11 wc => v8 = .bool ed2 ∧ v11 = .int .i64 er2 ∧ Aside0 (RRep w wc w2.heap.size (some ⟨lb, lo, none⟩) L p2))
        case first =>
          have hq := HQ.out
          unfold rlineP at hq
          cases ed with
          | true =>
            rw [if_pos rfl] at hq
            obtain ⟨rfl, rfl, rfl⟩ := by simpa using hq
            clear hq
            go_wp2
            go_meet
            case rel => exact ⟨rfl, rfl, HP4⟩
          | false =>
            rw [if_neg (by decide)] at hq
            obtain ⟨hz0, hz1, hz2, hz3, hz4, hy0, hy1, hy2, hy3, hy4⟩ := cz5_ HG1.out
            by_cases hi : i < 4
            · rw [if_pos hi] at hq
              obtain ⟨⟨p3, er3⟩, hh, hq⟩ := Option.map_eq_some_iff.mp hq
              obtain ⟨rfl, rfl, rfl⟩ := by simpa using hq
              have h0 : 0 < ws.length := by
                cases hw : ws with
                | nil => rw [hw] at hh; simp [headP, dataflowref39_form.f] at hh
                | cons a r => exact Nat.succ_pos _
              obtain ⟨aw, eAw, _⟩ := Kd.at_string CWd.out 0 (by omega) (by omega)
              subst eAw
              have HC := Aside0.mk (head_calls K i hi pp p3 As cs Am pp.2.2.2.2.length cm aw ws c4 er3 w4 (Kd.Q_reads' HG2.out).2.2 (Kd.Q_reads' HG2.out).2.1 CWd.out CC4.out CM4.out hh)
              have d4 := decide_eq_true (show (i : Int) < 4 by omega)
              have p4 := eq_true (show (i : Int) < 4 by omega)
              have HI4 := Aside0.mk hi
              clear hq hh h0 hi
              go_wp2_with (first | (go_at_call 67; (with_reducible refine HC.out.mono ?_); rintro e w5 ⟨vS, rfl, hvS, eM, hB5⟩; obtain ⟨As2, cs2, rfl, hQ5⟩ := head_vs HG2.out QW.out (fun k hk => hk.1) hB5 hvS; have HQ5 := Aside0.mk hQ5; have EM := Aside0.mk eM; have HB5 := Aside0.mk hB5; have HG5 := Aside0.mk (blk_below HG1.out hB5); clear hvS eM hB5 hQ5; obtain ⟨hz0, hz1, hz2, hz3, hz4, hy0, hy1, hy2, hy3, hy4⟩ := cz5_ HG5.out))
              have RR := (HBS.out.below HB5.out).put p3 As2 Am cs2 cm HQ5.out (by rw [EM.out]; exact Kd.R_below HG3.out HB5.out)
              rw [EM.out] at RR
              go_meet
              case rel => exact ⟨rfl, rfl, ⟨RR⟩⟩
            · rw [if_neg hi] at hq
              obtain ⟨b, hb, hq⟩ := Option.bind_eq_some_iff.mp hq
              have d4 := decide_eq_false (show ¬ (i : Int) < 4 by omega)
              have p4 := eq_false (show ¬ (i : Int) < 4 by omega)
              have HFM := Aside0.mk hb
              clear hb hi
              cases b with
              | true =>
                rw [if_pos rfl] at hq
                obtain ⟨rfl, rfl, rfl⟩ := by simpa using hq
                clear hq
                go_wp2_with (first | (go_at_call 68; (with_reducible refine (dataflowref39_form.calls K A4 c4 ws _ 1 _ _ CWd.out CC4.out HFM.out).mono ?_); rintro e w' ⟨rfl, ⟨nd, rfl⟩⟩))
                go_meet
                case rel => exact ⟨rfl, rfl, ⟨HP4.out.below (pw_below_drewN (Below.refl _ _) nd)⟩⟩
              | false =>
                rw [if_neg (by decide)] at hq
                obtain ⟨⟨p3, er3⟩, hh, hq⟩ := Option.map_eq_some_iff.mp hq
                obtain ⟨rfl, rfl, rfl⟩ := by simpa using hq
                obtain ⟨⟨m1, m2, m3, m4, m5, m6⟩, hmv, hm9⟩ := Option.map_eq_some_iff.mp hh
                obtain ⟨rfl, rfl⟩ := Prod.mk.inj hm9
                have HMV := Aside0.mk hmv
                have SZ := Aside0.mk HB4.out.size
                clear hq hh hm9 hmv
                have MVC := fun nd => dataflowref39_move.calls K pp.1 (fun k => ¬ bdR w.heap.size w2.heap.size (some ⟨lb, lo, none⟩) k ∧ k < wr.heap.size) (.slice As pp.2.1.length cs) pp.2.1 pp.2.2.1 pp.2.2.2.1 (fun k => ¬ bdR w.heap.size w2.heap.size (some ⟨lb, lo, none⟩) k ∧ k < wr.heap.size) (.slice Am pp.2.2.2.2.length cm) pp.2.2.2.2 A4 c4 ws m1 m2 m3 m4 m5 m6 w (w4.drewN nd) (pw_below_drewN HBS.out.bl nd) (Kd.Q_drewN HO2.out nd) (Kd.R_drewN HO3.out nd) (fun W_ hk => C_str (Kd.C_drewN CWd.out nd) (fun ad e => hk.2 ad.block (Kd.Q_lt QW.out ad.block (by rw [e]; rfl)) (fun hs => by have h1 := (QW.out.1 ad.block (by rw [e]; rfl)).2; rcases hs with hs | hs <;> (have h2 := hs.2; omega)))) CC4.out HMV.out
                have MVA := Aside0.mk MVC
                clear MVC
                go_wp2_with (first | (go_at_call 68; (with_reducible refine (dataflowref39_form.calls K A4 c4 ws _ 1 _ _ CWd.out CC4.out HFM.out).mono ?_); rintro e w' ⟨rfl, ⟨nd, rfl⟩⟩) | (go_at_call 69; (with_reducible refine (MVA.out _).mono ?_); rintro e w5 ⟨v1, v4, rfl, hQ5, hR5, hB5, hK5⟩; obtain ⟨As2, cs2, rfl, _⟩ := Kd.Q_slice hQ5; obtain ⟨Am2, cm2, rfl⟩ := Kd.R_slice hR5; have HQ5 := Aside0.mk hQ5; have HR5 := Aside0.mk hR5; have HB5 := Aside0.mk hB5; have HK5 := Aside0.mk hK5; clear hQ5 hR5 hB5 hK5; have HBS5 := Aside0.mk ((HBS.out.below (pw_below_drewN (Below.refl _ _) nd)).kept HK5.out (fun k hk => hk.elim (fun h => h.1) (fun h => h.1)) HB5.out); obtain ⟨a0, a1, a2, a3, a4, hgx⟩ := HBS5.out.gx; obtain ⟨hz0, hz1, hz2, hz3, hz4, hy0, hy1, hy2, hy3, hy4⟩ := cz5_ hgx; clear hgx))
                have okk : ∀ k, (((¬ bdR w.heap.size w2.heap.size (some ⟨lb, lo, none⟩) k ∧ k < wr.heap.size) ∨ (¬ bdR w.heap.size w2.heap.size (some ⟨lb, lo, none⟩) k ∧ k < wr.heap.size)) ∨ w4.heap.size ≤ k) → ¬ bdR w.heap.size w2.heap.size (some ⟨lb, lo, none⟩) k := fun k hk hb => by
                  have h1 := BLT.out k hb
                  have h2 := SZ.out
                  rcases hk with (hk | hk) | hk
                  · exact hk.1 hb
                  · exact hk.1 hb
                  · omega
                have RR := HBS5.out.put (m1, m2, m3, m4, m5) As2 Am2 cs2 cm2 (Kd.Q_mono HQ5.out okk) (Kd.R_mono HR5.out okk)
                go_meet
                case rel => exact ⟨rfl, rfl, ⟨RR⟩⟩
        case rest =>
          obtain ⟨rfl, rfl, HPc⟩ := hcut
          by_cases he : er2 = 0
          · subst he
            have hpx : rparG K (L.drop (i + 1)) (i + 1) ed2 p2 = some x := by have h := HPX.out; rw [if_pos rfl] at h; exact h
            have HPY := Aside0.mk hpx
            clear HPX HQ hpx
            go_wp2
            go_roundw
            case rel => exact ⟨i + 1, ed2, p2, rfl, by rw [WN.out], ⟨LT.out, HPY.out⟩, HPc⟩
            case measure => have := LT.out; rw [WN.out]; simp [intOf]; omega
          · have q9 : (er2 == 0) = false := beq_eq_false_iff_ne.2 he
            have q8 : (er2 != 0) = true := bne_iff_ne.2 he
            have hp : some (ed2, p2, (i : Int) + 1, er2) = some x := by have h := HPX.out; rw [if_neg he] at h; exact h
            have hy : some (pr0, (i : Int) + 1, er2) = some (p, ln, e2) := by have h := HY.out; rw [← Option.some.inj hp, if_neg he] at h; exact h
            have HYE := Aside0.mk hy
            have RBc := Aside0.mk HPc.out.base.rb
            obtain ⟨hz0, hz1, hz2, hz3, hz4, hy0, hy1, hy2, hy3, hy4⟩ := cz5_ RBc.out
            clear hp hy HPX HQ
            go_wp2
            have e1 : wrap64 ((i : Int) + 1) = (i : Int) + 1 := by rw [WN.out]; omega
            refine bodyPost_ret (results_ctt rfl _ _ w.heap.size 35 zeroC (0, 0) _ rfl (put5 RBc.out) hu35 rfl (by kernel_rfl)) rfl ?_
            obtain ⟨rfl, rfl, rfl⟩ := by simpa using HYE.out
            have := post0 (ln := (i : Int) + 1) (e2 := er2) (below5 (a := .string ⟨#[]⟩) (b := .slice none 0 0) (c := .int .i64 0) (d := .int .i64 0) (e := .slice none 0 0) HPc.out.base.bl (Nat.le_refl w.heap.size))
            show ParPost w pr0 ((i : Int) + 1) er2 (.returned (.tuple #[.agg zeroC, .int .i64 (wrap64 ((i : Int) + 1)), .int .i64 er2])) _
            rw [e1]
            exact this
      · have him : L.length = i := by have := HI.out.1; omega
        have hpx := HI.out.2
        rw [List.drop_eq_nil_of_le (by omega)] at hpx
        have hpx : some (ed, pp, (0 : Int), (0 : Int)) = some x := hpx
        have HXE := Aside0.mk (Option.some.inj hpx)
        have HIM := Aside0.mk him
        have RB := Aside0.mk HP.out.base.rb
        have BW := Aside0.mk HP.out.base.bl
        obtain ⟨hz0, hz1, hz2, hz3, hz4, hy0, hy1, hy2, hy3, hy4⟩ := cz5_ RB.out
        have b0 := eq_true (show (L.length : Int) ≤ 1000000 by have := LLA.out; omega)
        have d0 := decide_eq_false (show ¬ (i : Int) < (L.length : Int) by omega)
        have d1 := decide_eq_false (show ¬ i < L.length by omega)
        clear hpx hlt him LM
        cases ed with
        | false =>
          go_wp2
          refine bodyPost_ret (results_ctt rfl _ _ w.heap.size 35 zeroC (0, 0) _ rfl (put5 RB.out) hu35 rfl (by kernel_rfl)) rfl ?_
          have hy : some (pr0, (L.length : Int) + 1, (21 : Int)) = some (p, ln, e2) := by have h := HY.out; rw [← HXE.out] at h; exact h
          obtain ⟨rfl, rfl, rfl⟩ := by simpa using hy
          have := post0 (ln := (L.length : Int) + 1) (e2 := 21) (below5 (a := .string ⟨#[]⟩) (b := .slice none 0 0) (c := .int .i64 0) (d := .int .i64 0) (e := .slice none 0 0) BW.out (Nat.le_refl w.heap.size))
          have ew : wrap64 ((L.length : Int) + 1) = (L.length : Int) + 1 := by (have h1 := LLA.out); unfold wrap64; omega
          show ParPost w pr0 ((L.length : Int) + 1) 21 (.returned (.tuple #[.agg zeroC, .int .i64 (wrap64 ((L.length : Int) + 1)), .int .i64 21])) _
          rw [ew]
          exact this
        | true =>
          by_cases h9 : rest.toList = ([] : List UInt8)
          · have e0 : (rest.toList == ([] : List UInt8)) = true := beq_iff_eq.2 h9
            have e1 : (rest.toList != ([] : List UInt8)) = false := bne_eq_false_iff_eq.2 h9
            have hy : ((dataflowref39_Check.f K pp.1 pp.2.1 pp.2.2.1 pp.2.2.2.1 pp.2.2.2.2).bind fun e => if e = 0 then some (pp, (0 : Int), (0 : Int)) else some (pr0, 0, e)) = some (p, ln, e2) := by
              have h := HY.out; rw [← HXE.out] at h; simpa [h9] using h
            obtain ⟨ck, hck, hy⟩ := Option.bind_eq_some_iff.mp hy
            obtain ⟨hbase, As, cs, Am, cm, g1, g2, g3⟩ := HP.out
            have CK := Aside0.mk (dataflowref39_Check.calls K pp.1 As cs pp.2.1 pp.2.2.1 pp.2.2.2.1 Am cm pp.2.2.2.2 ck wr (Kd.Q_reads' g2).2.2 (Kd.Q_reads' g2).2.1 (Kd.R_reads' g3).2.2 (Kd.R_reads' g3).2.1 hck)
            have HG1 := Aside0.mk g1
            have HG2 := Aside0.mk g2
            have HG3 := Aside0.mk g3
            obtain ⟨ha0, ha1, ha2, ha3, ha4, hb0, hb1, hb2, hb3, hb4⟩ := cz5_ g1
            clear g1 g2 g3 hbase hck h9
            by_cases hc0 : ck = 0
            · subst hc0
              have hy : some (pp, (0 : Int), (0 : Int)) = some (p, ln, e2) := hy
              have HYE := Aside0.mk hy
              clear hy
              go_wp2_with (first | (go_at_call 34; (with_reducible refine CK.out.mono ?_); rintro e w6 ⟨rfl, HB6⟩; have HB6 := Aside0.mk HB6; have HG6 := Aside0.mk (blk_below HG1.out HB6.out); have RB6 := Aside0.mk (blk_below RB.out HB6.out); obtain ⟨ha0, ha1, ha2, ha3, ha4, hb0, hb1, hb2, hb3, hb4⟩ := cz5_ HG6.out; obtain ⟨hz0, hz1, hz2, hz3, hz4, hy0, hy1, hy2, hy3, hy4⟩ := cz5_ RB6.out))
              refine bodyPost_ret (results_ctt rfl _ _ w.heap.size 35 #[.string pp.1, .slice As pp.2.1.length cs, .int .i64 pp.2.2.1, .int .i64 pp.2.2.2.1, .slice Am pp.2.2.2.2.length cm] (0, 0) _ rfl (put5v _ _ _ _ _ RB6.out) hu35 rfl (by kernel_rfl)) rfl ?_
              obtain ⟨rfl, rfl, rfl⟩ := by simpa using HYE.out
              have Q6 := Kd.Q_below HG2.out HB6.out
              have R6 := Kd.R_below HG3.out HB6.out
              have hnb : ∀ k, ¬ bdR w.heap.size w2.heap.size A k → k ≠ w.heap.size := fun k hk e => hk (.inl e)
              refine ⟨_, _, rfl, Kd.Q_mono (ok' := fun _ => True) (Kd.Q_far (p := ⟨w.heap.size, 4, none⟩) (Kd.Q_far (p := ⟨w.heap.size, 3, none⟩) (Kd.Q_far (p := ⟨w.heap.size, 2, none⟩) (Kd.Q_far (p := ⟨w.heap.size, 1, none⟩) (Kd.Q_far (p := ⟨w.heap.size, 0, none⟩) Q6 hnb _) hnb _) hnb _) hnb _) hnb _) (fun _ _ => trivial), ?_, below5 (below_step BW.out HB6.out) (Nat.le_refl w.heap.size)⟩
              exact Kd.R_mono (Kd.R_far (p := ⟨w.heap.size, 4, none⟩) (Kd.R_far (p := ⟨w.heap.size, 3, none⟩) (Kd.R_far (p := ⟨w.heap.size, 2, none⟩) (Kd.R_far (p := ⟨w.heap.size, 1, none⟩) (Kd.R_far (p := ⟨w.heap.size, 0, none⟩) R6 hnb _) hnb _) hnb _) hnb _) hnb _) (fun _ _ => trivial)
            · have q9 : (ck == 0) = false := beq_eq_false_iff_ne.2 hc0
              have q8 : (ck != 0) = true := bne_iff_ne.2 hc0
              have hy : some (pr0, (0 : Int), ck) = some (p, ln, e2) := by rw [if_neg hc0] at hy; exact hy
              have HYE := Aside0.mk hy
              clear hy
              go_wp2_with (first | (go_at_call 34; (with_reducible refine CK.out.mono ?_); rintro e w6 ⟨rfl, HB6⟩; have HB6 := Aside0.mk HB6; have RB6 := Aside0.mk (blk_below RB.out HB6.out); obtain ⟨hz0, hz1, hz2, hz3, hz4, hy0, hy1, hy2, hy3, hy4⟩ := cz5_ RB6.out))
              refine bodyPost_ret (results_ctt rfl _ _ w.heap.size 35 zeroC (0, 0) _ rfl (put5 RB6.out) hu35 rfl (by kernel_rfl)) rfl ?_
              obtain ⟨rfl, rfl, rfl⟩ := by simpa using HYE.out
              exact post0 (ln := (0 : Int)) (e2 := ck) (below5 (a := .string ⟨#[]⟩) (b := .slice none 0 0) (c := .int .i64 0) (d := .int .i64 0) (e := .slice none 0 0) (below_step BW.out HB6.out) (Nat.le_refl w.heap.size))
          · have e0 : (rest.toList == ([] : List UInt8)) = false := beq_eq_false_iff_ne.2 h9
            have e1 : (rest.toList != ([] : List UInt8)) = true := bne_iff_ne.2 h9
            have H9 := Aside0.mk h9
            go_wp2
            refine bodyPost_ret (results_ctt rfl _ _ w.heap.size 35 zeroC (0, 0) _ rfl (put5 RB.out) hu35 rfl (by kernel_rfl)) rfl ?_
            have hy : some (pr0, (L.length : Int) + 1, (2 : Int)) = some (p, ln, e2) := by have h := HY.out; rw [← HXE.out] at h; have h9 := H9.out; simpa [h9] using h
            obtain ⟨rfl, rfl, rfl⟩ := by simpa using hy
            have := post0 (ln := (L.length : Int) + 1) (e2 := 2) (below5 (a := .string ⟨#[]⟩) (b := .slice none 0 0) (c := .int .i64 0) (d := .int .i64 0) (e := .slice none 0 0) BW.out (Nat.le_refl w.heap.size))
            have ew : wrap64 ((L.length : Int) + 1) = (L.length : Int) + 1 := by (have h1 := LLA.out); unfold wrap64; omega
            show ParPost w pr0 ((L.length : Int) + 1) 2 (.returned (.tuple #[.agg zeroC, .int .i64 (wrap64 ((L.length : Int) + 1)), .int .i64 2])) _
            rw [ew]
            exact this
end Go.Proofs.YthfhbdncphkdaaaDoor.H

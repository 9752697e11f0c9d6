/- Printed by a program of this session (xprint.py, over the kit's printer): Go functions as Lean functions, each with the proof that the call does what the Lean function says. -/
import Derived.Test.YthfhbdncphkdaaaDoorG0
import Derived.Test.YthfhbdncphkdaaaDoorGa
import Derived.Test.YthfhbdncphkdaaaDoorGf41
import Derived.Test.YthfhbdncphkdaaaDoorGf42
import Derived.Test.YthfhbdncphkdaaaDoorToks
import Derived.Lib.OthersKept
namespace Go.Proofs.YthfhbdncphkdaaaDoor.G
open Go.RowKit Go.Proofs.YthfhbdncphkdaaaDoorW.PrintWords Go.Proofs.YthfhbdncphkdaaaDoorW.PrintLast Go.Proofs.YthfhbdncphkdaaaDoorW.PrintMore
attribute [local go_sem] max2_int min2_int max_two min_two max_three min_three max_four min_four   -- for this text's walks alone
attribute [local go_sem] xs_gtr xs_leq xs_geq
set_option linter.unusedVariables false
set_option linter.unusedSimpArgs false

/-! ### lex_Tokens: function 13 -/
--EXT lex_Tokens
def lex_Tokens.f (a0 : ByteArray) : Option ((List (S30)) × Int × Int) := if (a0.size : Int) > 65536 then some (([] : List (S30)), 0, 3) else some (toks a0 0 0 [])
theorem cm_stands (s : ByteArray) (i : Nat) (hi : i < s.size) : standsAt s i ⟨#[47, 47]⟩ = isCm s i := by
  unfold standsAt isCm
  rw [show (⟨#[47, 47]⟩ : ByteArray).size = 2 from rfl]
  by_cases h : i + 2 ≤ s.size
  · have h1 : decide (i + 2 ≤ s.size) = true := by simpa using h
    have h2 : decide (i + 1 < s.size) = true := by simp; omega
    rw [h1, h2, Bool.true_and, Bool.true_and, bt_nat s i (by omega), bt_nat s (i + 1) (by omega), Lib.toList_data, Lib.toList_data, Lib.extract_data]
    have e : (s.data.toList.drop i).take (i + 2 - i) = [s[i]'(by omega), s[i + 1]'(by omega)] := by
      rw [show i + 2 - i = 2 by omega]
      have hl : i + 1 < s.data.toList.length := by rw [Array.length_toList]; exact (by omega : i + 1 < s.size)
      rw [List.drop_eq_getElem_cons (by omega), List.drop_eq_getElem_cons hl]
      simp [ByteArray.getElem_eq_getElem_data]
    rw [e]
    rw [Bool.eq_iff_iff]
    simp only [beq_iff_eq, Bool.and_eq_true, List.cons.injEq, and_true]
    constructor
    · rintro ⟨h3, h4⟩; rw [h3, h4]; decide
    · rintro ⟨h3, h4⟩
      exact ⟨UInt8.toNat_inj.1 (by show (s[i]'(by omega)).toNat = 47; omega), UInt8.toNat_inj.1 (by show (s[i + 1]'(by omega)).toNat = 47; omega)⟩
  · have h1 : decide (i + 2 ≤ s.size) = false := by simpa using h
    have h2 : decide (i + 1 < s.size) = false := by simp; omega
    rw [h1, h2]; simp
theorem R_iter {w : World} {base g : Nat} {v : Value} {xs : List S30} {s : ByteArray} {p : Nat} (h : Kd.R k30 30 w base (fun k => k ≠ g) v xs) : Kd.R k30 30 (w.iterAt g s p) base (fun k => k ≠ g) v xs :=
  Kd.R_step h (fun k ho _ => Lib.iterAt_other w g k s p ho)
/-- What the loop over the text keeps. -/
structure Lex (a0 : ByteArray) (w : World) (res : TokRes) (pos next : Nat) (acc : List S30) (v : Value) (wr : World) : Prop where
  le : pos ≤ a0.size
  nx : NextOk a0 pos next
  ln : acc.length ≤ pos
  eq : toks a0 pos next acc = res
  it : wr.heap[w.heap.size]? = some (.stringIter a0 pos)
  ro : Kd.R k30 30 wr w.heap.size (fun k => k ≠ w.heap.size) v acc
  be : Below w.heap.size w wr
theorem Lex.skip {a0 : ByteArray} {w wr : World} {res : TokRes} {pos next : Nat} {acc : List S30} {v : Value} (h : Lex a0 w res pos next acc v wr) (hp : pos < a0.size) (hs : pos < next ∨ isSp (bt a0 pos) = true) :
    Lex a0 w res (pos + (Utf8.decode a0 pos).2) next acc v (wr.iterAt w.heap.size a0 (pos + (Utf8.decode a0 pos).2)) := by
  obtain ⟨d1, d2, d3⟩ := decode_rest a0 pos hp
  refine ⟨d2, h.nx.step _, by have := h.ln; omega, ?_, Lib.iterAt_heap _ _ _ _ _ h.it, R_iter h.ro, Lib.below_iterAt h.be (Nat.le_refl _) _ _⟩
  rw [← h.eq]
  rcases hs with hs | hs
  · exact (toks_over a0 next acc _ pos d2 (fun _ => h.nx.rune hp hs)).symm
  · rw [(decode_low a0 pos hp (isSp_low hs)).2]
    exact (toks_skip a0 pos next acc hp (by simp [hs])).symm
theorem Lex.cm {a0 : ByteArray} {w wr : World} {res : TokRes} {pos next : Nat} {acc : List S30} {v : Value} (h : Lex a0 w res pos next acc v wr) (hp : pos < a0.size) (hs : (decide (pos < next) || isSp (bt a0 pos)) = false) (hc : isCm a0 pos = true) :
    Lex a0 w res (pos + (Utf8.decode a0 pos).2) (nlAt a0 pos) acc v (wr.iterAt w.heap.size a0 (pos + (Utf8.decode a0 pos).2)) := by
  have hb : bt a0 pos < 128 := by unfold isCm at hc; simp at hc; omega
  obtain ⟨d1, d2, d3⟩ := decode_rest a0 pos hp
  refine ⟨d2, nlAt_ok a0 pos _ (by omega), by have := h.ln; omega, ?_, Lib.iterAt_heap _ _ _ _ _ h.it, R_iter h.ro, Lib.below_iterAt h.be (Nat.le_refl _) _ _⟩
  rw [← h.eq, (decode_low a0 pos hp hb).2]
  exact (toks_cm a0 pos next acc hp hs hc).symm
set_option maxHeartbeats 8000000 in
set_option maxRecDepth 100000 in
theorem lex_Tokens.calls (a0 : ByteArray) (r1 : List (S30)) (r2 : Int) (r3 : Int) (w : World) (hgh : Gh w) (h : lex_Tokens.f a0 = some (r1, r2, r3)) :
    Calls Tryd.prog 13 #[.string a0] w fun e w' => ∃ v0_ : Value, e = .returned (.tuple #[v0_, .int .i64 r2, .int .i64 r3]) ∧ Kd.R k30 30 w' w.heap.size (fun _ => True) v0_ r1 ∧ Below w.heap.size w w' := by
  have hu30 := Tryd.underlying30
  unfold lex_Tokens.f at h
  by_cases hsz : (a0.size : Int) > 65536
  · rw [if_pos hsz] at h
    simp only [Option.some.injEq, Prod.mk.injEq] at h
    obtain ⟨rfl, rfl, rfl⟩ := h
    have hb : decide ((65536 : Int) < (a0.size : Int)) = true := decide_eq_true hsz
    clear hsz
    go_enter Tryd.func13, Tryd.ntmps13
    go_wp2
    go_ret3
    exact ⟨_, rfl, Kd.R_nil _ _ _ _ _, Below.refl _ _⟩
  · rw [if_neg hsz] at h
    have hres := Option.some.inj h
    have hle : a0.size ≤ 65536 := by omega
    have HS := Aside0.mk hle
    have hb : decide ((65536 : Int) < (a0.size : Int)) = false := decide_eq_false hsz
    have HR := Aside0.mk hres
    have HG := Aside0.mk hgh
    clear hsz h hres hgh hle
    go_enter Tryd.func13, Tryd.ntmps13
    go_wp2
    go_loopw [5, 6] (fun v nx wr => ∃ (pos next : Nat) (acc : List S30), nx = .int .i64 next ∧ Aside0 (Lex a0 w (r1, r2, r3) pos next acc v wr)) (fun _ _ wr => a0.size - wr.iterPos w.heap.size)
    case atStart => exact ⟨0, 0, [], rfl, ⟨⟨Nat.zero_le _, ⟨Nat.zero_le _, .inl (fun j h1 h2 => by omega)⟩, Nat.le_refl _, HR.out, World.iter_heap _ _ _, Kd.R_nil _ _ _ _ _, below_alloc (Below.refl _ _) _⟩⟩⟩
    case round =>
      obtain ⟨pos, next, acc, rfl, HX⟩ := hrel
      have HIP := Aside0.mk (show wr.iterPos w.heap.size = pos by simp [World.iterPos, HX.out.it])

      clear hb
      by_cases hlt : pos < a0.size
      · have HL := Aside0.mk hlt
        have hnx : ∀ ty : TypeId, (Instr.next (.pointer (some ⟨w.heap.size, 0, none⟩)) true ty).run Tryd.prog wr = .ok (.tuple #[.bool true, .int .i64 pos, .int .i32 (Utf8.decode a0 pos).1]) (wr.iterAt w.heap.size a0 (pos + (Utf8.decode a0 pos).2)) := fun ty => Lib.run_next_any_at wr w.heap.size a0 pos ty HX.out.it hlt
        have hpb : pos ≤ 65536 := by have := HS.out; omega
        have hnb : next ≤ 65536 := by have := HS.out; have := HX.out.nx.1; omega
        have HD := Aside0.mk (decode_rest a0 pos hlt)
        clear hlt
        by_cases hskip : pos < next
        · have HY := Aside0.mk (HX.out.skip HL.out (.inl hskip))
          obtain ⟨W1, hW1⟩ : ∃ W1, wr.iterAt w.heap.size a0 (pos + (Utf8.decode a0 pos).2) = W1 := ⟨_, rfl⟩
          rw [hW1] at hnx HY
          clear hW1
          obtain ⟨r, hr⟩ : ∃ r : Int, ((Utf8.decode a0 pos).1 : Int) = r := ⟨_, rfl⟩
          rw [hr] at hnx
          clear hr
          have ht : decide ((pos : Int) < (next : Int)) = true := by simp; exact hskip
          have ht2 : decide (pos < next) = true := by simp; exact hskip
          clear hskip
          go_wp2
          go_roundw
          case rel => exact ⟨_, next, acc, rfl, HY⟩
          case measure => rw [HIP.out]; have := HY.out.it; have := HL.out; have := HD.out.1; simp only [World.iterPos, HY.out.it]; omega
        · have ht : decide ((pos : Int) < (next : Int)) = false := by simp; omega
          have ht2 : decide (pos < next) = false := by simp; omega
          by_cases hsp : isSp (bt a0 pos) = true
          · have HY := Aside0.mk (HX.out.skip HL.out (.inr hsp))
            obtain ⟨W1, hW1⟩ : ∃ W1, wr.iterAt w.heap.size a0 (pos + (Utf8.decode a0 pos).2) = W1 := ⟨_, rfl⟩
            rw [hW1, (decode_low a0 pos HL.out (isSp_low hsp)).1] at hnx
            rw [hW1] at HY
            clear hW1 hskip
            have hor : bt a0 pos = 32 ∨ bt a0 pos = 9 ∨ bt a0 pos = 13 ∨ bt a0 pos = 10 := by unfold isSp at hsp; simp at hsp; omega
            clear hsp
            rcases hor with e | e | e | e
            all_goals
              rw [e] at hnx
              clear e
              go_wp2
              go_roundw
              case rel => exact ⟨_, next, acc, rfl, HY⟩
              case measure => rw [HIP.out]; have := HY.out.it; have := HL.out; have := HD.out.1; simp only [World.iterPos, HY.out.it]; omega
          · have hsp := Bool.eq_false_iff.2 hsp
            have hc : (decide (pos < next) || isSp (bt a0 pos)) = false := by rw [ht2, hsp]; rfl
            have HC := Aside0.mk hc
            obtain ⟨r, hr⟩ : ∃ r : Int, ((Utf8.decode a0 pos).1 : Int) = r := ⟨_, rfl⟩
            rw [hr] at hnx
            have hne : r ≠ 32 ∧ r ≠ 9 ∧ r ≠ 13 ∧ r ≠ 10 := by
              by_cases hb : bt a0 pos < 128
              · have h1 := (decode_low a0 pos HL.out hb).1
                unfold isSp at hsp; simp at hsp; omega
              · have h1 := decode_top a0 pos HL.out (by omega)
                omega
            have q1 : (r == 32) = false := beq_eq_false_iff_ne.2 hne.1
            have q2 : (r == 9) = false := beq_eq_false_iff_ne.2 hne.2.1
            have q3 : (r == 13) = false := beq_eq_false_iff_ne.2 hne.2.2.1
            have q4 : (r == 10) = false := beq_eq_false_iff_ne.2 hne.2.2.2
            clear hr hne hsp hskip hc
            have hp0 := HL.out
            have hpre := pre_stands a0 pos ⟨#[47, 47]⟩ (by omega) (by omega) (by decide)
            rw [Int.toNat_natCast, cm_stands a0 pos hp0] at hpre
            have hpl := eq_true (show (pos : Int) ≤ (a0.size : Int) by omega)
            have hpl2 := eq_true (show pos ≤ a0.size by omega)
            clear hp0
            have HR0 := Aside0.mk (show Kd.R k30 30 (wr.iterAt w.heap.size a0 (pos + (Utf8.decode a0 pos).2)) w.heap.size (fun k => k ≠ w.heap.size) u5 acc from R_iter HX.out.ro)
            have HB0 := Aside0.mk (Lib.below_iterAt HX.out.be (Nat.le_refl _) a0 (pos + (Utf8.decode a0 pos).2))
            have HI0 := Aside0.mk (Lib.iterAt_heap wr w.heap.size a0 pos (pos + (Utf8.decode a0 pos).2) HX.out.it)
            by_cases hm : isCm a0 pos = true
            · have HY := Aside0.mk (HX.out.cm HL.out HC.out hm)
              obtain ⟨W1, hW1⟩ : ∃ W1, wr.iterAt w.heap.size a0 (pos + (Utf8.decode a0 pos).2) = W1 := ⟨_, rfl⟩
              rw [hW1] at hnx HY
              rw [hm] at hpre
              have A1 := Aside0.mk hpre
              clear hW1 hm hpre HR0 HB0 HI0
              rcases index_nl a0 pos (by have := HL.out; omega) with ⟨hx, hy⟩ | ⟨n, hx, hy, hz⟩
              · have A2 := Aside0.mk (show strings_IndexByte.f (a0.extract pos a0.size) 10 = some (-1) by unfold strings_IndexByte.f; exact congrArg some hx)
                rw [hy] at HY
                clear hx hy
                go_wp2_with (first | (go_at_call 40; (with_reducible refine (strings_HasPrefix.calls _ _ true _ A1.out).mono ?_); rintro e w' ⟨rfl, ⟨nd, rfl⟩⟩) | (go_at_call 41; (with_reducible refine (strings_IndexByte.calls _ _ (-1) _ A2.out).mono ?_); rintro e w' ⟨rfl, ⟨nd, rfl⟩⟩))
                go_roundw
                case rel => exact ⟨_, a0.size, acc, rfl, ⟨{ HY.out with it := HY.out.it, ro := Kd.R_drewN HY.out.ro _, be := pw_below_drewN HY.out.be _ }⟩⟩
                case measure => rw [HIP.out]; have := HL.out; have := HD.out.1; have h9 := HY.out.it; simp only [World.iterPos, World.drewN, h9]; omega
              · have A2 := Aside0.mk (show strings_IndexByte.f (a0.extract pos a0.size) 10 = some (n : Int) by unfold strings_IndexByte.f; exact congrArg some hx)
                rw [hy] at HY
                have hn0 : n ≤ 65536 := by have := HS.out; omega
                clear hx hy hz
                go_wp2_with (first | (go_at_call 40; (with_reducible refine (strings_HasPrefix.calls _ _ true _ A1.out).mono ?_); rintro e w' ⟨rfl, ⟨nd, rfl⟩⟩) | (go_at_call 41; (with_reducible refine (strings_IndexByte.calls _ _ (n : Int) _ A2.out).mono ?_); rintro e w' ⟨rfl, ⟨nd, rfl⟩⟩))
                go_roundw
                case rel => exact ⟨_, pos + n, acc, by go_num, ⟨{ HY.out with it := HY.out.it, ro := Kd.R_drewN HY.out.ro _, be := pw_below_drewN HY.out.be _ }⟩⟩
                case measure => rw [HIP.out]; have := HL.out; have := HD.out.1; have h9 := HY.out.it; simp only [World.iterPos, World.drewN, h9]; omega
            · have hm := Bool.eq_false_iff.2 hm
              have HM := Aside0.mk hm
              rw [hm] at hpre
              have A1 := Aside0.mk hpre
              clear hm hpre
              obtain ⟨W1, hW1⟩ : ∃ W1, wr.iterAt w.heap.size a0 (pos + (Utf8.decode a0 pos).2) = W1 := ⟨_, rfl⟩
              rw [hW1] at hnx HR0 HB0 HI0
              clear hW1
              obtain ⟨⟨t1, t2, t3, t4, t5⟩, hT⟩ : ∃ T, tokS a0 pos = T := ⟨_, rfl⟩
              have A3 := Aside0.mk (show lex_token.f a0 (pos : Int) = some (t1, t2, t3, t4, t5) by
                unfold lex_token.f
                have h1 := HS.out
                have h2 := HL.out
                rw [if_pos ⟨by omega, by omega, by omega⟩, Int.toNat_natCast, hT])
              have HT := Aside0.mk hT
              clear hT
              by_cases h5 : t5 = 0
              · subst h5
                have htell := tok_tells a0 pos HL.out (by rw [HT.out])
                rw [HT.out] at htell
                have hlen3 : t3.size ≤ 65536 := by have h9 : pos + t3.size ≤ a0.size := htell.2.1; have := HS.out; omega
                have HTL := Aside0.mk htell
                clear htell
                go_wp2_with (first | (go_at_call 40; (with_reducible refine (strings_HasPrefix.calls _ _ false _ A1.out).mono ?_); rintro e w' ⟨rfl, ⟨nd, rfl⟩⟩) | (go_at_call 42; (with_reducible refine (lex_token.calls _ _ t1 t2 t3 t4 0 _ ?side1 A3.out).mono ?_); (case side1 => exact Gh.drewN (Gh.below HG.out HB0.out) _); rintro e w2 ⟨rfl, hb⟩; have HB2 := Aside0.mk (below_step (pw_below_drewN HB0.out _) hb); have HR2 := Aside0.mk (Kd.R_below (Kd.R_drewN HR0.out _) hb); have HI2 := Aside0.mk (blk_below (blk_drewN HI0.out _) hb); clear hb) | ((with_reducible refine gate_builtin (b := .append) (xs := #[.tmp 67, .tmp 69]) rfl ?_); at_builtin; refine Kd.R_append k30 (w0 := w) w.heap.size rfl (.tmp 67) (.tmp 69) 22 30 (.agg #[(.int .i64 0), (.int .i64 0), (.string ⟨#[]⟩), (.int .i64 0)]) 40 rfl Tryd.underlying22 info30 rfl (by decide) (by omega) u5 acc (⟨t1, t2, t3, t4⟩ : S30) [.int .i64 t1, .int .i64 t2, .string t3, .int .i64 t4] (fun k_ => k_ ≠ w.heap.size) (fun _ => False) rfl (by first | (go_simp; done) | (go_simp; rfl)) ?aP (fun _ hk => hk.elim) ?aF ?aO ?aB ?aS ?aL ?_; (case aP => exact k30_mkM _ _ _ (⟨t1, t2, t3, t4⟩ : S30)); (case aB => exact below_alloc HB2.out _); (case aF => exact fun k_ hk => by have h9 := (Array.getElem?_eq_some_iff.1 (blk_alloc HI2.out (.cells #[.int .i64 t1, .int .i64 t2, .string t3, .int .i64 t4] 30 (0, 0)))).1; exact Nat.ne_of_gt (Nat.lt_of_lt_of_le h9 hk)); (case aO => exact Kd.R_alloc HR2.out _); (case aS => exact (below_alloc HB2.out _).size); (case aL => have h1 := HX.out.ln; have h2 := HS.out; have h3 := HX.out.le; omega); intro v1 w3 ho hb3 hg hat; have HO3 := Aside0.mk ho; have HB3 := Aside0.mk hb3; have hrow := Kd.R_lt HR2.out; have hit3 : w3.heap[w.heap.size]? = some (.stringIter a0 (pos + (Utf8.decode a0 pos).2)) := blk_grown (blk_alloc HI2.out _) hg (Kd.R_away HR2.out (fun k hk => hk)); have HI3 := Aside0.mk hit3; have hcell : w3.cell? ⟨w2.heap.size, 2, none⟩ = some (.string t3) := (blk_cell (cs := #[.int .i64 t1, .int .i64 t2, .string t3, .int .i64 t4]) (blk_grown (blk_new w2 (.cells #[.int .i64 t1, .int .i64 t2, .string t3, .int .i64 t4] 30 (0, 0))) hg (fun e => Nat.lt_irrefl _ (hrow _ e.symm))) 2).trans rfl; clear ho hb3 hg hat hrow hit3))
                go_roundw
                case rel =>
                  obtain ⟨g1, g2, g3, g4, g5, g6⟩ := HTL.out
                  have hlow := decode_low a0 pos HL.out (g3 pos (Nat.le_refl _) (by omega))
                  have hE := toks_tok a0 pos next acc HL.out HC.out HM.out (by rw [HT.out])
                  rw [HX.out.eq, HT.out] at hE
                  refine ⟨pos + (Utf8.decode a0 pos).2, pos + t3.size, acc ++ [⟨t1, t2, t3, t4⟩], by go_num, ⟨⟨HD.out.2.1, ⟨g2, .inl (fun j p q => g3 j (by omega) q)⟩, ?_, ?_, HI3.out, HO3.out, HB3.out⟩⟩⟩
                  · have := HX.out.ln; rw [hlow.2, List.length_append]; simp; omega
                  · rw [hlow.2]; exact hE.symm
                case measure => rw [HIP.out]; have := HL.out; have := HD.out.1; have h9 := HI3.out; simp only [World.iterPos, h9]; omega
              · have hq : (t5 == 0) = false := beq_eq_false_iff_ne.2 h5
                have hq2 : (t5 != 0) = true := bne_iff_ne.2 h5
                have hE := toks_err a0 pos next acc HL.out HC.out HM.out (by rw [HT.out]; exact h5)
                rw [HX.out.eq, HT.out] at hE
                simp only [Prod.mk.injEq] at hE
                obtain ⟨rfl, rfl, rfl⟩ := hE
                clear h5
                go_wp2_with (first | (go_at_call 40; (with_reducible refine (strings_HasPrefix.calls _ _ false _ A1.out).mono ?_); rintro e w' ⟨rfl, ⟨nd, rfl⟩⟩) | (go_at_call 42; (with_reducible refine (lex_token.calls _ _ t1 t2 t3 t4 r3 _ ?side1 A3.out).mono ?_); (case side1 => exact Gh.drewN (Gh.below HG.out HB0.out) _); rintro e w2 ⟨rfl, hb⟩; have HB2 := Aside0.mk (below_step (pw_below_drewN HB0.out _) hb); clear hb))
                go_ret3
                exact ⟨_, rfl, Kd.R_nil _ _ _ _ _, below_alloc HB2.out _⟩
      · obtain rfl : pos = a0.size := by have := HX.out.le; omega
        have hnx : ∀ ty : TypeId, (Instr.next (.pointer (some ⟨w.heap.size, 0, none⟩)) true ty).run Tryd.prog wr = .ok (.tuple #[.bool false]) wr := fun ty => Lib.run_next_end_at wr w.heap.size a0 a0.size ty HX.out.it (by omega)
        have hE := toks_end a0 a0.size next acc (by omega)
        rw [HX.out.eq] at hE
        simp only [Prod.mk.injEq] at hE
        obtain ⟨rfl, rfl, rfl⟩ := hE
        clear hlt
        go_wp2_with (first | ((with_reducible refine gate_builtin (b := .append) (xs := #[.tmp 76, .tmp 80]) rfl ?_); at_builtin; refine Kd.R_append k30 (w0 := w) w.heap.size rfl (.tmp 76) (.tmp 80) 22 30 (.agg #[(.int .i64 0), (.int .i64 0), (.string ⟨#[]⟩), (.int .i64 0)]) 40 rfl Tryd.underlying22 info30 rfl (by decide) (by omega) u5 acc (⟨5, (a0.size : Int), (⟨#[]⟩ : ByteArray), 0⟩ : S30) [.int .i64 5, .int .i64 (a0.size : Int), .string (⟨#[]⟩ : ByteArray), .int .i64 0] (fun k_ => k_ ≠ w.heap.size) (fun _ => False) rfl rfl ?aP (fun _ hk => hk.elim) ?aF ?aO ?aB ?aS ?aL ?_; (case aP => exact k30_mkM _ _ _ (⟨5, (a0.size : Int), (⟨#[]⟩ : ByteArray), 0⟩ : S30)); (case aB => exact HX.out.be); (case aF => exact fun k_ hk => by have h9 := (Array.getElem?_eq_some_iff.1 HX.out.it).1; omega); (case aO => exact HX.out.ro); (case aS => exact HX.out.be.size); (case aL => have h1 := HX.out.ln; have h2 := HS.out; omega); intro v1 w3 ho hb3 hg hat; have HO3 := Aside0.mk ho; have HB3 := Aside0.mk hb3; clear ho hb3 hg hat))
        go_ret3
        exact ⟨_, rfl, Kd.R_mono HO3.out (fun _ _ => trivial), HB3.out⟩


end Go.Proofs.YthfhbdncphkdaaaDoor.G

/- Line and column are as the chapter says, and advance with every byte: the pure statement of LexPlaces. -/
import Derived.Test.YthfhbdncphkdaaaDoorWalkLexPlaces
import Derived.Test.YthfhbdncphkdaaaDoorLexTok
set_option linter.unusedSimpArgs false
set_option linter.unusedVariables false
namespace Go.Proofs.YthfhbdncphkdaaaDoor.Pure
open Go.RowKit Go.Proofs.YthfhbdncphkdaaaDoorW.PrintWords Go.Proofs.YthfhbdncphkdaaaDoor.G

/-- Line and column of a place. -/
def pos (s : ByteArray) : Nat → Nat × Nat
  | 0 => (1, 1)
  | n + 1 => if bt s n = 10 then ((pos s n).1 + 1, 1) else ((pos s n).1, (pos s n).2 + 1)
theorem pos_le (s : ByteArray) : ∀ n, 1 ≤ (pos s n).1 ∧ (pos s n).1 ≤ n + 1 ∧ 1 ≤ (pos s n).2 ∧ (pos s n).2 ≤ n + 1 := by
  intro n
  induction n with
  | zero => simp [pos]
  | succ n ih => unfold pos; split <;> simp <;> omega
def posR (s : ByteArray) (a : Int) : Int × Int × Int :=
  if s.size > 65536 then (0, 0, 3) else if a < 0 ∨ a > s.size then (0, 0, 4) else ((pos s a.toNat).1, (pos s a.toNat).2, 0)
theorem rpos_l (s : ByteArray) (hs : s.size ≤ 65536) (n : Nat) (hn : n ≤ s.size) : ∀ (d i : Nat), n - i = d → i ≤ n → Ev (fun k => dataflowref07_Position.l0 k s n (pos s i).1 (pos s i).2 i) (((pos s n).1 : Int), ((pos s n).2 : Int), (0 : Int)) := by
  intro d
  induction d with
  | zero =>
    intro i h hi
    obtain rfl : i = n := by omega
    refine Ev.step (f := fun _ => some (((pos s i).1 : Int), ((pos s i).2 : Int), (0 : Int))) (fun k => ?_) (Ev.now _)
    simp only [dataflowref07_Position.l0]; rw [if_neg (by omega)]
  | succ d ih =>
    intro i h hi
    have hp := pos_le s i
    refine Ev.step (f := fun k => dataflowref07_Position.l0 k s n (pos s (i + 1)).1 (pos s (i + 1)).2 ((i + 1 : Nat) : Int)) (fun k => ?_) (ih (i + 1) (by omega) (by omega))
    simp only [dataflowref07_Position.l0]
    rw [if_pos (by omega), if_pos (by omega), if_pos (by omega), w64 (i := (i : Int) + 1) (by omega) (by omega)]
    by_cases c : bt s i = 10
    · rw [if_pos c, w64 (by omega) (by omega), pos, if_pos c]; rfl
    · rw [if_neg c, w64 (by omega) (by omega), pos, if_neg c]; rfl
theorem rpos_ev (s : ByteArray) (a : Int) : Ev (fun k => dataflowref07_Position.f k s a) (posR s a) := by
  unfold posR
  have hj : ∀ b : Bool, ∀ r, (if b then r = ((0 : Int), (0 : Int), (4 : Int)) else Ev (fun k => dataflowref07_Position.l0 k s a 1 1 0) r) → Ev (fun k => dataflowref07_Position.j0 k s a b) r := by
    intro b r h
    cases b with
    | true => simp at h; subst h; exact Ev.step (f := fun _ => some (0, 0, 4)) (fun k => by simp [dataflowref07_Position.j0]) (Ev.now _)
    | false => simp at h; exact Ev.step (f := fun k => dataflowref07_Position.l0 k s a 1 1 0) (fun k => by simp [dataflowref07_Position.j0]) h
  by_cases h : s.size > 65536
  · rw [if_pos h]
    exact Ev.congr (f := fun _ => some (0, 0, 3)) (fun k => by unfold dataflowref07_Position.f; rw [if_pos (by omega)]) (Ev.now _)
  · rw [if_neg h]
    by_cases h0 : a < 0
    · rw [if_pos (.inl h0)]
      exact Ev.congr (f := fun k => dataflowref07_Position.j0 k s a true) (fun k => by unfold dataflowref07_Position.f; rw [if_neg (by omega), if_pos h0]) (hj true _ (by simp))
    · by_cases h1 : a > s.size
      · rw [if_pos (.inr h1)]
        exact Ev.congr (f := fun k => dataflowref07_Position.j0 k s a true) (fun k => by unfold dataflowref07_Position.f; rw [if_neg (by omega), if_neg h0, decide_eq_true h1]) (hj true _ (by simp))
      · rw [if_neg (by omega)]
        obtain ⟨n, rfl⟩ := Int.eq_ofNat_of_zero_le (show 0 ≤ a by omega)
        refine Ev.congr (f := fun k => dataflowref07_Position.j0 k s n false) (fun k => by unfold dataflowref07_Position.f; rw [if_neg (by omega), if_neg h0, decide_eq_false h1]) (hj false _ ?_)
        simp only [Bool.false_eq_true, if_false, Int.toNat_natCast]
        exact rpos_l s (by omega) n (by omega) _ 0 rfl (by omega)
/-- The last line feed before n, or -1. -/
def lastS (s : ByteArray) : Nat → Int
  | 0 => -1
  | n + 1 => if bt s n = 10 then n else lastS s n
theorem last_col (s : ByteArray) : ∀ n : Nat, (n : Int) - lastS s n = ((pos s n).2 : Int) := by
  intro n
  induction n with
  | zero => rfl
  | succ n ih => unfold lastS pos; split <;> simp <;> omega
theorem last_ge (s : ByteArray) : ∀ n : Nat, -1 ≤ lastS s n ∧ lastS s n < n := by
  intro n
  induction n with
  | zero => simp [lastS]
  | succ n ih => unfold lastS; split <;> omega
theorem count_line (s : ByteArray) : ∀ n : Nat, n ≤ s.size → 1 + (Lib.countByte (s.extract 0 n).data.toList 10 : Nat) = (pos s n).1 := by
  intro n
  induction n with
  | zero => intro _; simp [Lib.countByte, pos, ByteArray.data_extract]
  | succ n ih =>
    intro h
    have h1 := ih (by omega)
    have e : (s.extract 0 (n + 1)).data.toList = (s.extract 0 n).data.toList ++ [s[n]'(by omega)] := by
      rw [Lib.extract_data, Lib.extract_data]
      simp only [List.drop_zero, Nat.sub_zero]
      rw [List.take_succ_eq_append_getElem (by rw [Array.length_toList]; exact h)]
      simp [ByteArray.getElem_eq_getElem_data]
    have hc : ∀ l : List UInt8, Lib.countByte (l ++ [s[n]'(by omega)]) 10 = Lib.countByte l 10 + (if s[n]'(by omega) = 10 then 1 else 0) := by
      intro l
      unfold Lib.countByte
      rw [List.count_append, List.count_singleton]
      simp
    rw [e, hc]
    have hb := bt_nat s n (by omega)
    unfold pos
    by_cases c : bt s n = 10
    · have h2 : s[n]'(by omega) = 10 := UInt8.toNat_inj.1 (by show (s[n]'(by omega)).toNat = 10; omega)
      rw [if_pos c, if_pos h2]
      show _ = (pos s n).1 + 1
      omega
    · have h2 : ¬ s[n]'(by omega) = 10 := fun e => c (by rw [hb, e]; rfl)
      rw [if_neg c, if_neg h2]
      show _ = (pos s n).1
      omega
theorem llast_l (s : ByteArray) (hs : s.size ≤ 65536) (n : Nat) (hn : n ≤ s.size) : ∀ (i : Nat), i ≤ n → Ev (fun k => bytealg_LastIndexByteString.l0 k (s.extract 0 n) 10 ((i : Int) - 1)) (lastS s i) := by
  have hz : (s.extract 0 n).size = n := by rw [ByteArray.size_extract]; omega
  intro i
  induction i with
  | zero =>
    intro _
    refine Ev.step (f := fun _ => some (-1)) (fun k => ?_) (Ev.now _)
    simp only [bytealg_LastIndexByteString.l0]; rw [if_neg (by omega)]
  | succ i ih =>
    intro hi
    have hb := ext_bt s 0 n i (by omega) hn
    rw [Nat.zero_add] at hb
    have e0 : ((i + 1 : Nat) : Int) - 1 = i := by omega
    unfold lastS
    by_cases c : bt s i = 10
    · rw [if_pos c]
      refine Ev.step (f := fun _ => some (i : Int)) (fun k => ?_) (Ev.now _)
      simp only [bytealg_LastIndexByteString.l0]
      rw [e0, if_pos (by omega), if_pos (by omega), if_pos (by omega), hb, if_pos c]
    · rw [if_neg c]
      refine Ev.step (f := fun k => bytealg_LastIndexByteString.l0 k (s.extract 0 n) 10 ((i : Int) - 1)) (fun k => ?_) (ih (by omega))
      simp only [bytealg_LastIndexByteString.l0]
      rw [e0, if_pos (by omega), if_pos (by omega), if_pos (by omega), hb, if_neg c, w64 (by omega) (by omega)]
theorem lpos_ev (s : ByteArray) (a : Int) : Ev (fun k => lex_Position.f k s a) (posR s a) := by
  unfold posR
  by_cases h : s.size > 65536
  · rw [if_pos h]
    exact Ev.congr (f := fun _ => some (0, 0, 3)) (fun k => by unfold lex_Position.f; rw [if_pos (by omega)]) (Ev.now _)
  · rw [if_neg h]
    have hj : Ev (fun k => lex_Position.j0 k s a true) (0, 0, 4) := Ev.step (f := fun _ => some (0, 0, 4)) (fun k => by simp [lex_Position.j0]) (Ev.now _)
    by_cases h0 : a < 0
    · rw [if_pos (.inl h0)]
      exact Ev.congr (f := fun k => lex_Position.j0 k s a true) (fun k => by unfold lex_Position.f; rw [if_neg (by omega), if_pos h0]) hj
    · by_cases h1 : a > s.size
      · rw [if_pos (.inr h1)]
        exact Ev.congr (f := fun k => lex_Position.j0 k s a true) (fun k => by unfold lex_Position.f; rw [if_neg (by omega), if_neg h0, decide_eq_true h1]) hj
      · rw [if_neg (by omega)]
        obtain ⟨n, rfl⟩ := Int.eq_ofNat_of_zero_le (show 0 ≤ a by omega)
        have hn : n ≤ s.size := by omega
        have hcl := count_line s n hn
        have hlc := last_col s n
        have hlg := last_ge s n
        have hpl := pos_le s n
        have hz : (s.extract 0 n).size = n := by rw [ByteArray.size_extract]; omega
        have hlast : Ev (fun k => strings_LastIndexByte.f k (s.extract 0 n) 10) (lastS s n) := by
          refine Ev.congr (f := fun k => (bytealg_LastIndexByteString.l0 k (s.extract 0 n) 10 ((n : Int) - 1)).bind fun t => some t) (fun k => ?_) (Ev.bind (llast_l s (by omega) n hn n (Nat.le_refl _)) (Ev.now _))
          unfold strings_LastIndexByte.f bytealg_LastIndexByteString.f
          rw [hz, w64 (by omega) (by omega)]
        refine Ev.congr (f := fun k => lex_Position.j0 k s n false) (fun k => by unfold lex_Position.f; rw [if_neg (by omega), if_neg h0, decide_eq_false h1]) ?_
        refine Ev.step (f := fun k => (strings_LastIndexByte.f k (s.extract 0 n) 10).bind fun t => some (wrap64 (1 + ((Lib.countByte (s.extract 0 n).data.toList 10 : Nat) : Int)), wrap64 ((n : Int) - t), 0)) (fun k => ?_) (Ev.bind hlast ?_)
        · simp only [lex_Position.j0]
          rw [if_neg (by simp), if_pos (by omega), if_pos (by omega), Int.toNat_natCast]
          rfl
        · refine Ev.congr (f := fun _ => some (((pos s n).1 : Int), ((pos s n).2 : Int), (0 : Int))) (fun k => ?_) (by rw [Int.toNat_natCast]; exact Ev.now _)
          rw [w64 (i := 1 + _) (by omega) (by omega), w64 (by omega) (by omega)]
          rw [show (1 : Int) + ((Lib.countByte (s.extract 0 n).data.toList 10 : Nat) : Int) = ((pos s n).1 : Int) by omega, hlc]
theorem LexPlaces : dataflowlaw07_LexPlaces.Pure := by
  intro s a hs ha
  have haw : Ev (fun k => (dataflowlaw07_awake.f k).bind fun t => some t) true := Ev.bind awake07 (Ev.now _)
  refine Ev.rounds (Ev.congr (f := fun k => (lex_Position.f k s a).bind fun x => ((dataflowref07_Position.f k s a).bind fun y => (if x.1 = y.1 then (if x.2.1 = y.2.1 then (dataflowlaw07_LexPlaces.j0 k s a x.1 x.2.1 x.2.2 (x.2.2 != y.2.2)) else (dataflowlaw07_LexPlaces.j0 k s a x.1 x.2.1 x.2.2 true)) else (dataflowlaw07_LexPlaces.j0 k s a x.1 x.2.1 x.2.2 true)))) (fun k => rfl) (Ev.bind (lpos_ev s a) (Ev.bind (rpos_ev s a) ?_)))
  refine Ev.congr (f := fun k => dataflowlaw07_LexPlaces.j0 k s a (posR s a).1 (posR s a).2.1 (posR s a).2.2 false) (fun k => by rw [if_pos rfl, if_pos rfl, bne_self_eq_false]) ?_
  have hfalse : Ev (fun k => dataflowlaw07_LexPlaces.j1 k s a (posR s a).1 (posR s a).2.1 false) true := Ev.step (f := fun k => (dataflowlaw07_awake.f k).bind fun t => some t) (fun k => by simp [dataflowlaw07_LexPlaces.j1]) haw
  by_cases he : (posR s a).2.2 = 0
  · by_cases hlt : a < s.size
    · have hsz : s.size ≤ 65536 ∧ 0 ≤ a := by
        unfold posR at he
        split at he
        · simp at he
        · split at he
          · simp at he
          · omega
      obtain ⟨n, rfl⟩ := Int.eq_ofNat_of_zero_le hsz.2
      have hR : posR s (n : Int) = (((pos s n).1 : Int), ((pos s n).2 : Int), 0) := by unfold posR; rw [if_neg (by omega), if_neg (by omega)]; rfl
      have hR1 : posR s ((n + 1 : Nat) : Int) = (((pos s (n + 1)).1 : Int), ((pos s (n + 1)).2 : Int), 0) := by unfold posR; rw [if_neg (by omega), if_neg (by omega)]; rfl
      have hpl := pos_le s n
      have e1 : wrap64 ((n : Int) + 1) = ((n + 1 : Nat) : Int) := by rw [w64 (by omega) (by omega)]; rfl
      have hp1 := lpos_ev s ((n + 1 : Nat) : Int)
      rw [hR1] at hp1
      refine Ev.step (f := fun k => dataflowlaw07_LexPlaces.j1 k s n (pos s n).1 (pos s n).2 true) (fun k => ?_) (Ev.step (f := fun k => (lex_Position.f k s ((n + 1 : Nat) : Int)).bind fun x => (if (bt s n) = 10 then (if x.1 = (wrap64 (((pos s n).1 : Int) + 1)) then (if x.2.1 = 1 then ((dataflowlaw07_awake.f k).bind fun t => (some t)) else (some false)) else (some false)) else (if x.1 = ((pos s n).1 : Int) then (if x.2.1 = (wrap64 (((pos s n).2 : Int) + 1)) then ((dataflowlaw07_awake.f k).bind fun t => (some t)) else (some false)) else (some false)))) (fun k => ?_) (Ev.bind hp1 ?_))
      · rw [hR]; simp only [dataflowlaw07_LexPlaces.j0]; rw [if_neg (by simp), if_pos trivial, decide_eq_true hlt]
      · simp only [dataflowlaw07_LexPlaces.j1]; rw [if_pos trivial, e1]
        have p1 : (0 : Int) ≤ (n : Int) := by omega
        simp only [if_pos p1, if_pos hlt]
      · refine Ev.congr (fun k => ?_) haw
        rw [w64 (i := ((pos s n).1 : Int) + 1) (by omega) (by omega), w64 (by omega) (by omega)]
        by_cases c : bt s n = 10
        · rw [if_pos c, pos, if_pos c, if_pos (by simp), if_pos (by simp)]
        · rw [if_neg c, pos, if_neg c, if_pos (by simp), if_pos (by simp)]
    · exact Ev.step (f := fun k => dataflowlaw07_LexPlaces.j1 k s a (posR s a).1 (posR s a).2.1 false) (fun k => by simp only [dataflowlaw07_LexPlaces.j0]; rw [if_neg (by simp), if_pos he, decide_eq_false hlt]) hfalse
  · exact Ev.step (f := fun k => dataflowlaw07_LexPlaces.j1 k s a (posR s a).1 (posR s a).2.1 false) (fun k => by simp only [dataflowlaw07_LexPlaces.j0]; rw [if_neg (by simp), if_neg he]) hfalse
end Go.Proofs.YthfhbdncphkdaaaDoor.Pure

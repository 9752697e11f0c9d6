/- The tokens of the joined tokens have the same kinds, texts and values: the pure statement of LexJoins. -/
import Derived.Test.YthfhbdncphkdaaaDoorWalkLexJoins
import Derived.Test.YthfhbdncphkdaaaDoorLexMove
import Derived.Test.YthfhbdncphkdaaaDoorGf22
import Derived.Test.YthfhbdncphkdaaaDoorGf23
namespace Go.Proofs.YthfhbdncphkdaaaDoor.Pure
open Go.RowKit Go.Proofs.YthfhbdncphkdaaaDoorW.PrintWords Go.Proofs.YthfhbdncphkdaaaDoor.G
set_option linter.unusedVariables false
set_option linter.unusedSimpArgs false

def joinF : List S30 → ByteArray → ByteArray
  | [], acc => acc
  | t :: l, acc => if t.f2.size = 0 then joinF l acc else joinF l (if acc.size = 0 then acc ++ t.f2 else (acc ++ (⟨#[32]⟩ : ByteArray)) ++ t.f2)
def tot : List S30 → Nat
  | [] => 0
  | t :: l => t.f2.size + 1 + tot l
def key (t : S30) : Int × ByteArray × Int := (t.f0, t.f2, t.f3)
theorem tot_le (s : ByteArray) {a : Nat} {l : List S30} (h : Chain s a l) : tot l ≤ 2 * (s.size - a) + 1 := by
  induction h with
  | done a ha h => show 0 + 1 + 0 ≤ _; omega
  | tok a ha l h he hl ih =>
    obtain ⟨g1, g2, _⟩ := tok_tells s _ h he
    have := skip_le s a ha
    show (tokS s (skipS s a)).2.2.1.size + 1 + tot l ≤ _
    omega
theorem app_size (a b : ByteArray) : (a ++ b).size = a.size + b.size := ByteArray.size_append
theorem joinF_size : ∀ (l : List S30) (acc : ByteArray), acc.size ≤ (joinF l acc).size ∧ (joinF l acc).size ≤ acc.size + tot l := by
  intro l
  induction l with
  | nil => intro acc; exact ⟨Nat.le_refl _, Nat.le_refl _⟩
  | cons t l ih =>
    intro acc
    unfold joinF tot
    split
    · have := ih acc; omega
    · split
      · have := ih (acc ++ t.f2); rw [app_size] at this; omega
      · have := ih ((acc ++ (⟨#[32]⟩ : ByteArray)) ++ t.f2); rw [app_size, app_size, show (⟨#[32]⟩ : ByteArray).size = 1 from rfl] at this; omega
theorem joinF_bt : ∀ (l : List S30) (acc : ByteArray) (k : Nat), k < acc.size → bt (joinF l acc) k = bt acc k := by
  intro l
  induction l with
  | nil => intro acc k _; rfl
  | cons t l ih =>
    intro acc k hk
    unfold joinF
    split
    · exact ih acc k hk
    · split
      · rw [ih _ k (by rw [app_size]; omega), app_bt_l _ _ k hk]
      · rw [ih _ k (by rw [app_size, app_size]; omega), app_bt_l _ _ k (by rw [app_size]; omega), app_bt_l _ _ k hk]
theorem joinF_next : ∀ (l : List S30) (acc : ByteArray), 0 < acc.size → (joinF l acc).size = acc.size ∨ (acc.size < (joinF l acc).size ∧ bt (joinF l acc) (acc.size : Nat) = 32) := by
  intro l
  induction l with
  | nil => intro acc _; exact .inl rfl
  | cons t l ih =>
    intro acc h0
    unfold joinF
    split
    · exact ih acc h0
    · right
      rw [if_neg (by omega)]
      have h1 := joinF_size l ((acc ++ (⟨#[32]⟩ : ByteArray)) ++ t.f2)
      rw [app_size, app_size, show (⟨#[32]⟩ : ByteArray).size = 1 from rfl] at h1
      refine ⟨by omega, ?_⟩
      rw [joinF_bt l _ acc.size (by rw [app_size, app_size, show (⟨#[32]⟩ : ByteArray).size = 1 from rfl]; omega), app_bt_l _ _ acc.size (by rw [app_size, show (⟨#[32]⟩ : ByteArray).size = 1 from rfl]; omega)]
      have := app_bt_r acc (⟨#[32]⟩ : ByteArray) 0 (by decide)
      rw [Nat.add_zero] at this
      rw [this]; rfl
/-- The joined tokens' tokens. -/
theorem chain_join (s : ByteArray) {a : Nat} {l : List S30} (h : Chain s a l) : ∀ acc : ByteArray, ∃ l', Chain (joinF l acc) acc.size l' ∧ l'.map key = l.map key := by
  induction h with
  | done a ha h =>
    intro acc
    have e : joinF [endT s] acc = acc := rfl
    rw [e]
    exact ⟨_, .done acc.size (Nat.le_refl _) (skipS_end _ _ (by omega)), rfl⟩
  | tok a ha l h he hl ih =>
    intro acc
    obtain ⟨g1, g2, g3, g4, g5, g6⟩ := tok_tells s _ h he
    have hn47 := tok_not47 s _ h he
    have hnsp := (skip_stop s a h).1
    -- at q the token stands
    have step : ∀ (acc' : ByteArray) (q : Nat), acc'.size = q + (tokS s (skipS s a)).2.2.1.size → (∀ d : Nat, d < (tokS s (skipS s a)).2.2.1.size → bt acc' ((q + d : Nat) : Int) = bt (tokS s (skipS s a)).2.2.1 d) → acc.size ≤ q → (q ≤ (joinF l acc').size → bt (joinF l acc') (q : Nat) = bt s (skipS s a : Nat) → skipS (joinF l acc') acc.size = q) → ∃ l', Chain (joinF l acc') acc.size l' ∧ l'.map key = (tk (tokS s (skipS s a)) :: l).map key := by
      intro acc' q hsz hby haq hskip
      obtain ⟨l', hc, hk⟩ := ih acc'
      have hsize := joinF_size l acc'
      have hnext := joinF_next l acc' (by omega)
      have hb : ∀ d : Nat, d < (tokS s (skipS s a)).2.2.1.size → bt (joinF l acc') ((q + d : Nat) : Int) = bt s ((skipS s a + d : Nat) : Int) := by
        intro d hd
        rw [joinF_bt l acc' (q + d) (by omega), hby d hd]
        have := ext_bt s (skipS s a) (skipS s a + (tokS s (skipS s a)).2.2.1.size) d (by omega) g2
        rw [g4] at this
        exact this
      have hsk := hskip (by omega) (by simpa using hb 0 g1)
      have hm := tok_move s (joinF l acc') (skipS s a) q h he (by omega) hb (by rw [← hsz]; rcases hnext with n | n; exact .inl n.symm; exact .inr (.inl n.2))
      refine ⟨tk (tokS (joinF l acc') q) :: l', ?_, ?_⟩
      · have := Chain.tok (s := joinF l acc') acc.size (by omega) l' (by omega) (by rw [hsk, hm]) (by rw [hsk, hm]; rw [hsz] at hc; exact hc)
        rw [hsk] at this
        exact this
      · rw [List.map_cons, List.map_cons, hk, hm]; rfl
    have hnosp : ∀ (j : ByteArray) (q : Nat), q < j.size → bt j q = bt s (skipS s a : Nat) → skipS j q = q := by
      intro j q hq hb
      refine skipS_no j q hq (by rw [hb]; exact hnsp) ?_
      unfold isCm
      rw [hb, beq_eq_false_iff_ne.2 hn47]; rfl
    unfold joinF
    rw [if_neg (by show ¬ (tokS s (skipS s a)).2.2.1.size = 0; omega)]
    by_cases h0 : acc.size = 0
    · rw [if_pos h0]
      have hz := joinF_size l (acc ++ (tk (tokS s (skipS s a))).f2)
      rw [app_size, show (tk (tokS s (skipS s a))).f2 = (tokS s (skipS s a)).2.2.1 from rfl] at hz
      refine step _ acc.size (by rw [app_size]; rfl) (fun d hd => app_bt_r _ _ d hd) (Nat.le_refl _) (fun h1 h2 => hnosp _ _ ?_ h2)
      show acc.size < (joinF l (acc ++ (tokS s (skipS s a)).2.2.1)).size
      omega
    · rw [if_neg h0]
      have h1z : (⟨#[32]⟩ : ByteArray).size = 1 := rfl
      have hz := joinF_size l ((acc ++ (⟨#[32]⟩ : ByteArray)) ++ (tk (tokS s (skipS s a))).f2)
      rw [app_size, app_size, h1z, show (tk (tokS s (skipS s a))).f2 = (tokS s (skipS s a)).2.2.1 from rfl] at hz
      have hsz1 : (acc ++ (⟨#[32]⟩ : ByteArray)).size = acc.size + 1 := by rw [app_size, h1z]
      refine step _ (acc.size + 1) (by rw [app_size, hsz1]; rfl) (fun d hd => by have := app_bt_r (acc ++ (⟨#[32]⟩ : ByteArray)) (tokS s (skipS s a)).2.2.1 d hd; rw [hsz1] at this; exact this) (by omega) (fun h1 h2 => ?_)
      have hsp : bt (joinF l ((acc ++ (⟨#[32]⟩ : ByteArray)) ++ (tk (tokS s (skipS s a))).f2)) (acc.size : Nat) = 32 := by
        rw [joinF_bt l _ acc.size (by rw [app_size, hsz1]; omega), app_bt_l _ _ acc.size (by omega)]
        have := app_bt_r acc (⟨#[32]⟩ : ByteArray) 0 (by decide)
        rw [Nat.add_zero] at this
        rw [this]; rfl
      have hlt : acc.size + 1 < (joinF l ((acc ++ (⟨#[32]⟩ : ByteArray)) ++ (tk (tokS s (skipS s a))).f2)).size := by
        show acc.size + 1 < (joinF l ((acc ++ (⟨#[32]⟩ : ByteArray)) ++ (tokS s (skipS s a)).2.2.1)).size
        omega
      rw [skipS_sp _ acc.size (by omega) (by rw [hsp]; rfl)]
      exact hnosp _ _ hlt h2
theorem rd_drop (L : List S30) (i : Nat) (t : S30) (r : List S30) (h : L.drop i = t :: r) : rd_T30 L (i : Int) = t ∧ i < L.length ∧ L.drop (i + 1) = r := by
  have hlt : i < L.length := by
    by_cases c : i < L.length
    · exact c
    · rw [List.drop_of_length_le (by omega)] at h; cases h
  rw [List.drop_eq_getElem_cons hlt] at h
  injection h with h1 h2
  refine ⟨?_, hlt, h2⟩
  unfold rd_T30
  rw [Int.toNat_natCast, List.getD_eq_getElem?_getD, List.getElem?_eq_getElem hlt, h1]; rfl
theorem drop_nil (L : List S30) (i : Nat) (h : L.drop i = []) : L.length ≤ i := by
  by_cases c : i < L.length
  · rw [List.drop_eq_getElem_cons c] at h; cases h
  · omega
/-- The reference's loop. -/
theorem rjoin_l (L : List S30) (hL : L.length ≤ 100000) : ∀ (l : List S30) (i : Nat) (acc : ByteArray), L.drop i = l → acc.size + tot l ≤ 1000000 → Ev (fun k => dataflowref07_Join.l0 k L acc i) (joinF l acc) := by
  intro l
  induction l with
  | nil =>
    intro i acc hi hz
    have := drop_nil L i hi
    refine Ev.step (f := fun _ => some acc) (fun k => ?_) (Ev.now _)
    simp only [dataflowref07_Join.l0]; rw [if_neg (by omega)]
  | cons t l ih =>
    intro i acc hi hz
    obtain ⟨hr, hlt, hnext⟩ := rd_drop L i t l hi
    have w2 : wrap64 ((i : Int) + 1) = ((i + 1 : Nat) : Int) := by rw [w64 (by omega) (by omega)]; rfl
    unfold tot at hz
    have hn1 := toList_nil t.f2
    have hn2 := toList_nil acc
    have h1z : (⟨#[32]⟩ : ByteArray).size = 1 := rfl
    unfold joinF
    by_cases c0 : t.f2.size = 0
    · rw [if_pos c0]
      refine Ev.step (fun k => ?_) (ih (i + 1) acc hnext (by omega))
      simp only [dataflowref07_Join.l0, hr, w2]
      rw [if_pos (by omega), if_pos (by omega), if_pos (hn1.2 c0)]
    · rw [if_neg c0]
      by_cases c1 : acc.size = 0
      · rw [if_pos c1]
        refine Ev.step (fun k => ?_) (ih (i + 1) (acc ++ t.f2) hnext (by rw [app_size]; omega))
        simp only [dataflowref07_Join.l0, hr, w2]
        rw [if_pos (by omega), if_pos (by omega), if_neg (fun e => c0 (hn1.1 e)), if_pos (hn2.2 c1), if_pos (by omega)]
      · rw [if_neg c1]
        refine Ev.step (fun k => ?_) (ih (i + 1) ((acc ++ (⟨#[32]⟩ : ByteArray)) ++ t.f2) hnext (by rw [app_size, app_size, h1z]; omega))
        simp only [dataflowref07_Join.l0, hr, w2]
        rw [if_pos (by omega), if_pos (by omega), if_neg (fun e => c0 (hn1.1 e)), if_neg (fun e => c1 (hn2.1 e)), if_pos (by omega), if_pos (by rw [app_size, h1z]; omega)]
theorem join_snoc (A : List (List UInt8)) (m sep : List UInt8) : Lib.join (A ++ [m]) sep = if A = [] then m else Lib.join A sep ++ sep ++ m := by
  cases A with
  | nil => exact Lib.join_one m sep
  | cons x r =>
    rw [if_neg (by simp), List.cons_append, Lib.join_cons, Lib.join_cons]
    simp [Lib.joinTail, List.append_assoc]
/-- The program's loop. -/
theorem ljoin_l (L : List S30) (hL : L.length ≤ 100000) : ∀ (l : List S30) (i : Nat) (acc : ByteArray) (A : List ByteArray), L.drop i = l → acc.size + tot l ≤ 1000000 → A.length + l.length ≤ 100000 → acc.data.toList = Lib.join (A.map (·.data.toList)) [32] → (acc.size = 0 ↔ A = []) → Ev (fun k => lex_Join.l0 k A L L.length i) (joinF l acc) := by
  intro l
  induction l with
  | nil =>
    intro i acc A hi hz hA hj h0
    have := drop_nil L i hi
    have hlen : acc.data.toList.length = acc.size := Array.length_toList
    refine Ev.step (f := fun _ => some acc) (fun k => ?_) (Ev.now _)
    simp only [lex_Join.l0]
    rw [if_neg (by omega)]
    unfold strings_Join.f
    rw [show (⟨#[32]⟩ : ByteArray).data.toList = [32] from rfl, ← hj, if_pos ⟨by omega, by omega⟩]
    rfl
  | cons t l ih =>
    intro i acc A hi hz hA hj h0
    obtain ⟨hr, hlt, hnext⟩ := rd_drop L i t l hi
    have w2 : wrap64 ((i : Int) + 1) = ((i + 1 : Nat) : Int) := by rw [w64 (by omega) (by omega)]; rfl
    unfold tot at hz
    rw [List.length_cons] at hA
    have hn1 := toList_nil t.f2
    have h1z : (⟨#[32]⟩ : ByteArray).size = 1 := rfl
    unfold joinF
    by_cases c0 : t.f2.size = 0
    · rw [if_pos c0]
      refine Ev.step (fun k => ?_) (ih (i + 1) acc A hnext (by omega) (by omega) hj h0)
      simp only [lex_Join.l0, hr, w2]
      rw [if_pos (by omega), if_pos (by omega), if_pos (by omega), if_pos (hn1.2 c0)]
    · rw [if_neg c0]
      refine Ev.step (fun k => ?_) (ih (i + 1) (if acc.size = 0 then acc ++ t.f2 else (acc ++ (⟨#[32]⟩ : ByteArray)) ++ t.f2) (A ++ [t.f2]) hnext ?_ (by rw [List.length_append]; simp; omega) ?_ ?_)
      · simp only [lex_Join.l0, hr, w2]
        rw [if_pos (by omega), if_pos (by omega), if_pos (by omega), if_neg (fun e => c0 (hn1.1 e)), if_pos (by omega)]
      · split
        · rw [app_size]; omega
        · rw [app_size, app_size, h1z]; omega
      · rw [List.map_append, List.map_cons, List.map_nil, join_snoc]
        by_cases c1 : acc.size = 0
        · have hA0 := h0.1 c1
          have hnil : acc.data.toList = [] := by rw [← Lib.toList_data]; exact (toList_nil acc).2 c1
          rw [if_pos c1, hA0, if_pos (by simp), ByteArray.data_append, Array.toList_append, hnil]; rfl
        · have hA0 : A ≠ [] := fun e => c1 (h0.2 e)
          rw [if_neg c1, if_neg (by simpa using hA0), ByteArray.data_append, Array.toList_append, ByteArray.data_append, Array.toList_append, hj]
      · constructor
        · intro e; exfalso
          split at e
          · rw [app_size] at e; omega
          · rw [app_size, app_size, h1z] at e; omega
        · intro e; simp at e
theorem same_key (L M : List S30) (hL : L.length ≤ 100000) (h : M.map key = L.map key) : ∀ (d i : Nat), L.length - i = d → Ev (fun k => dataflowlaw07_LexJoins.l0 k L M i) true := by
  have hlen : M.length = L.length := by have := congrArg List.length h; simpa using this
  intro d
  induction d with
  | zero =>
    intro i hi
    refine Ev.step (f := fun k => (dataflowlaw07_awake.f k).bind fun t => some t) (fun k => ?_) (Ev.bind awake07 (Ev.now _))
    simp only [dataflowlaw07_LexJoins.l0]; rw [if_neg (by omega)]
  | succ d ih =>
    intro i hi
    have w2 : wrap64 ((i : Int) + 1) = ((i + 1 : Nat) : Int) := by rw [w64 (by omega) (by omega)]; rfl
    have r1 : rd_T30 L (i : Int) = L[i]'(by omega) := by
      unfold rd_T30; rw [Int.toNat_natCast, List.getD_eq_getElem?_getD, List.getElem?_eq_getElem (by omega)]; rfl
    have r2 : rd_T30 M (i : Int) = M[i]'(by omega) := by
      unfold rd_T30; rw [Int.toNat_natCast, List.getD_eq_getElem?_getD, List.getElem?_eq_getElem (by omega)]; rfl
    have hk : key (M[i]'(by omega)) = key (L[i]'(by omega)) := by
      have := congrArg (fun l => l[i]?) h
      simp only [List.getElem?_map, List.getElem?_eq_getElem (show i < M.length by omega), List.getElem?_eq_getElem (show i < L.length by omega), Option.map_some] at this
      exact Option.some.inj this
    unfold key at hk
    simp only [Prod.mk.injEq] at hk
    obtain ⟨k1, k2, k3⟩ := hk
    refine Ev.step (fun k => ?_) (ih (i + 1) (by omega))
    simp only [dataflowlaw07_LexJoins.l0, r1, r2, w2]
    rw [if_pos (by omega), if_pos (by omega), if_pos (by omega), if_pos k1.symm, if_pos (by rw [k2]), if_pos k3.symm]
theorem LexJoins : dataflowlaw07_LexJoins.Pure := by
  intro s hs
  have haw : Ev (fun k => (dataflowlaw07_awake.f k).bind fun t => some t) true := Ev.bind awake07 (Ev.now _)
  have htrue : ∀ l, Ev (fun k => dataflowlaw07_LexJoins.j0 k l true) true := fun l => Ev.step (fun k => by simp only [dataflowlaw07_LexJoins.j0]; rw [if_pos trivial]) haw
  rcases tokens_cases s with ⟨hlong, h1⟩ | ⟨hle, ⟨l, hl, h1⟩ | ⟨p, er, hb, h1⟩⟩
  · refine Ev.rounds (Ev.congr (fun k => ?_) (htrue []))
    unfold dataflowlaw07_LexJoins.f
    rw [ltok_eq, h1]
    simp only [Option.bind_some]
    rw [if_neg (by decide)]
  · by_cases h3 : s.size > 3000
    · refine Ev.rounds (Ev.congr (fun k => ?_) (htrue l))
      unfold dataflowlaw07_LexJoins.f
      rw [ltok_eq, h1]
      simp only [Option.bind_some]
      rw [if_pos trivial, decide_eq_true (by omega)]
    · have hlen := tokensS_len s
      rw [h1] at hlen
      simp only at hlen
      have htot := tot_le s hl
      have hjs := joinF_size l (⟨#[]⟩ : ByteArray)
      have he : (⟨#[]⟩ : ByteArray).size = 0 := rfl
      obtain ⟨l', hc, hk⟩ := chain_join s hl (⟨#[]⟩ : ByteArray)
      have ht : tokensS (joinF l ⟨#[]⟩) = (l', 0, 0) := by
        unfold tokensS; rw [if_neg (by omega)]; exact chain_toks _ hc []
      have hlen' : l'.length = l.length := by have := congrArg List.length hk; simpa using this
      have hlj : Ev (fun k => lex_Join.f k l) (joinF l ⟨#[]⟩) := ljoin_l l (by omega) l 0 ⟨#[]⟩ [] rfl (by omega) (by simp; omega) rfl ⟨fun _ => rfl, fun _ => rfl⟩
      have hrj : Ev (fun k => dataflowref07_Join.f k l) (joinF l ⟨#[]⟩) := rjoin_l l (by omega) l 0 ⟨#[]⟩ rfl (by omega)
      refine Ev.rounds (Ev.congr (f := fun k => dataflowlaw07_LexJoins.j0 k l false) (fun k => ?_) (Ev.step (f := fun k => (lex_Join.f k l).bind fun t7007 => ((lex_Tokens.f t7007).bind fun bt7008 => ((dataflowref07_Join.f k l).bind fun t7013 => (if t7007.toList = t7013.toList then (if bt7008.2.2 = 0 then (dataflowlaw07_LexJoins.j1 k l bt7008.1 ((bt7008.1.length : Int) != (l.length : Int))) else (dataflowlaw07_LexJoins.j1 k l bt7008.1 true)) else (dataflowlaw07_LexJoins.j1 k l bt7008.1 true))))) (fun k => ?_) (Ev.bind hlj ?_)))
      · unfold dataflowlaw07_LexJoins.f
        rw [ltok_eq, h1]
        simp only [Option.bind_some]
        rw [if_pos trivial, decide_eq_false (by omega)]
      · simp only [dataflowlaw07_LexJoins.j0]; rw [if_neg (by simp)]
      · refine Ev.congr (f := fun k => (dataflowref07_Join.f k l).bind fun t7013 => (if (joinF l ⟨#[]⟩).toList = t7013.toList then (dataflowlaw07_LexJoins.j1 k l l' false) else (dataflowlaw07_LexJoins.j1 k l l' true))) (fun k => ?_) (Ev.bind hrj ?_)
        · rw [ltok_eq, ht]
          simp only [Option.bind_some]
          rw [hlen', bne_self_eq_false]
          simp only [if_true]
        · refine Ev.congr (f := fun k => dataflowlaw07_LexJoins.j1 k l l' false) (fun k => by rw [if_pos rfl]) ?_
          refine Ev.step (f := fun k => dataflowlaw07_LexJoins.l0 k l l' ((0 : Nat) : Int)) (fun k => ?_) (same_key l l' (by omega) hk _ 0 rfl)
          simp only [dataflowlaw07_LexJoins.j1]; rw [if_neg (by simp)]; rfl
  · refine Ev.rounds (Ev.congr (fun k => ?_) (htrue []))
    unfold dataflowlaw07_LexJoins.f
    rw [ltok_eq, h1]
    simp only [Option.bind_some]
    rw [if_neg (bad_err hb).1]
end Go.Proofs.YthfhbdncphkdaaaDoor.Pure

/- The texts of a protocol: the program's and the reference's are one; a protocol is the same as itself. -/
import Derived.Test.YthfhbdncphkdaaaDoorProBack
import Derived.Test.YthfhbdncphkdaaaDoorHf35
import Derived.Test.YthfhbdncphkdaaaDoorHf36
import Derived.Test.YthfhbdncphkdaaaDoorHf38
namespace Go.Proofs.YthfhbdncphkdaaaDoor.H
open Go.RowKit Go.Proofs.YthfhbdncphkdaaaDoorW.PrintWords
set_option linter.unusedVariables false
set_option linter.unusedSimpArgs false

def txtF (c : ByteArray) (ss : List ByteArray) (st er : Int) (ms : List S64) : ByteArray × Int := if checkF c ss st er ms = 0 then (proText c ss st er ms, 0) else ((⟨#[]⟩ : ByteArray), checkF c ss st er ms)
theorem textOk_of {c : ByteArray} {ss : List ByteArray} {st er : Int} {ms : List S64} (h : checkF c ss st er ms = 0) : textOk c ss st er ms = true := by
  obtain ⟨h1, h2, h3, h4, h5, h6, h7, h8⟩ := checkF_zero h
  obtain ⟨n1, n2, n3⟩ := valid_names h
  have hz := proText_size h
  unfold textOk inR
  simp only [Bool.and_eq_true, decide_eq_true_eq, List.all_eq_true]
  exact ⟨⟨⟨⟨⟨h6.1, h6.2.1⟩, h6.2.2.1, h6.2.2.2⟩, fun m hm => ⟨⟨(n3 m hm).1, (n3 m hm).2.1⟩, (n3 m hm).2.2.1, (n3 m hm).2.2.2.1⟩⟩, by omega⟩, by omega⟩
theorem ltext_ev (c : ByteArray) (ss : List ByteArray) (st er : Int) (ms : List S64) (hg : GoodP c ss ms) : Ev (fun k => protocol_Text.f k c ss st er ms) (txtF c ss st er ms) := by
  unfold protocol_Text.f txtF
  refine Ev.bind (lcheck_ev c ss st er ms hg) ?_
  by_cases h : checkF c ss st er ms = 0
  · rw [if_pos h]
    exact Ev.congr (fun k => by rw [if_pos h, if_pos (textOk_of h)]) (Ev.now _)
  · rw [if_neg h]
    exact Ev.congr (fun k => by rw [if_neg h]) (Ev.now _)
def stW : List ByteArray → ByteArray → ByteArray
  | [], acc => acc
  | x :: r, acc => stW r ((acc ++ (⟨#[32]⟩ : ByteArray)) ++ x)
theorem stW_size : ∀ (l : List ByteArray) (acc : ByteArray), (∀ x ∈ l, x.size ≤ 32) → (stW l acc).size ≤ acc.size + 33 * l.length := by
  intro l
  induction l with
  | nil => intro acc _; exact Nat.le_refl _
  | cons x r ih =>
    intro acc h
    have hx := h x List.mem_cons_self
    have := ih ((acc ++ (⟨#[32]⟩ : ByteArray)) ++ x) (fun z hz => h z (List.mem_cons_of_mem _ hz))
    rw [ByteArray.size_append, ByteArray.size_append, one_size] at this
    unfold stW
    rw [List.length_cons]
    omega
theorem stW_eq : ∀ (l : List ByteArray) (acc : ByteArray), l ≠ [] → stW l acc = acc ++ ((⟨#[32]⟩ : ByteArray) ++ joinC 32 l) := by
  intro l
  induction l with
  | nil => intro acc h; exact absurd rfl h
  | cons x r ih =>
    intro acc _
    unfold stW
    cases r with
    | nil => simp only [stW, joinC, ByteArray.append_assoc]
    | cons y r =>
      rw [ih _ (by simp), joinC_cons 32 x _ (by simp)]
      simp only [ByteArray.append_assoc]
theorem s5 : (⟨#[109, 111, 118, 101, 32]⟩ : ByteArray).size = 5 := rfl
theorem s4 : (⟨#[101, 110, 100, 10]⟩ : ByteArray).size = 4 := rfl
theorem s7a : (⟨#[10, 115, 116, 97, 114, 116, 32]⟩ : ByteArray).size = 7 := rfl
theorem s7b : (⟨#[10, 101, 114, 114, 111, 114, 32]⟩ : ByteArray).size = 7 := rfl
theorem rtext_l1 (c : ByteArray) (ss : List ByteArray) (st er : Int) (ms : List S64) (hm : ∀ m ∈ ms, 0 ≤ m.f0 ∧ m.f0 < (ss.length : Int) ∧ 0 ≤ m.f2 ∧ m.f2 < (ss.length : Int) ∧ m.f1.size ≤ 32) (hs : ∀ x ∈ ss, x.size ≤ 32) (hL : ms.length ≤ 256) :
    ∀ (l : List S64) (i : Nat) (acc : ByteArray), ms.drop i = l → i ≤ ms.length → acc.size ≤ 10000 + 104 * i → Ev (fun k => dataflowref39_Text.l1 k acc i c ss st er ms) (mvText ss l acc ++ (⟨#[101, 110, 100, 10]⟩ : ByteArray), 0) := by
  intro l
  induction l with
  | nil =>
    intro i acc h hl ha
    have hi := drop_end ms i h
    refine Ev.step (f := fun _ => some (acc ++ (⟨#[101, 110, 100, 10]⟩ : ByteArray), 0)) (fun k => ?_) (Ev.now _)
    simp only [dataflowref39_Text.l1]
    rw [if_neg (by omega), if_pos (by omega)]
  | cons m r ih =>
    intro i acc h hl ha
    obtain ⟨h1, h2, h3⟩ := rdM_drop ms i m r h
    obtain ⟨m1, m2, m3, m4, m5⟩ := hm m (by rw [← h1, rd_get ms i h2]; exact List.getElem_mem h2)
    have z1 := rd_size ss 32 m.f0 hs
    have z2 := rd_size ss 32 m.f2 hs
    have e : acc ++ mvL ss m = ((((((acc ++ (⟨#[109, 111, 118, 101, 32]⟩ : ByteArray)) ++ rdOf ByteArray.empty ss m.f0) ++ (⟨#[32]⟩ : ByteArray)) ++ m.f1) ++ (⟨#[32]⟩ : ByteArray)) ++ rdOf ByteArray.empty ss m.f2) ++ (⟨#[10]⟩ : ByteArray) := by
      unfold mvL; simp only [ByteArray.append_assoc]
    have e := Aside0.mk e
    have hz : (acc ++ mvL ss m).size ≤ 10000 + 104 * (i + 1) := by rw [ByteArray.size_append, mvL_size]; omega
    have he : wrap64 ((i : Int) + 1) = ((i + 1 : Nat) : Int) := by rw [w64 (by omega) (by omega)]; rfl
    refine Ev.step (fun k => ?_) (ih (i + 1) (acc ++ mvL ss m) h3 h2 hz)
    clear hz ih hm hs
    simp only [dataflowref39_Text.l1]
    rw [h1, if_pos (by omega), if_pos (by omega)]
    simp only [ByteArray.size_append, one_size, s5]
    rw [if_pos (by omega), if_pos m1, if_pos m2, if_pos (by omega), if_pos (by omega), if_pos (by omega), if_pos (by omega), if_pos m3, if_pos m4, if_pos (by omega), if_pos (by omega), he, e.out]
theorem rtext_l0 (c : ByteArray) (ss : List ByteArray) (st er : Int) (ms : List S64) (h6 : 0 ≤ st ∧ st < (ss.length : Int) ∧ 0 ≤ er ∧ er < (ss.length : Int)) (hs : ∀ x ∈ ss, x.size ≤ 32) (hL : ss.length ≤ 16) (v : ByteArray × Int)
    (hv : Ev (fun k => dataflowref39_Text.l1 k (((((stW ss (((⟨#[112, 114, 111, 116, 111, 99, 111, 108, 32]⟩ : ByteArray) ++ c) ++ (⟨#[10, 115, 116, 97, 116, 101, 115]⟩ : ByteArray)) ++ (⟨#[10, 115, 116, 97, 114, 116, 32]⟩ : ByteArray)) ++ rdOf ByteArray.empty ss st) ++ (⟨#[10, 101, 114, 114, 111, 114, 32]⟩ : ByteArray)) ++ rdOf ByteArray.empty ss er) ++ (⟨#[10]⟩ : ByteArray)) 0 c ss st er ms) v) :
    ∀ (l : List ByteArray) (i : Nat) (acc : ByteArray), ss.drop i = l → i ≤ ss.length → acc.size ≤ 1000 + 33 * i → stW l acc = stW ss (((⟨#[112, 114, 111, 116, 111, 99, 111, 108, 32]⟩ : ByteArray) ++ c) ++ (⟨#[10, 115, 116, 97, 116, 101, 115]⟩ : ByteArray)) → Ev (fun k => dataflowref39_Text.l0 k acc i c ss st er ms) v := by
  intro l
  induction l with
  | nil =>
    intro i acc h hl ha hq
    have hi := drop_end ss i h
    have hq := Aside0.mk hq
    have z1 := rd_size ss 32 st hs
    have z2 := rd_size ss 32 er hs
    refine Ev.step (fun k => ?_) hv
    simp only [dataflowref39_Text.l0]
    rw [if_neg (by omega)]
    simp only [ByteArray.size_append, one_size, s7a, s7b]
    clear hv
    rw [if_pos (by omega), if_pos h6.1, if_pos h6.2.1, if_pos (by omega), if_pos (by omega), if_pos h6.2.2.1, if_pos h6.2.2.2, if_pos (by omega), if_pos (by omega), ← hq.out]
    rfl
  | cons x r ih =>
    intro i acc h hl ha hq
    obtain ⟨h1, h2, h3⟩ := rdS_drop ss i x r h
    have hx := hs x (by rw [← h1, rd_at ss i h2]; exact List.getElem_mem h2)
    have he : wrap64 ((i : Int) + 1) = ((i + 1 : Nat) : Int) := by rw [w64 (by omega) (by omega)]; rfl
    refine Ev.step (fun k => ?_) (ih (i + 1) ((acc ++ (⟨#[32]⟩ : ByteArray)) ++ x) h3 h2 (by rw [ByteArray.size_append, ByteArray.size_append, one_size]; omega) hq)
    simp only [dataflowref39_Text.l0]
    rw [h1, if_pos (by omega)]
    simp only [ByteArray.size_append, one_size]
    rw [if_pos (by omega), if_pos (by omega), if_pos (by omega), he]
theorem rtext_ev (c : ByteArray) (ss : List ByteArray) (st er : Int) (ms : List S64) (hg : GoodP c ss ms) : Ev (fun k => dataflowref39_Text.f k c ss st er ms) (txtF c ss st er ms) := by
  unfold dataflowref39_Text.f txtF
  refine Ev.bind (rcheck_ev c ss st er ms hg) ?_
  by_cases h : checkF c ss st er ms = 0
  · rw [if_pos h]
    obtain ⟨h1, h2, h3, h4, h5, h6, h7, h8⟩ := checkF_zero h
    obtain ⟨n1, n2, n3⟩ := valid_names h
    have hne : ss ≠ [] := fun e => by rw [e] at h4; exact absurd h4 (Nat.lt_irrefl _)
    have hs : ∀ x ∈ ss, x.size ≤ 32 := fun x hx => (ident_sz (n2 x hx)).2.1
    have hc := (ident_sz n1).2.1
    have z1 := rd_size ss 32 st hs
    have z2 := rd_size ss 32 er hs
    have hw := stW_size ss (((⟨#[112, 114, 111, 116, 111, 99, 111, 108, 32]⟩ : ByteArray) ++ c) ++ (⟨#[10, 115, 116, 97, 116, 101, 115]⟩ : ByteArray)) hs
    have e9 : (⟨#[112, 114, 111, 116, 111, 99, 111, 108, 32]⟩ : ByteArray).size = 9 := rfl
    have e7 : (⟨#[10, 115, 116, 97, 116, 101, 115]⟩ : ByteArray).size = 7 := rfl
    rw [ByteArray.size_append, ByteArray.size_append, e9, e7] at hw
    refine Ev.congr (fun k => by rw [if_pos h, if_pos (by omega), if_pos (by rw [ByteArray.size_append, e9]; omega)]; rfl) (rtext_l0 c ss st er ms h6 hs h2 _ ?_ ss 0 _ rfl (Nat.zero_le _) (by rw [ByteArray.size_append, ByteArray.size_append, e9, e7]; omega) rfl)
    have := rtext_l1 c ss st er ms (fun m hm => ⟨(n3 m hm).1, (n3 m hm).2.1, (n3 m hm).2.2.1, (n3 m hm).2.2.2.1, (ident_sz (n3 m hm).2.2.2.2).2.1⟩) hs h3 ms 0 (((((stW ss (((⟨#[112, 114, 111, 116, 111, 99, 111, 108, 32]⟩ : ByteArray) ++ c) ++ (⟨#[10, 115, 116, 97, 116, 101, 115]⟩ : ByteArray)) ++ (⟨#[10, 115, 116, 97, 114, 116, 32]⟩ : ByteArray)) ++ rdOf ByteArray.empty ss st) ++ (⟨#[10, 101, 114, 114, 111, 114, 32]⟩ : ByteArray)) ++ rdOf ByteArray.empty ss er) ++ (⟨#[10]⟩ : ByteArray)) rfl (Nat.zero_le _) (by
        simp only [ByteArray.size_append, one_size, s7a, s7b]; omega)
    have e0 : mvText ss ms (((((stW ss (((⟨#[112, 114, 111, 116, 111, 99, 111, 108, 32]⟩ : ByteArray) ++ c) ++ (⟨#[10, 115, 116, 97, 116, 101, 115]⟩ : ByteArray)) ++ (⟨#[10, 115, 116, 97, 114, 116, 32]⟩ : ByteArray)) ++ rdOf ByteArray.empty ss st) ++ (⟨#[10, 101, 114, 114, 111, 114, 32]⟩ : ByteArray)) ++ rdOf ByteArray.empty ss er) ++ (⟨#[10]⟩ : ByteArray)) ++ (⟨#[101, 110, 100, 10]⟩ : ByteArray) = proText c ss st er ms := by
      unfold proText hd1 hd2
      congr 2
      rw [stW_eq ss _ hne, join_eq, emp_app, show (⟨#[10, 115, 116, 97, 116, 101, 115, 32]⟩ : ByteArray) = ⟨#[10, 115, 116, 97, 116, 101, 115]⟩ ++ ⟨#[32]⟩ from rfl, show (⟨#[10, 115, 116, 97, 114, 116, 32]⟩ : ByteArray) = ⟨#[10]⟩ ++ ⟨#[115, 116, 97, 114, 116, 32]⟩ from rfl]
      simp only [ByteArray.append_assoc]
    rw [e0] at this
    exact this
  · rw [if_neg h]
    exact Ev.congr (fun k => by rw [if_neg h]) (Ev.now _)
theorem same_l1 (c : ByteArray) (ss : List ByteArray) (st er : Int) (ms : List S64) (hL : ms.length ≤ 1000000) : ∀ (d i : Nat), ms.length - i = d → Ev (fun k => dataflowref39_Same.l1 k i c ss st er ms c ss st er ms) true := by
  intro d
  induction d with
  | zero => intro i h; exact Ev.step (fun k => by simp only [dataflowref39_Same.l1]; rw [if_neg (by omega)]) (Ev.now true)
  | succ d ih =>
    intro i h
    have he : wrap64 ((i : Int) + 1) = ((i + 1 : Nat) : Int) := by rw [w64 (by omega) (by omega)]; rfl
    refine Ev.step (fun k => ?_) (ih (i + 1) (by omega))
    simp only [dataflowref39_Same.l1]
    rw [if_pos (by omega), if_pos (by omega), if_pos (by omega), if_neg (by simp), he]
theorem same_l0 (c : ByteArray) (ss : List ByteArray) (st er : Int) (ms : List S64) (hS : ss.length ≤ 1000000) (hL : ms.length ≤ 1000000) : ∀ (d i : Nat), ss.length - i = d → Ev (fun k => dataflowref39_Same.l0 k i c ss st er ms c ss st er ms) true := by
  intro d
  induction d with
  | zero => intro i h; exact Ev.step (fun k => by simp only [dataflowref39_Same.l0]; rw [if_neg (by omega)]; rfl) (same_l1 c ss st er ms hL _ 0 rfl)
  | succ d ih =>
    intro i h
    have he : wrap64 ((i : Int) + 1) = ((i + 1 : Nat) : Int) := by rw [w64 (by omega) (by omega)]; rfl
    refine Ev.step (fun k => ?_) (ih (i + 1) (by omega))
    simp only [dataflowref39_Same.l0]
    rw [if_pos (by omega), if_pos (by omega), if_pos (by omega), if_pos trivial, he]
theorem same_ev (c : ByteArray) (ss : List ByteArray) (st er : Int) (ms : List S64) (hS : ss.length ≤ 1000000) (hL : ms.length ≤ 1000000) : Ev (fun k => dataflowref39_Same.f k c ss st er ms c ss st er ms) true := by
  refine Ev.congr (f := fun k => dataflowref39_Same.j0 k false c ss st er ms c ss st er ms) (fun k => ?_) (Ev.step (fun k => ?_) (same_l0 c ss st er ms hS hL _ 0 rfl))
  · unfold dataflowref39_Same.f
    rw [if_pos rfl, if_pos rfl, if_pos rfl, if_pos rfl, show ((ms.length : Int) != (ms.length : Int)) = false by simp]
  · simp only [dataflowref39_Same.j0]; rw [if_neg (by simp)]; rfl
end Go.Proofs.YthfhbdncphkdaaaDoor.H

/- A run that is in the error state stays there, and each state before it is among those that can fail. -/
import Derived.Test.YthfhbdncphkdaaaDoorProDoomed
import Derived.Test.YthfhbdncphkdaaaDoorHf31
import Derived.Test.YthfhbdncphkdaaaDoorHf32
namespace Go.Proofs.YthfhbdncphkdaaaDoor.H
open Go.RowKit Go.Proofs.YthfhbdncphkdaaaDoorW.PrintWords
set_option linter.unusedVariables false
set_option linter.unusedSimpArgs false

theorem pass1_cases (d : List Bool) (m : S64) (h0 : 0 ≤ m.f0) (h1 : m.f0 < (d.length : Int)) : pass1 d m = d ∨ cntF (pass1 d m) + 1 = cntF d := by
  unfold pass1
  split
  · by_cases c : d[m.f0.toNat]'(by omega) = true
    · left; exact set_same d _ (by omega) c
    · right; exact cnt_set d _ (by omega) (by simpa using c)
  · left; rfl
theorem passF_le : ∀ (l : List S64) (d : List Bool), InM d.length l → cntF (passF l d) ≤ cntF d := by
  intro l
  induction l with
  | nil => intro d _; exact Nat.le_refl _
  | cons m r ih =>
    intro d h
    have hm := h m List.mem_cons_self
    have := ih (pass1 d m) (fun x hx => by rw [pass1_len]; exact h x (List.mem_cons_of_mem _ hx))
    unfold passF
    rcases pass1_cases d m hm.1 hm.2.1 with e | e
    · rw [e] at this ⊢; exact this
    · omega
theorem passF_fix : ∀ (l : List S64) (d : List Bool), InM d.length l → cntF d ≤ cntF (passF l d) → passF l d = d ∧ ∀ m ∈ l, pass1 d m = d := by
  intro l
  induction l with
  | nil => intro d _ _; exact ⟨rfl, fun m h => by cases h⟩
  | cons m r ih =>
    intro d h hc
    have hm := h m List.mem_cons_self
    have hr : InM (pass1 d m).length r := fun x hx => by rw [pass1_len]; exact h x (List.mem_cons_of_mem _ hx)
    have hle := passF_le r (pass1 d m) hr
    unfold passF at hc ⊢
    rcases pass1_cases d m hm.1 hm.2.1 with e | e
    · rw [e] at hc hle hr ⊢
      obtain ⟨h1, h2⟩ := ih d hr hc
      refine ⟨h1, fun x hx => ?_⟩
      rcases List.mem_cons.1 hx with rfl | hx
      · exact e
      · exact h2 x hx
    · omega
/-- After as many passes as there are states nothing changes any more. -/
theorem passN_fix (ms : List S64) : ∀ (n : Nat) (d : List Bool), InM d.length ms → cntF d ≤ n → passF ms (passN ms n d) = passN ms n d := by
  intro n
  induction n with
  | zero =>
    intro d h hc
    exact (passF_fix ms d h (by omega)).1
  | succ n ih =>
    intro d h hc
    by_cases c : cntF d ≤ cntF (passF ms d)
    · have e := (passF_fix ms d h c).1
      rw [pass_fix ms d e]; exact e
    · exact ih (passF ms d) (by rw [passF_len]; exact h) (by omega)
theorem pass1_true (d : List Bool) (m : S64) (i : Nat) (hi : i < d.length) (h : d[i] = true) : (pass1 d m)[i]'(by rw [pass1_len]; exact hi) = true := by
  unfold pass1
  split
  · rw [List.getElem_set]; split
    · rfl
    · exact h
  · exact h
theorem passF_true : ∀ (l : List S64) (d : List Bool) (i : Nat) (hi : i < d.length), d[i] = true → (passF l d)[i]'(by rw [passF_len]; exact hi) = true := by
  intro l
  induction l with
  | nil => intro d i hi h; exact h
  | cons m r ih => intro d i hi h; exact ih (pass1 d m) i (by rw [pass1_len]; exact hi) (pass1_true d m i hi h)
theorem passN_len' (ms : List S64) : ∀ (n : Nat) (d : List Bool), (passN ms n d).length = d.length := by
  intro n
  induction n with
  | zero => intro d; rfl
  | succ n ih => intro d; unfold passN; rw [ih, passF_len]
theorem passN_true (ms : List S64) : ∀ (n : Nat) (d : List Bool) (i : Nat) (hi : i < d.length), d[i] = true → (passN ms n d)[i]'(by rw [passN_len']; exact hi) = true := by
  intro n
  induction n with
  | zero => intro d i hi h; exact h
  | succ n ih => intro d i hi h; exact ih (passF ms d) i (by rw [passF_len]; exact hi) (passF_true ms d i hi h)
theorem collF_mem : ∀ (l : List Bool) (i : Nat) (acc : List Int), (∀ x ∈ acc, x ∈ collF l i acc) ∧ ∀ (j : Nat) (hj : j < l.length), l[j] = true → ((i + j : Nat) : Int) ∈ collF l i acc := by
  intro l
  induction l with
  | nil => intro i acc; exact ⟨fun x hx => hx, fun j hj => absurd hj (Nat.not_lt_zero _)⟩
  | cons b r ih =>
    intro i acc
    obtain ⟨h1, h2⟩ := ih (i + 1) (if b = true then acc ++ [(i : Int)] else acc)
    unfold collF
    refine ⟨fun x hx => h1 x ?_, fun j hj hb => ?_⟩
    · split
      · exact List.mem_append_left _ hx
      · exact hx
    · cases j with
      | zero =>
        have hb' : b = true := hb
        refine h1 _ ?_
        rw [if_pos hb']; exact List.mem_append_right _ (List.mem_singleton.2 rfl)
      | succ j =>
        have := h2 j (by simpa using hj) hb
        rw [show i + (j + 1) = i + 1 + j from by omega]; exact this
theorem stepL_from (m : ByteArray) : ∀ (l : List S64) (q : Int), stepL l q m = q ∨ ∃ x ∈ l, x.f0 = q ∧ stepL l q m = x.f2 := by
  intro l
  induction l with
  | nil => intro q; exact .inl rfl
  | cons x r ih =>
    intro q
    unfold stepL
    split
    · next h => exact .inr ⟨x, List.mem_cons_self, h.1, rfl⟩
    · rcases ih q with h | ⟨y, h1, h2, h3⟩
      · exact .inl h
      · exact .inr ⟨y, List.mem_cons_of_mem _ h1, h2, h3⟩
theorem runL_append (ms : List S64) : ∀ (a b : List ByteArray) (q : Int), runL ms q (a ++ b) = runL ms (runL ms q a) b := by
  intro a
  induction a with
  | nil => intro b q; rfl
  | cons x r ih => intro b q; exact ih b (stepL ms q x)
theorem runL_stays (ms : List S64) (er : Int) (h : ∀ x ∈ ms, x.f0 ≠ er) : ∀ (l : List ByteArray), runL ms er l = er := by
  intro l
  induction l with
  | nil => rfl
  | cons x r ih =>
    unfold runL
    rcases stepL_from x ms er with e | ⟨y, h1, h2, _⟩
    · rw [e]; exact ih
    · exact absurd h2 (h y h1)
/-- A state before a failing run can fail. -/
theorem runL_back (ms : List S64) (n : Nat) (d : List Bool) (hd : d.length = n) (hin : InM n ms) (hfix : ∀ m ∈ ms, pass1 d m = d) : ∀ (l : List ByteArray) (q : Int), 0 ≤ q → q < (n : Int) → rdOf false d (runL ms q l) = true → rdOf false d q = true := by
  intro l
  induction l with
  | nil => intro q _ _ h; exact h
  | cons m r ih =>
    intro q h0 h1 h
    have hs := stepL_range n m ms q (fun x hx => (hin x hx).2.2) h0 h1
    have h2 := ih (stepL ms q m) hs.1 hs.2 h
    rcases stepL_from m ms q with e | ⟨y, g1, g2, g3⟩
    · rw [e] at h2; exact h2
    · have hp := hfix y g1
      have hy := hin y g1
      rw [g3] at h2
      unfold pass1 at hp
      rw [if_pos h2] at hp
      have ht : (d.set y.f0.toNat true)[y.f0.toNat]'(by rw [List.length_set]; omega) = true := by rw [List.getElem_set, if_pos rfl]
      rw [← g2, rdB d y.f0 (by omega) (by omega)]
      have : ∀ (e : List Bool) (he : y.f0.toNat < e.length), e = d → e[y.f0.toNat] = true → d[y.f0.toNat]'(by omega) = true := by intro e he k1 k2; subst k1; exact k2
      exact this _ (by rw [List.length_set]; omega) hp ht
theorem runL_range (ms : List S64) (n : Int) (hin : ∀ x ∈ ms, 0 ≤ x.f2 ∧ x.f2 < n) : ∀ (l : List ByteArray) (q : Int), 0 ≤ q → q < n → 0 ≤ runL ms q l ∧ runL ms q l < n := by
  intro l
  induction l with
  | nil => intro q h0 h1; exact ⟨h0, h1⟩
  | cons m r ih => intro q h0 h1; have hs := stepL_range n m ms q hin h0 h1; exact ih _ hs.1 hs.2
/-- What the run does, of a protocol that is accepted. -/
theorem absorb {c : ByteArray} {ss : List ByteArray} {st er : Int} {ms : List S64} (h : checkF c ss st er ms = 0) (xs : List ByteArray) :
    (∀ a b, a ≤ b → runL ms st (xs.take a) = er → runL ms st (xs.take b) = er) ∧ ∀ a, runL ms st xs = er → runL ms st (xs.take a) ∈ doomF c ss st er ms := by
  have hin := doom_ready h
  obtain ⟨_, l1, l2, _, _, hr, _, hmv⟩ := checkF_zero h
  have hm := (mvF_zero _ _ _ _ hmv).1
  have hne : ∀ x ∈ ms, x.f0 ≠ er := fun x hx => (hm x hx).2.2.2.2.2
  refine ⟨fun a b hab ha => ?_, fun a ha => ?_⟩
  · have e : xs.take b = xs.take a ++ (xs.take b).drop a := by
      have := List.take_append_drop a (xs.take b)
      rw [List.take_take, Nat.min_eq_left hab] at this
      exact this.symm
    rw [e, runL_append, ha]; exact runL_stays ms er hne _
  · have hl : ((List.replicate ss.length false).set er.toNat true).length = ss.length := by simp
    have hc : cntF ((List.replicate ss.length false).set er.toNat true) ≤ ss.length := by
      unfold cntF
      have hc : ((List.replicate ss.length false).set er.toNat true).count false ≤ ((List.replicate ss.length false).set er.toNat true).length := List.count_le_length
      rw [hl] at hc; exact hc
    have hf := passN_fix ms ss.length _ (by rw [hl]; exact hin) hc
    have hlen := passN_len' ms ss.length ((List.replicate ss.length false).set er.toNat true)
    rw [hl] at hlen
    have hte : rdOf false (passN ms ss.length ((List.replicate ss.length false).set er.toNat true)) er = true := by
      rw [rdB _ er (by omega) (by omega)]
      exact passN_true ms ss.length ((List.replicate ss.length false).set er.toNat true) er.toNat (by rw [hl]; omega) (by rw [List.getElem_set, if_pos rfl])
    unfold doomF
    rw [if_pos h]
    revert hf hte hlen
    generalize passN ms ss.length ((List.replicate ss.length false).set er.toNat true) = D
    intro hf hlen hte
    have hfix := (passF_fix ms D (by rw [hlen]; exact hin) (by rw [hf]; exact Nat.le_refl _)).2
    have hq := runL_range ms ss.length (fun x hx => (hin x hx).2.2) (xs.take a) st hr.1 hr.2.1
    have hb := runL_back ms ss.length D hlen hin hfix (xs.drop a) (runL ms st (xs.take a)) hq.1 hq.2 (by
      rw [← runL_append, List.take_append_drop, ha]; exact hte)
    rw [rdB D _ hq.1 (by omega)] at hb
    have := (collF_mem D 0 []).2 _ (by omega) hb
    have e : ((0 + (runL ms st (xs.take a)).toNat : Nat) : Int) = runL ms st (xs.take a) := by omega
    rw [e] at this; exact this
end Go.Proofs.YthfhbdncphkdaaaDoor.H

/- For any findings and suppressions that are accepted, every finding is open or suppressed by the first suppression that applies, and none is lost: the pure statement of SuppressSplit. -/
import Derived.Test.YtnoangbidnigdaaDoorWalkSuppressSplit
import Derived.Test.YtnoangbidnigdaaDoorSupFind
namespace Go.Proofs.YtnoangbidnigdaaDoor.Pure
open Go.RowKit Go.Proofs.YtnoangbidnigdaaDoorW.PrintWords Go.Proofs.YtnoangbidnigdaaDoor.H
set_option linter.unusedVariables false
theorem usd_keep (M : List S23) (j : Nat) : ∀ (l : List S28) (u : List Bool), u[j]? = some true → (usdF M l u)[j]? = some true := by
  intro l
  induction l with
  | nil => intro u h; exact h
  | cons f l ih =>
    intro u h
    unfold usdF
    split
    · exact ih u h
    · refine ih _ ?_
      rw [List.getElem?_set]
      have hj : j < u.length := (List.getElem?_eq_some_iff.1 h).1
      split
      · rename_i e; rw [if_pos (by omega)]
      · exact h
theorem hid_used (M : List S23) : ∀ (l : List S28) (u : List Bool), u.length = M.length → ∀ y ∈ hidF M l, 0 ≤ y.f1 ∧ (usdF M l u)[y.f1.toNat]? = some true := by
  intro l
  induction l with
  | nil => intro u _ y hy; cases hy
  | cons f l ih =>
    intro u hu y hy
    unfold hidF at hy
    unfold usdF
    have hf := frst_in M f
    by_cases c : frst M f < 0
    · rw [if_pos c] at hy ⊢; exact ih u hu y hy
    · rw [if_neg c] at hy ⊢
      rcases List.mem_cons.1 hy with rfl | hy
      · refine ⟨by show 0 ≤ frst M f; omega, usd_keep M _ l _ ?_⟩
        show (u.set (frst M f).toNat true)[(frst M f).toNat]? = some true
        rw [List.getElem?_set, if_pos rfl, if_pos (by omega)]
      · exact ih _ (by rw [List.length_set]; exact hu) y hy
theorem unu_free : ∀ (u : List Bool) (i : Nat), ∀ x ∈ unuF u i, ∃ j : Nat, x = ((i + j : Nat) : Int) ∧ u[j]? = some false := by
  intro u
  induction u with
  | nil => intro i x hx; cases hx
  | cons b u ih =>
    intro i x hx
    unfold unuF at hx
    have hr : x ∈ unuF u (i + 1) → ∃ j : Nat, x = ((i + j : Nat) : Int) ∧ (b :: u)[j]? = some false := by
      intro h
      obtain ⟨j, h1, h2⟩ := ih (i + 1) x h
      exact ⟨j + 1, by rw [h1]; congr 1; omega, by rw [List.getElem?_cons_succ]; exact h2⟩
    cases b with
    | true => rw [if_pos rfl] at hx; exact hr hx
    | false =>
      rw [if_neg (by simp)] at hx
      rcases List.mem_cons.1 hx with rfl | hx
      · exact ⟨0, rfl, rfl⟩
      · exact hr hx
theorem SuppressSplit : dataflowlaw46_SuppressSplit.Pure := by
  intro L M hL hM hlen
  have haw : Ev (fun k => (dataflowlaw46_awake.f k).bind fun t => some t) true := Ev.bind awake46 (Ev.now _)
  obtain ⟨b, hb, hb2⟩ := size_ev L M hlen.1
  refine Ev.rounds (Ev.congr (f := fun k => (dataflowlaw46_size.f k L M).bind fun t => (if t = true then ((suppress_Apply.f k L M).bind fun x => ((dataflowref46_Apply.f k L M).bind fun y => (if y.2.2.2 = 0 then (if x.2.2.2 = 0 then (dataflowlaw46_SuppressSplit.j0 k L M ((wrap64 ((x.1.length : Int) + (x.2.1.length : Int))) != (L.length : Int)) x.1 x.2.1 x.2.2.1) else (dataflowlaw46_SuppressSplit.j0 k L M true x.1 x.2.1 x.2.2.1)) else (if x.2.2.2 = y.2.2.2 then ((dataflowlaw46_awake.f k).bind fun t2 => (some t2)) else (some false))))) else ((dataflowlaw46_awake.f k).bind fun t2 => (some t2)))) (fun k => rfl) (Ev.bind hb ?_))
  cases b with
  | false => exact Ev.congr (fun k => by rw [if_neg (by simp)]) haw
  | true =>
    obtain ⟨c1, c2⟩ := hb2 rfl
    have ok : Ok L M := ⟨c1, c2, hlen.2, fun x hx => ⟨⟨(hL x hx).2.1.1, (hL x hx).2.1.2.1⟩, (hL x hx).2.2.1, fun p hp => ⟨((hL x hx).2.2.2 p hp).1, ((hL x hx).2.2.2 p hp).2.1⟩⟩, fun n hn => (hM n hn).2⟩
    refine Ev.congr (fun k => by rw [if_pos rfl]) (Ev.bind (app_ev ok) (Ev.bind (rapp_ev ok) ?_))
    by_cases c : allE L M = 0
    · have hA : appF L M = (opnF M L, hidF M L, unuF (usdF M L (List.replicate M.length false)) 0, 0) := by unfold appF; rw [if_pos c]
      rw [hA]
      have h1 := oh_len M L
      have h2 := unu_len (usdF M L (List.replicate M.length false)) 0
      have h3 := usd_len M L (List.replicate M.length false)
      rw [List.length_replicate] at h3
      have h4 := cks_len L (allE_z c)
      have hne : ∀ x ∈ unuF (usdF M L (List.replicate M.length false)) 0, ∀ y ∈ hidF M L, y.f1 ≠ x := by
        intro x hx y hy e
        obtain ⟨y0, y1⟩ := hid_used M L (List.replicate M.length false) (List.length_replicate ..) y hy
        obtain ⟨j, e1, e2⟩ := unu_free _ 0 x hx
        rw [e, e1, Nat.zero_add, Int.toNat_natCast, e2] at y1
        cases y1
      have ew : (wrap64 (((opnF M L).length : Int) + ((hidF M L).length : Int)) != (L.length : Int)) = false := by
        rw [w64 (by omega) (by omega), bne_eq_false_iff_eq]; omega
      obtain ⟨o, ho⟩ : ∃ o, o = opnF M L := ⟨_, rfl⟩
      obtain ⟨h, hh⟩ : ∃ h, h = hidF M L := ⟨_, rfl⟩
      obtain ⟨n, hn⟩ : ∃ n, n = unuF (usdF M L (List.replicate M.length false)) 0 := ⟨_, rfl⟩
      refine Ev.congr (f := fun k => dataflowlaw46_SuppressSplit.j0 k L M false o h n) (fun k => by rw [if_pos rfl, if_pos rfl, ew, ho, hh, hn]) ?_
      rw [← ho, ← hh] at h1
      rw [← hn] at h2 hne
      rw [← hh] at hne
      have k1 : ∀ (r : List Int) (i : Nat), n.drop i = r → Ev (fun k => dataflowlaw46_SuppressSplit.l1 k i o h n) true := by
        intro r
        induction r with
        | nil =>
          intro i hd
          have := gend _ i hd
          exact Ev.step (f := fun k => (dataflowlaw46_awake.f k).bind fun t => some t) (fun k => by simp only [dataflowlaw46_SuppressSplit.l1]; rw [if_neg (by omega)]) haw
        | cons x r ih =>
          intro i hd
          obtain ⟨g1, g2, g3⟩ := gdrop 0 n i x r hd
          have g1' : rd n (i : Int) = x := g1
          have hx := hne x (mem_drop1 hd)
          have k2 : ∀ (q : List S53) (j : Nat), h.drop j = q → Ev (fun k => dataflowlaw46_SuppressSplit.l2 k i j o h n) true := by
            intro q
            induction q with
            | nil =>
              intro j hq
              have := gend _ j hq
              exact Ev.step (fun k => by simp only [dataflowlaw46_SuppressSplit.l2]; rw [if_neg (by omega), nx i (by omega)]) (ih (i + 1) g3)
            | cons y q ihq =>
              intro j hq
              obtain ⟨f1, f2, f3⟩ := gdrop z53 h j y q hq
              have f1' : rd_T53 h (j : Int) = y := f1
              have hy := hx y (mem_drop1 hq)
              exact Ev.step (fun k => by simp only [dataflowlaw46_SuppressSplit.l2]; rw [if_pos (by omega), if_pos (by omega), if_pos (by omega), if_pos (by omega), f1', g1', if_neg hy, nx j (by omega)]) (ihq (j + 1) f3)
          exact Ev.step (f := fun k => dataflowlaw46_SuppressSplit.l2 k i ((0 : Nat) : Int) o h n) (fun k => by simp only [dataflowlaw46_SuppressSplit.l1]; rw [if_pos (by omega)]; rfl) (k2 h 0 rfl)
      have k0 : ∀ (l : List S28) (p a b : Nat), L.drop p = l → o.drop a = opnF M l → h.drop b = hidF M l → Ev (fun k => dataflowlaw46_SuppressSplit.l0 k L M a b p o h n) true := by
        intro l
        induction l with
        | nil =>
          intro p a b hd _ _
          have := gend _ p hd
          exact Ev.step (f := fun k => dataflowlaw46_SuppressSplit.l1 k ((0 : Nat) : Int) o h n) (fun k => by simp only [dataflowlaw46_SuppressSplit.l0]; rw [if_neg (by omega)]; rfl) (k1 n 0 rfl)
        | cons f r ih =>
          intro p a b hd ha hb
          obtain ⟨g1, g2, g3⟩ := gdrop z28 L p f r hd
          have g1' : rd_T28 L (p : Int) = f := g1
          have hc := rcmp_ev f f (by have := h4 f (mem_drop1 hd); omega)
          rw [cmpF_self] at hc
          unfold opnF at ha
          unfold hidF at hb
          have hfst := frst_in M f
          refine Ev.step (fun k => ?_) (Ev.bind (f := ?g) (rfst_ev M c2 f) ?_)
          case g => exact fun k t => (if t < 0 then (if (a : Int) ≥ (o.length : Int) then (dataflowlaw46_SuppressSplit.j2 k L M a b p true o h n) else (if 0 ≤ (a : Int) then (if (a : Int) < (o.length : Int) then ((dataflowref45_Compare.f k ((rd_T28 o a).f0) ((rd_T28 o a).f1.f0) ((rd_T28 o a).f1.f1) ((rd_T28 o a).f1.f2) ((rd_T28 o a).f2) ((rd_T28 o a).f3) f.f0 f.f1.f0 f.f1.f1 f.f1.f2 f.f2 f.f3).bind fun t8030 => (dataflowlaw46_SuppressSplit.j2 k L M a b p (t8030 != 0) o h n)) else (none)) else (none))) else (if (b : Int) ≥ (h.length : Int) then (some false) else (if 0 ≤ (b : Int) then (if (b : Int) < (h.length : Int) then ((dataflowref45_Compare.f k ((rd_T53 h b).f0.f0) ((rd_T53 h b).f0.f1.f0) ((rd_T53 h b).f0.f1.f1) ((rd_T53 h b).f0.f1.f2) ((rd_T53 h b).f0.f2) ((rd_T53 h b).f0.f3) f.f0 f.f1.f0 f.f1.f1 f.f1.f2 f.f2 f.f3).bind fun t8033 => (if t8033 = 0 then (if ((rd_T53 h b).f1) = t then (dataflowlaw46_SuppressSplit.l0 k L M a (wrap64 ((b : Int) + 1)) (wrap64 ((p : Int) + 1)) o h n) else (some false)) else (some false))) else (none)) else (none))))
          · simp only [dataflowlaw46_SuppressSplit.l0]; rw [if_pos (by omega), if_pos (by omega), g1']
          · by_cases ct : frst M f < 0
            · rw [if_pos ct] at ha hb
              obtain ⟨a1, a2, a3⟩ := gdrop z28 o a f _ ha
              have a1' : rd_T28 o (a : Int) = f := a1
              refine Ev.congr (fun k => by rw [if_pos ct, if_neg (by omega), if_pos (by omega), if_pos (by omega), a1']) (Ev.bind hc ?_)
              exact Ev.step (fun k => by simp only [dataflowlaw46_SuppressSplit.j2]; rw [if_neg (by simp), nx a (by omega), nx p (by omega)]) (ih (p + 1) (a + 1) b g3 a3 hb)
            · rw [if_neg ct] at ha hb
              obtain ⟨b1, b2, b3⟩ := gdrop z53 h b _ _ hb
              have b1' : rd_T53 h (b : Int) = ⟨f, frst M f⟩ := b1
              refine Ev.congr (fun k => by rw [if_neg ct, if_neg (by omega), if_pos (by omega), if_pos (by omega), b1']) (Ev.bind hc ?_)
              exact Ev.congr (fun k => by rw [if_pos rfl, if_pos rfl, nx b (by omega), nx p (by omega)]) (ih (p + 1) a (b + 1) g3 ha b3)
      exact Ev.step (f := fun k => dataflowlaw46_SuppressSplit.l0 k L M ((0 : Nat) : Int) ((0 : Nat) : Int) ((0 : Nat) : Int) o h n) (fun k => by simp only [dataflowlaw46_SuppressSplit.j0]; rw [if_neg (by simp)]; rfl) (k0 L 0 0 0 rfl ho hh)
    · have hA : appF L M = ([], [], [], allE L M) := by unfold appF; rw [if_neg c]
      rw [hA]
      exact Ev.congr (fun k => by rw [if_neg c, if_pos rfl]) haw
end Go.Proofs.YtnoangbidnigdaaDoor.Pure

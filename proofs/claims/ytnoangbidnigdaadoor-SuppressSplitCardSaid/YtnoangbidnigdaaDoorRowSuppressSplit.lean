/- The law SuppressSplit: the row of the statement, out of its pure statement and its walk. -/
import Derived.Test.YtnoangbidnigdaaDoorRowKitS
import Derived.Test.YtnoangbidnigdaaDoorWalkSuppressSplit
import Derived.Test.YtnoangbidnigdaaDoorPureSuppressSplit
namespace Go.Proofs.YtnoangbidnigdaaDoor.suppressSplit
open Go.ChangeShapes Go.WideShapes Go.ChangeAt Go.RowKit Go.Proofs.YtnoangbidnigdaaDoorW.PrintWords
open Go.ChangeMaps (open_string shut_string)
set_option linter.unusedVariables false
set_option maxHeartbeats 4000000 in
set_option maxRecDepth 100000 in
theorem lifted (os : Os) (started : os.Started) (H0 : Type) (enc : TypeId × Value → H0) :
    ReturnsInHanded {} Tryd.checked os 7 .any (fun w args => (Rows.suppressSplitSpec.pre enc Tryd.prog Tryd.f7 Rows.suppressSplitRow.domain false w args ∧ laidMetH Tryd.prog KS.laidSup w) ∧ sizedMet enc Tryd.prog Tryd.f7 (OpenSpec.ofChange Rows.suppressSplitSpec) false w args) (Rows.suppressSplitSpec.post enc Tryd.prog Tryd.f7 false true false false) := by
  refine KS.wrap_laid (C := Tryd.checked) (X := fun w _ => laidMetH Tryd.prog KS.laidSup w) (fun _ _ _ hh h => h.of_heap hh) KS.own started (by kernel_rfl) Tryd.func7
    (ChangeSpec.witness_shaped (enc := enc) (C := Tryd.checked) (os := os) (X := fun w _ => laidMetH Tryd.prog KS.laidSup w) false (KS.sup_world os) #[.slice none 0 0, .slice none 0 0] 8 rfl (World.shaped_of_RefB (by kernel_rfl) (by kernel_rfl)) (by kernel_rfl) (by kernel_rfl) (by kernel_rfl) (KS.sup_met os _)) ?_
  intro W base args ds gs before hval0 hW hsz0 hL hshape
  have hval : ∀ (j : Nat) t v, Tryd.f7.params[j]? = some t → args[j]? = some v → Value.okWide Tryd.prog W .any base t v := hval0
  have hW' := hW
  obtain ⟨p, q, hA0, hV, rfl, hfz, hnd⟩ := hW
  have hA : DataW.TrodAll enc Tryd.prog W 0 (fun _ => true) true Tryd.f7.params.toList args.toList ds p := hA0
  rw [Tryd.params7] at hA hval
  obtain ⟨v0, vs0, d0, ds0, p0, q0, hargs, rfl, rfl, h0, r0⟩ := trodAll_cons hA
  obtain ⟨v1, vs1, d1, ds1, p1, q1, rfl, rfl, rfl, h1, r1⟩ := trodAll_cons r0
  obtain ⟨rfl, rfl, rfl⟩ := trodAll_nil r1
  obtain rfl : args = #[v0, v1] := by cases args; simp_all
  obtain ⟨rfl, rfl⟩ := trodVars_none hV
  clear hA0 hval0 hsz0
  have k0 := h0
  have lt0 : ∀ x ∈ p0, x.block < W.heap.size := by obtain ⟨m, hm⟩ := k0; exact DataW.trod_lt m _ _ _ hm
  obtain ⟨fuel0, hf0⟩ := h0
  obtain ⟨b0, len0, cap0, rfl⟩ := okWide_slice Tryd.underlying41 (hval 0 41 v0 rfl rfl)
  obtain ⟨l0, ⟨A0, c0, e0, hc0, hr0⟩, w0⟩ := ((O.opens_slice Tryd.underlying41 (by kernel_rfl) (O.opens_iso (d := (Kd.pair (Kd.int .i64) (Kd.pair H.k25 (Kd.pair Kd.string (Kd.slice 25 H.k25))))) (f := fun x : H.S28 => (x.f0, x.f1, x.f2, x.f3)) (fun a => ⟨a.1, a.2.1, a.2.2.1, a.2.2.2⟩) (fun _ => rfl) (O.opens_struct Tryd.underlying28 (by kernel_rfl) (O.opensF_pair (O.opens_int Tryd.underlying3) rfl (by kernel_rfl) (O.opensF_pair (O.opens_iso (d := (Kd.pair Kd.string (Kd.pair Kd.string (Kd.int .i64)))) (f := fun x : H.S25 => (x.f0, x.f1, x.f2)) (fun a => ⟨a.1, a.2.1, a.2.2⟩) (fun _ => rfl) (O.opens_struct Tryd.underlying25 (by kernel_rfl) (O.opensF_pair (O.opens_string Tryd.underlying9) rfl (by kernel_rfl) (O.opensF_pair (O.opens_string Tryd.underlying9) rfl (by kernel_rfl) (O.opensF_one (O.opens_int Tryd.underlying3) rfl (by kernel_rfl)))))) rfl (by kernel_rfl) (O.opensF_pair (O.opens_string Tryd.underlying9) rfl (by kernel_rfl) (O.opensF_one (O.opens_slice Tryd.underlying26 (by kernel_rfl) (O.opens_iso (d := (Kd.pair Kd.string (Kd.pair Kd.string (Kd.int .i64)))) (f := fun x : H.S25 => (x.f0, x.f1, x.f2)) (fun a => ⟨a.1, a.2.1, a.2.2⟩) (fun _ => rfl) (O.opens_struct Tryd.underlying25 (by kernel_rfl) (O.opensF_pair (O.opens_string Tryd.underlying9) rfl (by kernel_rfl) (O.opensF_pair (O.opens_string Tryd.underlying9) rfl (by kernel_rfl) (O.opensF_one (O.opens_int Tryd.underlying3) rfl (by kernel_rfl))))))) rfl (by kernel_rfl)))))))) : O.Opens enc Tryd.prog W (Kd.slice 28 H.k28) 41 _) fuel0 _ _ hf0
  have e0' : (Value.slice b0 len0 cap0) = .slice A0 l0.length c0 := (List.cons.inj e0).1
  clear e0
  injection e0' with z0 z1 z2
  obtain rfl := z0.symm
  obtain rfl := z2.symm
  subst z1
  have k1 := h1
  have lt1 : ∀ x ∈ p1, x.block < W.heap.size := by obtain ⟨m, hm⟩ := k1; exact DataW.trod_lt m _ _ _ hm
  obtain ⟨fuel1, hf1⟩ := h1
  obtain ⟨b1, len1, cap1, rfl⟩ := okWide_slice Tryd.underlying33 (hval 1 33 v1 rfl rfl)
  obtain ⟨l1, ⟨A1, c1, e1, hc1, hr1⟩, w1⟩ := ((O.opens_slice Tryd.underlying33 (by kernel_rfl) (O.opens_iso (d := (Kd.pair (Kd.int .i64) (Kd.pair Kd.string (Kd.pair Kd.string (Kd.pair Kd.string Kd.string))))) (f := fun x : H.S23 => (x.f0, x.f1, x.f2, x.f3, x.f4)) (fun a => ⟨a.1, a.2.1, a.2.2.1, a.2.2.2.1, a.2.2.2.2⟩) (fun _ => rfl) (O.opens_struct Tryd.underlying23 (by kernel_rfl) (O.opensF_pair (O.opens_int Tryd.underlying3) rfl (by kernel_rfl) (O.opensF_pair (O.opens_string Tryd.underlying9) rfl (by kernel_rfl) (O.opensF_pair (O.opens_string Tryd.underlying9) rfl (by kernel_rfl) (O.opensF_pair (O.opens_string Tryd.underlying9) rfl (by kernel_rfl) (O.opensF_one (O.opens_string Tryd.underlying9) rfl (by kernel_rfl))))))))) : O.Opens enc Tryd.prog W (Kd.slice 23 H.k23) 33 _) fuel1 _ _ hf1
  have e1' : (Value.slice b1 len1 cap1) = .slice A1 l1.length c1 := (List.cons.inj e1).1
  clear e1
  injection e1' with z0 z1 z2
  obtain rfl := z0.symm
  obtain rfl := z2.symm
  subst z1
  refine (H.dataflowlaw46_SuppressSplit.walk Pure.SuppressSplit A0 c0 l0 A1 c1 l1 W hr0 hc0 hr1 hc1 (KS.gh_of_sup hL hshape) w0 w1).mono fun e W' ⟨he, bel⟩ => ?_
  subst he
  exact ⟨_, rfl, _, _, _, [], _, [], hW', trodAll_mk1 (shut_bool Tryd.underlying4 _), (trodAll_cons_mk (Below.trod KS.laidOut (by kernel_rfl) (of_decide_eq_true (by kernel_rfl)) k0 bel lt0) (trodAll_cons_mk (Below.trod KS.laidOut (by kernel_rfl) (of_decide_eq_true (by kernel_rfl)) k1 bel lt1) trodAll_mk0)), rfl, bel.frame _, fun h => by cases h⟩
theorem over : Rows.suppressSplitRow.holds Tryd.pinned (OpenSpec.ofChange Rows.suppressSplitSpec) :=
  OpenClaim.holds_of_wide 7 Tryd.f7 rfl rfl rfl rfl rfl rfl rfl ⟨rfl, rfl, rfl, rfl, rfl⟩ rfl rfl rfl rfl rfl (by kernel_rfl) Tryd.func7 (by kernel_rfl)
    (of_decide_eq_true (by kernel_rfl)) (by unfold Func.isWrapper; first | (rw [if_pos (by decide +kernel)]; kernel_rfl) | (rw [if_neg (by decide +kernel)]; exact ⟨rfl, rfl⟩))
    (fun os started H enc _ => lifted os started H enc)
theorem proved : Rows.SuppressSplitSaid := over
end Go.Proofs.YtnoangbidnigdaaDoor.suppressSplit

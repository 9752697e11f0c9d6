/- The law SuppressTells: the row of the statement, out of its pure statement and its walk. -/
import Derived.Test.YtnoangbidnigdaaDoorRowKitS
import Derived.Test.YtnoangbidnigdaaDoorWalkSuppressTells
import Derived.Test.YtnoangbidnigdaaDoorPureSuppressTells
namespace Go.Proofs.YtnoangbidnigdaaDoor.suppressTells
open Go.ChangeShapes Go.WideShapes Go.ChangeAt Go.RowKit Go.Proofs.YtnoangbidnigdaaDoorW.PrintWords
open Go.ChangeMaps (open_string shut_string)
set_option linter.unusedVariables false
set_option maxHeartbeats 4000000 in
set_option maxRecDepth 100000 in
theorem lifted (os : Os) (started : os.Started) (H0 : Type) (enc : TypeId × Value → H0) :
    ReturnsInHanded {} Tryd.checked os 3 .any (fun w args => (Rows.suppressTellsSpec.pre enc Tryd.prog Tryd.f3 Rows.suppressTellsRow.domain false w args ∧ laidMetH Tryd.prog KS.laidSup w) ∧ sizedMet enc Tryd.prog Tryd.f3 (OpenSpec.ofChange Rows.suppressTellsSpec) false w args) (Rows.suppressTellsSpec.post enc Tryd.prog Tryd.f3 false true false false) := by
  refine KS.wrap_laid (C := Tryd.checked) (X := fun w _ => laidMetH Tryd.prog KS.laidSup w) (fun _ _ _ hh h => h.of_heap hh) KS.own started (by kernel_rfl) Tryd.func3
    (ChangeSpec.witness_shaped (enc := enc) (C := Tryd.checked) (os := os) (X := fun w _ => laidMetH Tryd.prog KS.laidSup w) false (KS.sup_world os) #[.agg #[.int .i64 0, .string ByteArray.empty, .string ByteArray.empty, .string ByteArray.empty, .string ByteArray.empty], .agg #[.int .i64 0, .string ByteArray.empty, .string ByteArray.empty, .int .i64 0, .string ByteArray.empty, .slice none 0 0]] 8 rfl (World.shaped_of_RefB (by kernel_rfl) (by kernel_rfl)) (by kernel_rfl) (by kernel_rfl) (by kernel_rfl) (KS.sup_met os _)) ?_
  intro W base args ds gs before hval0 hW hsz0 hL hshape
  have hval : ∀ (j : Nat) t v, Tryd.f3.params[j]? = some t → args[j]? = some v → Value.okWide Tryd.prog W .any base t v := hval0
  have hW' := hW
  obtain ⟨p, q, hA0, hV, rfl, hfz, hnd⟩ := hW
  have hA : DataW.TrodAll enc Tryd.prog W 0 (fun _ => true) true Tryd.f3.params.toList args.toList ds p := hA0
  rw [Tryd.params3] at hA hval
  obtain ⟨v0, vs0, d0, ds0, p0, q0, hargs, rfl, rfl, h0, r0⟩ := trodAll_cons hA
  obtain ⟨v1, vs1, d1, ds1, p1, q1, rfl, rfl, rfl, h1, r1⟩ := trodAll_cons r0
  obtain ⟨rfl, rfl, rfl⟩ := trodAll_nil r1
  obtain rfl : args = #[v0, v1] := by cases args; simp_all
  obtain ⟨rfl, rfl⟩ := trodVars_none hV
  clear hA0 hval0 hsz0
  have k0 := h0
  have lt0 : ∀ x ∈ p0, x.block < W.heap.size := by obtain ⟨m, hm⟩ := k0; exact DataW.trod_lt m _ _ _ hm
  obtain ⟨fuel0, hf0⟩ := h0
  obtain ⟨cs0, rfl, _⟩ := okWide_struct Tryd.underlying23 (hval 0 23 v0 rfl rfl)
  obtain ⟨⟨a0_0, a0_1, a0_2, a0_3, a0_4⟩, K0, w0⟩ := ((O.opens_struct Tryd.underlying23 (by kernel_rfl) (O.opensF_pair (O.opens_int Tryd.underlying3) rfl (by kernel_rfl) (O.opensF_pair (O.opens_string Tryd.underlying9) rfl (by kernel_rfl) (O.opensF_pair (O.opens_string Tryd.underlying9) rfl (by kernel_rfl) (O.opensF_pair (O.opens_string Tryd.underlying9) rfl (by kernel_rfl) (O.opensF_one (O.opens_string Tryd.underlying9) rfl (by kernel_rfl))))))) : O.Opens enc Tryd.prog W (Kd.pair (Kd.int .i64) (Kd.pair Kd.string (Kd.pair Kd.string (Kd.pair Kd.string Kd.string)))) 23 _) fuel0 _ _ hf0
  obtain ⟨_, _, e0, rfl, ⟨_, _, rfl, rfl, ⟨_, _, rfl, rfl, ⟨_, _, rfl, rfl, rfl⟩⟩⟩⟩ := K0
  obtain rfl : cs0 = #[.int .i64 a0_0, .string a0_1, .string a0_2, .string a0_3, .string a0_4] := Array.toList_inj.1 e0
  have k1 := h1
  have lt1 : ∀ x ∈ p1, x.block < W.heap.size := by obtain ⟨m, hm⟩ := k1; exact DataW.trod_lt m _ _ _ hm
  obtain ⟨fuel1, hf1⟩ := h1
  obtain ⟨cs1, rfl, _⟩ := okWide_struct Tryd.underlying28 (hval 1 28 v1 rfl rfl)
  obtain ⟨⟨a1_0, ⟨a1_1, a1_2, a1_3⟩, a1_4, l1_5⟩, K1, w1⟩ := ((O.opens_struct Tryd.underlying28 (by kernel_rfl) (O.opensF_pair (O.opens_int Tryd.underlying3) rfl (by kernel_rfl) (O.opensF_pair (O.opens_iso (d := (Kd.pair Kd.string (Kd.pair Kd.string (Kd.int .i64)))) (f := fun x : H.S25 => (x.f0, x.f1, x.f2)) (fun a => ⟨a.1, a.2.1, a.2.2⟩) (fun _ => rfl) (O.opens_struct Tryd.underlying25 (by kernel_rfl) (O.opensF_pair (O.opens_string Tryd.underlying9) rfl (by kernel_rfl) (O.opensF_pair (O.opens_string Tryd.underlying9) rfl (by kernel_rfl) (O.opensF_one (O.opens_int Tryd.underlying3) rfl (by kernel_rfl)))))) rfl (by kernel_rfl) (O.opensF_pair (O.opens_string Tryd.underlying9) rfl (by kernel_rfl) (O.opensF_one (O.opens_slice Tryd.underlying26 (by kernel_rfl) (O.opens_iso (d := (Kd.pair Kd.string (Kd.pair Kd.string (Kd.int .i64)))) (f := fun x : H.S25 => (x.f0, x.f1, x.f2)) (fun a => ⟨a.1, a.2.1, a.2.2⟩) (fun _ => rfl) (O.opens_struct Tryd.underlying25 (by kernel_rfl) (O.opensF_pair (O.opens_string Tryd.underlying9) rfl (by kernel_rfl) (O.opensF_pair (O.opens_string Tryd.underlying9) rfl (by kernel_rfl) (O.opensF_one (O.opens_int Tryd.underlying3) rfl (by kernel_rfl))))))) rfl (by kernel_rfl)))))) : O.Opens enc Tryd.prog W (Kd.pair (Kd.int .i64) (Kd.pair H.k25 (Kd.pair Kd.string (Kd.slice 25 H.k25)))) 28 _) fuel1 _ _ hf1
  obtain ⟨_, _, e1, rfl, ⟨_, _, rfl, ⟨_, _, rfl, rfl, ⟨_, _, rfl, rfl, rfl⟩⟩, ⟨_, _, rfl, rfl, ⟨A1_5, c1_5, rfl, hc1_5, hr1_5⟩⟩⟩⟩ := K1
  obtain rfl : cs1 = #[.int .i64 a1_0, .string a1_1, .string a1_2, .int .i64 a1_3, .string a1_4, .slice A1_5 l1_5.length c1_5] := Array.toList_inj.1 e1
  refine (H.dataflowlaw46_SuppressTells.walk Pure.SuppressTells a0_0 a0_1 a0_2 a0_3 a0_4 a1_0 a1_1 a1_2 a1_3 a1_4 A1_5 c1_5 l1_5 W hr1_5 hc1_5 (KS.gh_of_sup hL hshape) w0 w1).mono fun e W' ⟨he, bel⟩ => ?_
  subst he
  exact ⟨_, rfl, _, _, _, [], _, [], hW', trodAll_mk1 (shut_bool Tryd.underlying4 _), (trodAll_cons_mk (Below.trod KS.laidOut (by kernel_rfl) (of_decide_eq_true (by kernel_rfl)) k0 bel lt0) (trodAll_cons_mk (Below.trod KS.laidOut (by kernel_rfl) (of_decide_eq_true (by kernel_rfl)) k1 bel lt1) trodAll_mk0)), rfl, bel.frame _, fun h => by cases h⟩
theorem over : Rows.suppressTellsRow.holds Tryd.pinned (OpenSpec.ofChange Rows.suppressTellsSpec) :=
  OpenClaim.holds_of_wide 3 Tryd.f3 rfl rfl rfl rfl rfl rfl rfl ⟨rfl, rfl, rfl, rfl, rfl⟩ rfl rfl rfl rfl rfl (by kernel_rfl) Tryd.func3 (by kernel_rfl)
    (of_decide_eq_true (by kernel_rfl)) (by unfold Func.isWrapper; first | (rw [if_pos (by decide +kernel)]; kernel_rfl) | (rw [if_neg (by decide +kernel)]; exact ⟨rfl, rfl⟩))
    (fun os started H enc _ => lifted os started H enc)
theorem proved : Rows.SuppressTellsSaid := over
end Go.Proofs.YtnoangbidnigdaaDoor.suppressTells

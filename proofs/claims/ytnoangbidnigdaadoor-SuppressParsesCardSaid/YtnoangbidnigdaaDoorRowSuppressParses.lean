/- The law SuppressParses: the row of the statement, out of its pure statement and its walk. -/
import Derived.Test.YtnoangbidnigdaaDoorRowKitS
import Derived.Test.YtnoangbidnigdaaDoorWalkSuppressParses
import Derived.Test.YtnoangbidnigdaaDoorPureSuppressParses
namespace Go.Proofs.YtnoangbidnigdaaDoor.suppressParses
open Go.ChangeShapes Go.WideShapes Go.ChangeAt Go.RowKit Go.Proofs.YtnoangbidnigdaaDoorW.PrintWords
open Go.ChangeMaps (open_string shut_string)
set_option linter.unusedVariables false
set_option maxHeartbeats 4000000 in
set_option maxRecDepth 100000 in
theorem lifted (os : Os) (started : os.Started) (H0 : Type) (enc : TypeId × Value → H0) :
    ReturnsInHanded {} Tryd.checked os 5 .any (fun w args => (Rows.suppressParsesSpec.pre enc Tryd.prog Tryd.f5 Rows.suppressParsesRow.domain false w args ∧ laidMetH Tryd.prog KS.laidSup w) ∧ sizedMet enc Tryd.prog Tryd.f5 (OpenSpec.ofChange Rows.suppressParsesSpec) false w args) (Rows.suppressParsesSpec.post enc Tryd.prog Tryd.f5 false true false false) := by
  refine KS.wrap_laid (C := Tryd.checked) (X := fun w _ => laidMetH Tryd.prog KS.laidSup w) (fun _ _ _ hh h => h.of_heap hh) KS.own started (by kernel_rfl) Tryd.func5
    (ChangeSpec.witness_shaped (enc := enc) (C := Tryd.checked) (os := os) (X := fun w _ => laidMetH Tryd.prog KS.laidSup w) false (KS.sup_world os) #[.string ByteArray.empty] 8 rfl (World.shaped_of_RefB (by kernel_rfl) (by kernel_rfl)) (by kernel_rfl) (by kernel_rfl) (by kernel_rfl) (KS.sup_met os _)) ?_
  intro W base args ds gs before hval0 hW hsz0 hL hshape
  have hval : ∀ (j : Nat) t v, Tryd.f5.params[j]? = some t → args[j]? = some v → Value.okWide Tryd.prog W .any base t v := hval0
  have hW' := hW
  obtain ⟨p, q, hA0, hV, rfl, hfz, hnd⟩ := hW
  have hA : DataW.TrodAll enc Tryd.prog W 0 (fun _ => true) true Tryd.f5.params.toList args.toList ds p := hA0
  rw [Tryd.params5] at hA hval
  obtain ⟨v0, vs0, d0, ds0, p0, q0, hargs, rfl, rfl, h0, r0⟩ := trodAll_cons hA
  obtain ⟨rfl, rfl, rfl⟩ := trodAll_nil r0
  obtain rfl : args = #[v0] := by cases args; simp_all
  obtain ⟨rfl, rfl⟩ := trodVars_none hV
  clear hA0 hval0 hsz0
  have w0 : ∀ s : ByteArray, v0 = .string s → s.size ≤ 9223372036854775807 := by
    intro s e; subst e
    obtain ⟨fuel, hf⟩ := h0
    obtain ⟨s', e, _, hs⟩ := DataW.trod_string Tryd.underlying9 hf
    have e1 : s = s' := by simpa [Value.cells] using e
    rw [e1]; exact hs
  obtain ⟨a0, rfl, rfl, rfl, y0⟩ := open_string Tryd.underlying9 (hval 0 9 v0 rfl rfl) h0
  replace w0 := w0 _ rfl
  refine (H.dataflowlaw46_SuppressParses.walk Pure.SuppressParses a0 W  (KS.gh_of_sup hL hshape) w0).mono fun e W' ⟨he, bel⟩ => ?_
  subst he
  exact ⟨_, rfl, _, _, _, [], _, [], hW', trodAll_mk1 (shut_bool Tryd.underlying4 _), (trodAll_cons_mk (shut_string Tryd.underlying9 y0) trodAll_mk0), rfl, bel.frame _, fun h => by cases h⟩
theorem over : Rows.suppressParsesRow.holds Tryd.pinned (OpenSpec.ofChange Rows.suppressParsesSpec) :=
  OpenClaim.holds_of_wide 5 Tryd.f5 rfl rfl rfl rfl rfl rfl rfl ⟨rfl, rfl, rfl, rfl, rfl⟩ rfl rfl rfl rfl rfl (by kernel_rfl) Tryd.func5 (by kernel_rfl)
    (of_decide_eq_true (by kernel_rfl)) (by unfold Func.isWrapper; first | (rw [if_pos (by decide +kernel)]; kernel_rfl) | (rw [if_neg (by decide +kernel)]; exact ⟨rfl, rfl⟩))
    (fun os started H enc _ => lifted os started H enc)
theorem proved : Rows.SuppressParsesSaid := over
end Go.Proofs.YtnoangbidnigdaaDoor.suppressParses

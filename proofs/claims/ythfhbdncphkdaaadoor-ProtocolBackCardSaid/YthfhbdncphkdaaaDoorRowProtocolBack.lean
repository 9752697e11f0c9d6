/- The law ProtocolBack: the row of the statement, out of its pure statement and its walk. -/
import Derived.Test.YthfhbdncphkdaaaDoorRowKitP
import Derived.Test.YthfhbdncphkdaaaDoorWalkProtocolBack
import Derived.Test.YthfhbdncphkdaaaDoorPureProtocolBack
namespace Go.Proofs.YthfhbdncphkdaaaDoor.protocolBack
open Go.ChangeShapes Go.WideShapes Go.ChangeAt Go.RowKit Go.Proofs.YthfhbdncphkdaaaDoorW.PrintWords
open Go.ChangeMaps (open_string shut_string)
set_option linter.unusedVariables false
set_option maxHeartbeats 4000000 in
set_option maxRecDepth 100000 in
theorem lifted (os : Os) (started : os.Started) (H0 : Type) (enc : TypeId × Value → H0) :
    ReturnsInHanded {} Tryd.checked os 11 .any (fun w args => (Rows.protocolBackSpec.pre enc Tryd.prog Tryd.f11 Rows.protocolBackRow.domain false w args ∧ laidMetH Tryd.prog KP.laidTx w) ∧ sizedMet enc Tryd.prog Tryd.f11 (OpenSpec.ofChange Rows.protocolBackSpec) false w args) (Rows.protocolBackSpec.post enc Tryd.prog Tryd.f11 false true false false) := by
  refine KP.wrap_laid (C := Tryd.checked) (X := fun w _ => laidMetH Tryd.prog KP.laidTx w) (fun _ _ _ hh h => h.of_heap hh) KP.own started (by kernel_rfl) Tryd.func11
    (ChangeSpec.witness_shaped (enc := enc) (C := Tryd.checked) (os := os) (X := fun w _ => laidMetH Tryd.prog KP.laidTx w) false (KP.tx_world os) #[.agg #[.string ByteArray.empty, .slice none 0 0, .int .i64 0, .int .i64 0, .slice none 0 0]] 8 rfl (World.shaped_of_RefB (by kernel_rfl) (by kernel_rfl)) (by kernel_rfl) (by kernel_rfl) (by kernel_rfl) (KP.tx_met os _)) ?_
  intro W base args ds gs before hval0 hW hsz0 hL hshape
  have hval : ∀ (j : Nat) t v, Tryd.f11.params[j]? = some t → args[j]? = some v → Value.okWide Tryd.prog W .any base t v := hval0
  have hW' := hW
  obtain ⟨p, q, hA0, hV, rfl, hfz, hnd⟩ := hW
  have hA : DataW.TrodAll enc Tryd.prog W 0 (fun _ => true) true Tryd.f11.params.toList args.toList ds p := hA0
  rw [Tryd.params11] at hA hval
  obtain ⟨v0, vs0, d0, ds0, p0, q0, hargs, rfl, rfl, h0, r0⟩ := trodAll_cons hA
  obtain ⟨rfl, rfl, rfl⟩ := trodAll_nil r0
  obtain rfl : args = #[v0] := by cases args; simp_all
  obtain ⟨rfl, rfl⟩ := trodVars_none hV
  clear hA0 hval0 hsz0
  have k0 := h0
  have lt0 : ∀ x ∈ p0, x.block < W.heap.size := by obtain ⟨m, hm⟩ := k0; exact DataW.trod_lt m _ _ _ hm
  obtain ⟨fuel0, hf0⟩ := h0
  obtain ⟨cs0, rfl, _⟩ := okWide_struct Tryd.underlying35 (hval 0 35 v0 rfl rfl)
  obtain ⟨⟨a0_0, l0_1, a0_2, a0_3, l0_4⟩, K0, w0⟩ := ((O.opens_struct Tryd.underlying35 (by kernel_rfl) (O.opensF_pair (O.opens_string Tryd.underlying9) rfl (by kernel_rfl) (O.opensF_pair (O.opens_slice Tryd.underlying32 (by kernel_rfl) (O.opens_string Tryd.underlying9)) rfl (by kernel_rfl) (O.opensF_pair (O.opens_int Tryd.underlying3) rfl (by kernel_rfl) (O.opensF_pair (O.opens_int Tryd.underlying3) rfl (by kernel_rfl) (O.opensF_one (O.opens_slice Tryd.underlying33 (by kernel_rfl) (O.opens_iso (d := (Kd.pair (Kd.int .i64) (Kd.pair Kd.string (Kd.int .i64)))) (f := fun x : H.S64 => (x.f0, x.f1, x.f2)) (fun a => ⟨a.1, a.2.1, a.2.2⟩) (fun _ => rfl) (O.opens_struct Tryd.underlying64 (by kernel_rfl) (O.opensF_pair (O.opens_int Tryd.underlying3) rfl (by kernel_rfl) (O.opensF_pair (O.opens_string Tryd.underlying9) rfl (by kernel_rfl) (O.opensF_one (O.opens_int Tryd.underlying3) rfl (by kernel_rfl))))))) rfl (by kernel_rfl))))))) : O.Opens enc Tryd.prog W (Kd.pair Kd.string (Kd.pair (Kd.slice 9 Kd.string) (Kd.pair (Kd.int .i64) (Kd.pair (Kd.int .i64) (Kd.slice 64 H.k64))))) 35 _) fuel0 _ _ hf0
  obtain ⟨_, _, e0, rfl, ⟨_, _, rfl, ⟨A0_1, c0_1, rfl, hc0_1, hr0_1⟩, ⟨_, _, rfl, rfl, ⟨_, _, rfl, rfl, ⟨A0_4, c0_4, rfl, hc0_4, hr0_4⟩⟩⟩⟩⟩ := K0
  obtain rfl : cs0 = #[.string a0_0, .slice A0_1 l0_1.length c0_1, .int .i64 a0_2, .int .i64 a0_3, .slice A0_4 l0_4.length c0_4] := Array.toList_inj.1 e0
  refine (H.dataflowlaw39_ProtocolBack.walk Pure.ProtocolBack a0_0 A0_1 c0_1 l0_1 a0_2 a0_3 A0_4 c0_4 l0_4 W hr0_1 hc0_1 hr0_4 hc0_4 (KP.gh_of_tx hL hshape) w0).mono fun e W' ⟨he, bel⟩ => ?_
  subst he
  exact ⟨_, rfl, _, _, _, [], _, [], hW', trodAll_mk1 (shut_bool Tryd.underlying4 _), (trodAll_cons_mk (Below.trod KP.laidOut (by kernel_rfl) (of_decide_eq_true (by kernel_rfl)) k0 bel lt0) trodAll_mk0), rfl, bel.frame _, fun h => by cases h⟩
theorem over : Rows.protocolBackRow.holds Tryd.pinned (OpenSpec.ofChange Rows.protocolBackSpec) :=
  OpenClaim.holds_of_wide 11 Tryd.f11 rfl rfl rfl rfl rfl rfl rfl ⟨rfl, rfl, rfl, rfl, rfl⟩ rfl rfl rfl rfl rfl (by kernel_rfl) Tryd.func11 (by kernel_rfl)
    (of_decide_eq_true (by kernel_rfl)) (by unfold Func.isWrapper; first | (rw [if_pos (by decide +kernel)]; kernel_rfl) | (rw [if_neg (by decide +kernel)]; exact ⟨rfl, rfl⟩))
    (fun os started H enc _ => lifted os started H enc)
theorem proved : Rows.ProtocolBackSaid := over
end Go.Proofs.YthfhbdncphkdaaaDoor.protocolBack

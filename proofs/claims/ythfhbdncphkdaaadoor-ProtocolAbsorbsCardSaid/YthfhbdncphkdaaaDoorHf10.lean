/- Printed by a program of this session (xprint.py, over the kit's printer): Go functions as Lean functions, each with the proof that the call does what the Lean function says. -/
import Derived.Test.YthfhbdncphkdaaaDoorH0
import Derived.Test.YthfhbdncphkdaaaDoorHd
import Derived.Test.YthfhbdncphkdaaaDoorHf24
import Derived.Test.YthfhbdncphkdaaaDoorHe
import Derived.Test.YthfhbdncphkdaaaDoorHf31
namespace Go.Proofs.YthfhbdncphkdaaaDoor.H
open Go.RowKit Go.Proofs.YthfhbdncphkdaaaDoorW.PrintWords Go.Proofs.YthfhbdncphkdaaaDoorW.PrintLast Go.Proofs.YthfhbdncphkdaaaDoorW.PrintMore
attribute [local go_sem] max2_int min2_int max_two min_two max_three min_three max_four min_four   -- for this text's walks alone
attribute [local go_sem] xs_gtr xs_leq xs_geq
set_option linter.unusedVariables false
set_option linter.unusedSimpArgs false

/-! ### dataflowlaw39_ProtocolAbsorbs: function 10 -/
mutual
def dataflowlaw39_ProtocolAbsorbs.j0 : Nat → List ByteArray → Bool → ByteArray → List ByteArray → Int → Int → List (S64) → Option (Bool)
  | 0, _, _, _, _, _, _, _ => none
  | k + 1, x1, x31, x11002000, x11002001, x11002002, x11002003, x11002004 => if x31 = true then ((dataflowlaw39_awake.f k).bind fun t11003 => (some t11003)) else ((protocol_Run.f k x11002000 x11002001 x11002002 x11002003 x11002004 x1).bind fun t11004 => ((protocol_Doomed.f k x11002000 x11002001 x11002002 x11002003 x11002004).bind fun t11005 => (dataflowlaw39_ProtocolAbsorbs.l0 k x1 t11004 t11005 false 0 x11002000 x11002001 x11002002 x11002003 x11002004)))
def dataflowlaw39_ProtocolAbsorbs.l0 : Nat → List ByteArray → Int → List Int → Bool → Int → ByteArray → List ByteArray → Int → Int → List (S64) → Option (Bool)
  | 0, _, _, _, _, _, _, _, _, _, _ => none
  | k + 1, x1, x5, x6, x7, x8, x11002000, x11002001, x11002002, x11002003, x11002004 => if x8 ≤ (x1.length : Int) then (if 0 ≤ x8 then ((protocol_Run.f k x11002000 x11002001 x11002002 x11002003 x11002004 (x1.take (x8 : Int).toNat)).bind fun t11010 => (if x7 = true then (dataflowlaw39_ProtocolAbsorbs.j2 k x1 x5 x6 x7 x8 t11010 (t11010 != x11002003) x11002000 x11002001 x11002002 x11002003 x11002004) else (dataflowlaw39_ProtocolAbsorbs.j2 k x1 x5 x6 x7 x8 t11010 false x11002000 x11002001 x11002002 x11002003 x11002004))) else (none)) else (if (x7 == (x5 == x11002003)) = true then ((dataflowlaw39_awake.f k).bind fun t11008 => (some t11008)) else (some false))
def dataflowlaw39_ProtocolAbsorbs.j2 : Nat → List ByteArray → Int → List Int → Bool → Int → Int → Bool → ByteArray → List ByteArray → Int → Int → List (S64) → Option (Bool)
  | 0, _, _, _, _, _, _, _, _, _, _, _, _ => none
  | k + 1, x1, x5, x6, x7, x8, x9, x55, x11002000, x11002001, x11002002, x11002003, x11002004 => if x55 = true then (some false) else (if x7 = true then (dataflowlaw39_ProtocolAbsorbs.j3 k x1 x5 x6 true x8 x9 x11002000 x11002001 x11002002 x11002003 x11002004) else (dataflowlaw39_ProtocolAbsorbs.j3 k x1 x5 x6 (x9 == x11002003) x8 x9 x11002000 x11002001 x11002002 x11002003 x11002004))
def dataflowlaw39_ProtocolAbsorbs.j3 : Nat → List ByteArray → Int → List Int → Bool → Int → Int → ByteArray → List ByteArray → Int → Int → List (S64) → Option (Bool)
  | 0, _, _, _, _, _, _, _, _, _, _, _ => none
  | k + 1, x1, x5, x6, x7, x8, x9, x11002000, x11002001, x11002002, x11002003, x11002004 => dataflowlaw39_ProtocolAbsorbs.l1 k x1 x5 x6 x7 x8 x9 false 0 x11002000 x11002001 x11002002 x11002003 x11002004
def dataflowlaw39_ProtocolAbsorbs.l1 : Nat → List ByteArray → Int → List Int → Bool → Int → Int → Bool → Int → ByteArray → List ByteArray → Int → Int → List (S64) → Option (Bool)
  | 0, _, _, _, _, _, _, _, _, _, _, _, _, _ => none
  | k + 1, x1, x5, x6, x7, x8, x9, x10, x11, x11002000, x11002001, x11002002, x11002003, x11002004 => if x11 < (x6.length : Int) then (if x10 = true then (dataflowlaw39_ProtocolAbsorbs.l1 k x1 x5 x6 x7 x8 x9 true (wrap64 (x11 + 1)) x11002000 x11002001 x11002002 x11002003 x11002004) else (if 0 ≤ x11 then (dataflowlaw39_ProtocolAbsorbs.l1 k x1 x5 x6 x7 x8 x9 ((rd x6 x11) == x9) (wrap64 (x11 + 1)) x11002000 x11002001 x11002002 x11002003 x11002004) else (none))) else (if x5 = x11002003 then (if x10 = true then (dataflowlaw39_ProtocolAbsorbs.l0 k x1 x5 x6 x7 (wrap64 (x8 + 1)) x11002000 x11002001 x11002002 x11002003 x11002004) else (some false)) else (dataflowlaw39_ProtocolAbsorbs.l0 k x1 x5 x6 x7 (wrap64 (x8 + 1)) x11002000 x11002001 x11002002 x11002003 x11002004))
end
def dataflowlaw39_ProtocolAbsorbs.f (k : Nat) (a0_0 : ByteArray) (l0_1 : List ByteArray) (a0_2 : Int) (a0_3 : Int) (l0_4 : List (S64)) (l1 : List ByteArray) : Option (Bool) := if (l0_1.length : Int) > 16 then (dataflowlaw39_ProtocolAbsorbs.j0 k l1 true a0_0 l0_1 a0_2 a0_3 l0_4) else (if (l0_4.length : Int) > 256 then (dataflowlaw39_ProtocolAbsorbs.j0 k l1 true a0_0 l0_1 a0_2 a0_3 l0_4) else (if (l1.length : Int) > 30 then (dataflowlaw39_ProtocolAbsorbs.j0 k l1 true a0_0 l0_1 a0_2 a0_3 l0_4) else ((dataflowref39_Check.f k a0_0 l0_1 a0_2 a0_3 l0_4).bind fun t11002 => (dataflowlaw39_ProtocolAbsorbs.j0 k l1 (t11002 != 0) a0_0 l0_1 a0_2 a0_3 l0_4))))
theorem dataflowlaw39_ProtocolAbsorbs.mono_l : ∀ k, (∀ y0 y1 y2 y3 y4 y5 y6, LeO (dataflowlaw39_ProtocolAbsorbs.j0 k y0 y1 y2 y3 y4 y5 y6) (dataflowlaw39_ProtocolAbsorbs.j0 (k + 1) y0 y1 y2 y3 y4 y5 y6)) ∧ (∀ y0 y1 y2 y3 y4 y5 y6 y7 y8 y9, LeO (dataflowlaw39_ProtocolAbsorbs.l0 k y0 y1 y2 y3 y4 y5 y6 y7 y8 y9) (dataflowlaw39_ProtocolAbsorbs.l0 (k + 1) y0 y1 y2 y3 y4 y5 y6 y7 y8 y9)) ∧ (∀ y0 y1 y2 y3 y4 y5 y6 y7 y8 y9 y10 y11, LeO (dataflowlaw39_ProtocolAbsorbs.j2 k y0 y1 y2 y3 y4 y5 y6 y7 y8 y9 y10 y11) (dataflowlaw39_ProtocolAbsorbs.j2 (k + 1) y0 y1 y2 y3 y4 y5 y6 y7 y8 y9 y10 y11)) ∧ (∀ y0 y1 y2 y3 y4 y5 y6 y7 y8 y9 y10, LeO (dataflowlaw39_ProtocolAbsorbs.j3 k y0 y1 y2 y3 y4 y5 y6 y7 y8 y9 y10) (dataflowlaw39_ProtocolAbsorbs.j3 (k + 1) y0 y1 y2 y3 y4 y5 y6 y7 y8 y9 y10)) ∧ (∀ y0 y1 y2 y3 y4 y5 y6 y7 y8 y9 y10 y11 y12, LeO (dataflowlaw39_ProtocolAbsorbs.l1 k y0 y1 y2 y3 y4 y5 y6 y7 y8 y9 y10 y11 y12) (dataflowlaw39_ProtocolAbsorbs.l1 (k + 1) y0 y1 y2 y3 y4 y5 y6 y7 y8 y9 y10 y11 y12))
  | 0 => ⟨fun _ _ _ _ _ _ _ r h => by simp [dataflowlaw39_ProtocolAbsorbs.j0] at h, fun _ _ _ _ _ _ _ _ _ _ r h => by simp [dataflowlaw39_ProtocolAbsorbs.l0] at h, fun _ _ _ _ _ _ _ _ _ _ _ _ r h => by simp [dataflowlaw39_ProtocolAbsorbs.j2] at h, fun _ _ _ _ _ _ _ _ _ _ _ r h => by simp [dataflowlaw39_ProtocolAbsorbs.j3] at h, fun _ _ _ _ _ _ _ _ _ _ _ _ _ r h => by simp [dataflowlaw39_ProtocolAbsorbs.l1] at h⟩
  | k + 1 => by
    obtain ⟨ih0, ih1, ih2, ih3, ih4⟩ := dataflowlaw39_ProtocolAbsorbs.mono_l k
    refine ⟨?_, ?_, ?_, ?_, ?_⟩
    · intro y0 y1 y2 y3 y4 y5 y6
      unfold dataflowlaw39_ProtocolAbsorbs.j0
      repeat' first
      | (with_reducible exact ih0 _ _ _ _ _ _ _)
      | (with_reducible exact ih1 _ _ _ _ _ _ _ _ _ _)
      | (with_reducible exact ih2 _ _ _ _ _ _ _ _ _ _ _ _)
      | (with_reducible exact ih3 _ _ _ _ _ _ _ _ _ _ _)
      | (with_reducible exact ih4 _ _ _ _ _ _ _ _ _ _ _ _ _)
      | (with_reducible exact dataflowlaw39_awake.mono _)
      | (with_reducible exact dataflowref39_Check.mono _ _ _ _ _ _)
      | (with_reducible exact protocol_Doomed.mono _ _ _ _ _ _)
      | (with_reducible exact protocol_Run.mono _ _ _ _ _ _ _)
      | (with_reducible exact LeO.refl _)
      | (with_reducible exact LeO.none _)
      | (with_reducible refine LeO.ite ?_ ?_)
      | (with_reducible refine LeO.bind ?_ (fun _ => ?_))
      | exact ih0 _ _ _ _ _ _ _
      | exact ih1 _ _ _ _ _ _ _ _ _ _
      | exact ih2 _ _ _ _ _ _ _ _ _ _ _ _
      | exact ih3 _ _ _ _ _ _ _ _ _ _ _
      | exact ih4 _ _ _ _ _ _ _ _ _ _ _ _ _
      | exact dataflowlaw39_awake.mono _
      | exact dataflowref39_Check.mono _ _ _ _ _ _
      | exact protocol_Doomed.mono _ _ _ _ _ _
      | exact protocol_Run.mono _ _ _ _ _ _ _
      | exact LeO.none _
      | refine LeO.ite ?_ ?_
      | refine LeO.bind ?_ (fun _ => ?_)
    · intro y0 y1 y2 y3 y4 y5 y6 y7 y8 y9
      unfold dataflowlaw39_ProtocolAbsorbs.l0
      repeat' first
      | (with_reducible exact ih0 _ _ _ _ _ _ _)
      | (with_reducible exact ih1 _ _ _ _ _ _ _ _ _ _)
      | (with_reducible exact ih2 _ _ _ _ _ _ _ _ _ _ _ _)
      | (with_reducible exact ih3 _ _ _ _ _ _ _ _ _ _ _)
      | (with_reducible exact ih4 _ _ _ _ _ _ _ _ _ _ _ _ _)
      | (with_reducible exact dataflowlaw39_awake.mono _)
      | (with_reducible exact dataflowref39_Check.mono _ _ _ _ _ _)
      | (with_reducible exact protocol_Doomed.mono _ _ _ _ _ _)
      | (with_reducible exact protocol_Run.mono _ _ _ _ _ _ _)
      | (with_reducible exact LeO.refl _)
      | (with_reducible exact LeO.none _)
      | (with_reducible refine LeO.ite ?_ ?_)
      | (with_reducible refine LeO.bind ?_ (fun _ => ?_))
      | exact ih0 _ _ _ _ _ _ _
      | exact ih1 _ _ _ _ _ _ _ _ _ _
      | exact ih2 _ _ _ _ _ _ _ _ _ _ _ _
      | exact ih3 _ _ _ _ _ _ _ _ _ _ _
      | exact ih4 _ _ _ _ _ _ _ _ _ _ _ _ _
      | exact dataflowlaw39_awake.mono _
      | exact dataflowref39_Check.mono _ _ _ _ _ _
      | exact protocol_Doomed.mono _ _ _ _ _ _
      | exact protocol_Run.mono _ _ _ _ _ _ _
      | exact LeO.none _
      | refine LeO.ite ?_ ?_
      | refine LeO.bind ?_ (fun _ => ?_)
    · intro y0 y1 y2 y3 y4 y5 y6 y7 y8 y9 y10 y11
      unfold dataflowlaw39_ProtocolAbsorbs.j2
      repeat' first
      | (with_reducible exact ih0 _ _ _ _ _ _ _)
      | (with_reducible exact ih1 _ _ _ _ _ _ _ _ _ _)
      | (with_reducible exact ih2 _ _ _ _ _ _ _ _ _ _ _ _)
      | (with_reducible exact ih3 _ _ _ _ _ _ _ _ _ _ _)
      | (with_reducible exact ih4 _ _ _ _ _ _ _ _ _ _ _ _ _)
      | (with_reducible exact dataflowlaw39_awake.mono _)
      | (with_reducible exact dataflowref39_Check.mono _ _ _ _ _ _)
      | (with_reducible exact protocol_Doomed.mono _ _ _ _ _ _)
      | (with_reducible exact protocol_Run.mono _ _ _ _ _ _ _)
      | (with_reducible exact LeO.refl _)
      | (with_reducible exact LeO.none _)
      | (with_reducible refine LeO.ite ?_ ?_)
      | (with_reducible refine LeO.bind ?_ (fun _ => ?_))
      | exact ih0 _ _ _ _ _ _ _
      | exact ih1 _ _ _ _ _ _ _ _ _ _
      | exact ih2 _ _ _ _ _ _ _ _ _ _ _ _
      | exact ih3 _ _ _ _ _ _ _ _ _ _ _
      | exact ih4 _ _ _ _ _ _ _ _ _ _ _ _ _
      | exact dataflowlaw39_awake.mono _
      | exact dataflowref39_Check.mono _ _ _ _ _ _
      | exact protocol_Doomed.mono _ _ _ _ _ _
      | exact protocol_Run.mono _ _ _ _ _ _ _
      | exact LeO.none _
      | refine LeO.ite ?_ ?_
      | refine LeO.bind ?_ (fun _ => ?_)
    · intro y0 y1 y2 y3 y4 y5 y6 y7 y8 y9 y10
      unfold dataflowlaw39_ProtocolAbsorbs.j3
      repeat' first
      | (with_reducible exact ih0 _ _ _ _ _ _ _)
      | (with_reducible exact ih1 _ _ _ _ _ _ _ _ _ _)
      | (with_reducible exact ih2 _ _ _ _ _ _ _ _ _ _ _ _)
      | (with_reducible exact ih3 _ _ _ _ _ _ _ _ _ _ _)
      | (with_reducible exact ih4 _ _ _ _ _ _ _ _ _ _ _ _ _)
      | (with_reducible exact dataflowlaw39_awake.mono _)
      | (with_reducible exact dataflowref39_Check.mono _ _ _ _ _ _)
      | (with_reducible exact protocol_Doomed.mono _ _ _ _ _ _)
      | (with_reducible exact protocol_Run.mono _ _ _ _ _ _ _)
      | (with_reducible exact LeO.refl _)
      | (with_reducible exact LeO.none _)
      | (with_reducible refine LeO.ite ?_ ?_)
      | (with_reducible refine LeO.bind ?_ (fun _ => ?_))
      | exact ih0 _ _ _ _ _ _ _
      | exact ih1 _ _ _ _ _ _ _ _ _ _
      | exact ih2 _ _ _ _ _ _ _ _ _ _ _ _
      | exact ih3 _ _ _ _ _ _ _ _ _ _ _
      | exact ih4 _ _ _ _ _ _ _ _ _ _ _ _ _
      | exact dataflowlaw39_awake.mono _
      | exact dataflowref39_Check.mono _ _ _ _ _ _
      | exact protocol_Doomed.mono _ _ _ _ _ _
      | exact protocol_Run.mono _ _ _ _ _ _ _
      | exact LeO.none _
      | refine LeO.ite ?_ ?_
      | refine LeO.bind ?_ (fun _ => ?_)
    · intro y0 y1 y2 y3 y4 y5 y6 y7 y8 y9 y10 y11 y12
      unfold dataflowlaw39_ProtocolAbsorbs.l1
      repeat' first
      | (with_reducible exact ih0 _ _ _ _ _ _ _)
      | (with_reducible exact ih1 _ _ _ _ _ _ _ _ _ _)
      | (with_reducible exact ih2 _ _ _ _ _ _ _ _ _ _ _ _)
      | (with_reducible exact ih3 _ _ _ _ _ _ _ _ _ _ _)
      | (with_reducible exact ih4 _ _ _ _ _ _ _ _ _ _ _ _ _)
      | (with_reducible exact dataflowlaw39_awake.mono _)
      | (with_reducible exact dataflowref39_Check.mono _ _ _ _ _ _)
      | (with_reducible exact protocol_Doomed.mono _ _ _ _ _ _)
      | (with_reducible exact protocol_Run.mono _ _ _ _ _ _ _)
      | (with_reducible exact LeO.refl _)
      | (with_reducible exact LeO.none _)
      | (with_reducible refine LeO.ite ?_ ?_)
      | (with_reducible refine LeO.bind ?_ (fun _ => ?_))
      | exact ih0 _ _ _ _ _ _ _
      | exact ih1 _ _ _ _ _ _ _ _ _ _
      | exact ih2 _ _ _ _ _ _ _ _ _ _ _ _
      | exact ih3 _ _ _ _ _ _ _ _ _ _ _
      | exact ih4 _ _ _ _ _ _ _ _ _ _ _ _ _
      | exact dataflowlaw39_awake.mono _
      | exact dataflowref39_Check.mono _ _ _ _ _ _
      | exact protocol_Doomed.mono _ _ _ _ _ _
      | exact protocol_Run.mono _ _ _ _ _ _ _
      | exact LeO.none _
      | refine LeO.ite ?_ ?_
      | refine LeO.bind ?_ (fun _ => ?_)
theorem dataflowlaw39_ProtocolAbsorbs.mono : ∀ a0 a1 a2 a3 a4 a5 k, LeO (dataflowlaw39_ProtocolAbsorbs.f k a0 a1 a2 a3 a4 a5) (dataflowlaw39_ProtocolAbsorbs.f (k + 1) a0 a1 a2 a3 a4 a5) := by
  intro a0 a1 a2 a3 a4 a5 k
  obtain ⟨ih0, ih1, ih2, ih3, ih4⟩ := dataflowlaw39_ProtocolAbsorbs.mono_l k
  unfold dataflowlaw39_ProtocolAbsorbs.f
  repeat' first
      | (with_reducible exact ih0 _ _ _ _ _ _ _)
      | (with_reducible exact ih1 _ _ _ _ _ _ _ _ _ _)
      | (with_reducible exact ih2 _ _ _ _ _ _ _ _ _ _ _ _)
      | (with_reducible exact ih3 _ _ _ _ _ _ _ _ _ _ _)
      | (with_reducible exact ih4 _ _ _ _ _ _ _ _ _ _ _ _ _)
      | (with_reducible exact dataflowlaw39_awake.mono _)
      | (with_reducible exact dataflowref39_Check.mono _ _ _ _ _ _)
      | (with_reducible exact protocol_Doomed.mono _ _ _ _ _ _)
      | (with_reducible exact protocol_Run.mono _ _ _ _ _ _ _)
      | (with_reducible exact LeO.refl _)
      | (with_reducible exact LeO.none _)
      | (with_reducible refine LeO.ite ?_ ?_)
      | (with_reducible refine LeO.bind ?_ (fun _ => ?_))
      | exact ih0 _ _ _ _ _ _ _
      | exact ih1 _ _ _ _ _ _ _ _ _ _
      | exact ih2 _ _ _ _ _ _ _ _ _ _ _ _
      | exact ih3 _ _ _ _ _ _ _ _ _ _ _
      | exact ih4 _ _ _ _ _ _ _ _ _ _ _ _ _
      | exact dataflowlaw39_awake.mono _
      | exact dataflowref39_Check.mono _ _ _ _ _ _
      | exact protocol_Doomed.mono _ _ _ _ _ _
      | exact protocol_Run.mono _ _ _ _ _ _ _
      | exact LeO.none _
      | refine LeO.ite ?_ ?_
      | refine LeO.bind ?_ (fun _ => ?_)
set_option maxHeartbeats 8000000 in
set_option maxRecDepth 100000 in
theorem dataflowlaw39_ProtocolAbsorbs.calls (k : Nat) (a0_0 : ByteArray) (A0_1 : Option Addr) (c0_1 : Nat) (l0_1 : List ByteArray) (a0_2 : Int) (a0_3 : Int) (A0_4 : Option Addr) (c0_4 : Nat) (l0_4 : List (S64)) (A1 : Option Addr) (c1 : Nat) (l1 : List ByteArray) (r : Bool) (w : World) (hr0_1 : Kd.C Kd.string w A0_1 l0_1.length l0_1) (hc0_1 : l0_1.length ≤ c0_1) (hr0_4 : Kd.C k64 w A0_4 l0_4.length l0_4) (hc0_4 : l0_4.length ≤ c0_4) (hr1 : Kd.C Kd.string w A1 l1.length l1) (hc1 : l1.length ≤ c1) (hgh : Gh w) (h : dataflowlaw39_ProtocolAbsorbs.f k a0_0 l0_1 a0_2 a0_3 l0_4 l1 = some r) :
    Calls Tryd.prog 10 #[.agg #[.string a0_0, .slice A0_1 l0_1.length c0_1, .int .i64 a0_2, .int .i64 a0_3, .slice A0_4 l0_4.length c0_4], .slice A1 l1.length c1] w fun e w' => e = .returned (.bool r) ∧ Below w.heap.size w w' := by
  have hu35 := Tryd.underlying35
  have HR0_1 := Aside0.mk hr0_1
  have HC0_1 := Aside0.mk hc0_1
  clear hr0_1 hc0_1
  have HR0_4 := Aside0.mk hr0_4
  have HC0_4 := Aside0.mk hc0_4
  clear hr0_4 hc0_4
  have HR1 := Aside0.mk hr1
  have HC1 := Aside0.mk hc1
  clear hr1 hc1
  have HB := Aside0.mk (Below.refl w.heap.size w)
  have HGH := Aside0.mk hgh
  clear hgh
  have H : (if (l0_1.length : Int) > 16 then (dataflowlaw39_ProtocolAbsorbs.j0 k l1 true a0_0 l0_1 a0_2 a0_3 l0_4) else (if (l0_4.length : Int) > 256 then (dataflowlaw39_ProtocolAbsorbs.j0 k l1 true a0_0 l0_1 a0_2 a0_3 l0_4) else (if (l1.length : Int) > 30 then (dataflowlaw39_ProtocolAbsorbs.j0 k l1 true a0_0 l0_1 a0_2 a0_3 l0_4) else ((dataflowref39_Check.f k a0_0 l0_1 a0_2 a0_3 l0_4).bind fun t11002 => (dataflowlaw39_ProtocolAbsorbs.j0 k l1 (t11002 != 0) a0_0 l0_1 a0_2 a0_3 l0_4))))) = some r := h
  clear h
  have HC3 := Aside0.mk H
  clear H
  go_enter Tryd.func10, Tryd.ntmps10
  go_upto_region 1 with (first | ((with_reducible refine gate_dst (N := 2) rfl ?_); (try (refine gate_guard (by rfl) ?_; dsimp only)); refine box_event ?hg (N := 2) ?hd (cs := #[.string a0_0, .slice A0_1 l0_1.length c0_1, .int .i64 a0_2, .int .i64 a0_3, .slice A0_4 l0_4.length c0_4]) (t := 35) ?hr ?_; (case hd => rfl); (case hg => rfl); (case hr => first | (go_simp; done) | (go_simp; rfl)); intro gb11001 hg w4 hbox hb; have n0_ := Aside0.mk (below_step (by repeat (first | (with_reducible first | exact HB.out | apply below_alloc | apply pw_below_drewN | apply below_drew1) | exact HB.out)) hb); have n1_ := Aside0.mk (hbox); have n2_ := Aside0.mk ((by rw [hg]; exact (below_size (by repeat (first | (with_reducible first | exact HB.out | apply below_alloc | apply pw_below_drewN | apply below_drew1) | exact HB.out))) : w.heap.size ≤ gb11001)); have n3_ := Aside0.mk ((by rw [hg]; exact (below_size (by repeat (first | (with_reducible first | exact HB.out | apply below_alloc | apply pw_below_drewN | apply below_drew1) | exact HB.out))) : w.heap.size ≤ gb11001)); clear HB; have HB := n0_; have BK11001 := n1_; have GW11001 := n2_; have GE11001 := n3_; clear n0_ n1_ n2_ n3_; clear hb hbox hg))
  (try simp only [Act.put, List.setIfInBounds_toArray, List.set_cons_zero, List.set_cons_succ])
  go_cut [31] (fun v31 wc => ∃ (kq : Nat) (x31_2 : Bool), v31 = .bool x31_2 ∧ Aside0 (dataflowlaw39_ProtocolAbsorbs.j0 kq l1 x31_2 a0_0 l0_1 a0_2 a0_3 l0_4 = some r) ∧ Aside0 (kq ≤ k) ∧ Aside0 (wc.heap[gb11001]? = some (.cells #[.string a0_0, (.slice A0_1 l0_1.length c0_1), .int .i64 a0_2, .int .i64 a0_3, (.slice A0_4 l0_4.length c0_4)] 35 (0, 0))) ∧ Aside0 (Below w.heap.size w wc))
  case first =>
    have H := HC3.out
    clear HC3
    by_cases c5 : (l0_1.length : Int) > 16
    · rw [if_pos c5] at H
      have c5b0 : decide (16 < (l0_1.length : Int)) = true := decide_eq_true c5
      have c5b1 : decide (16 < l0_1.length) = true := decide_eq_true (by omega)
      clear c5
      (first | rw [c5b0] | (simp only [i64_w, i32_w]; rw [c5b0]) | skip)
      have H' := Aside0.mk H
      clear H
      have hcz6_0 : w4.cell? ⟨gb11001, 0, none⟩ = some (.string a0_0) := (blk_cell BK11001.out 0).trans rfl
      have hcz6_1 : w4.cell? ⟨gb11001, 1, none⟩ = some (.slice A0_1 l0_1.length c0_1) := (blk_cell BK11001.out 1).trans rfl
      have hcz6_2 : w4.cell? ⟨gb11001, 2, none⟩ = some (.int .i64 a0_2) := (blk_cell BK11001.out 2).trans rfl
      have hcz6_3 : w4.cell? ⟨gb11001, 3, none⟩ = some (.int .i64 a0_3) := (blk_cell BK11001.out 3).trans rfl
      have hcz6_4 : w4.cell? ⟨gb11001, 4, none⟩ = some (.slice A0_4 l0_4.length c0_4) := (blk_cell BK11001.out 4).trans rfl
      have hfz6_0 := blk_frozen BK11001.out 0
      have hfz6_1 := blk_frozen BK11001.out 1
      have hfz6_2 := blk_frozen BK11001.out 2
      have hfz6_3 := blk_frozen BK11001.out 3
      have hfz6_4 := blk_frozen BK11001.out 4
      go_wp2
      go_meet
      case rel => exact ⟨_, (true), (by first | rfl | (simp; done) | (simp [*]; done)), H', ⟨by first | omega | exact Nat.le_refl _⟩, ⟨by (with_reducible repeat (first | refine blk_drewN ?_ _ | refine blk_drew ?_ | refine blk_alloc ?_ _)); exact BK11001.out⟩, ⟨by repeat (first | (with_reducible first | exact HB.out | apply below_alloc | apply pw_below_drewN | apply below_drew1 | refine below_set ?_ GE11001.out) | exact HB.out)⟩⟩
    · rw [if_neg c5] at H
      have c5b0 : decide (16 < (l0_1.length : Int)) = false := decide_eq_false c5
      have c5b1 : decide (16 < l0_1.length) = false := decide_eq_false (by omega)
      clear c5
      (first | rw [c5b0] | (simp only [i64_w, i32_w]; rw [c5b0]) | skip)
      by_cases c7 : (l0_4.length : Int) > 256
      · rw [if_pos c7] at H
        have c7b0 : decide (256 < (l0_4.length : Int)) = true := decide_eq_true c7
        have c7b1 : decide (256 < l0_4.length) = true := decide_eq_true (by omega)
        clear c7
        have H' := Aside0.mk H
        clear H
        have hcz8_0 : w4.cell? ⟨gb11001, 0, none⟩ = some (.string a0_0) := (blk_cell BK11001.out 0).trans rfl
        have hcz8_1 : w4.cell? ⟨gb11001, 1, none⟩ = some (.slice A0_1 l0_1.length c0_1) := (blk_cell BK11001.out 1).trans rfl
        have hcz8_2 : w4.cell? ⟨gb11001, 2, none⟩ = some (.int .i64 a0_2) := (blk_cell BK11001.out 2).trans rfl
        have hcz8_3 : w4.cell? ⟨gb11001, 3, none⟩ = some (.int .i64 a0_3) := (blk_cell BK11001.out 3).trans rfl
        have hcz8_4 : w4.cell? ⟨gb11001, 4, none⟩ = some (.slice A0_4 l0_4.length c0_4) := (blk_cell BK11001.out 4).trans rfl
        have hfz8_0 := blk_frozen BK11001.out 0
        have hfz8_1 := blk_frozen BK11001.out 1
        have hfz8_2 := blk_frozen BK11001.out 2
        have hfz8_3 := blk_frozen BK11001.out 3
        have hfz8_4 := blk_frozen BK11001.out 4
        go_wp2
        go_meet
        case rel => exact ⟨_, (true), (by first | rfl | (simp; done) | (simp [*]; done)), H', ⟨by first | omega | exact Nat.le_refl _⟩, ⟨by (with_reducible repeat (first | refine blk_drewN ?_ _ | refine blk_drew ?_ | refine blk_alloc ?_ _)); exact BK11001.out⟩, ⟨by repeat (first | (with_reducible first | exact HB.out | apply below_alloc | apply pw_below_drewN | apply below_drew1 | refine below_set ?_ GE11001.out) | exact HB.out)⟩⟩
      · rw [if_neg c7] at H
        have c7b0 : decide (256 < (l0_4.length : Int)) = false := decide_eq_false c7
        have c7b1 : decide (256 < l0_4.length) = false := decide_eq_false (by omega)
        clear c7
        by_cases c9 : (l1.length : Int) > 30
        · rw [if_pos c9] at H
          have c9b0 : decide (30 < (l1.length : Int)) = true := decide_eq_true c9
          have c9b1 : decide (30 < l1.length) = true := decide_eq_true (by omega)
          clear c9
          have H' := Aside0.mk H
          clear H
          have hcz10_0 : w4.cell? ⟨gb11001, 0, none⟩ = some (.string a0_0) := (blk_cell BK11001.out 0).trans rfl
          have hcz10_1 : w4.cell? ⟨gb11001, 1, none⟩ = some (.slice A0_1 l0_1.length c0_1) := (blk_cell BK11001.out 1).trans rfl
          have hcz10_2 : w4.cell? ⟨gb11001, 2, none⟩ = some (.int .i64 a0_2) := (blk_cell BK11001.out 2).trans rfl
          have hcz10_3 : w4.cell? ⟨gb11001, 3, none⟩ = some (.int .i64 a0_3) := (blk_cell BK11001.out 3).trans rfl
          have hcz10_4 : w4.cell? ⟨gb11001, 4, none⟩ = some (.slice A0_4 l0_4.length c0_4) := (blk_cell BK11001.out 4).trans rfl
          have hfz10_0 := blk_frozen BK11001.out 0
          have hfz10_1 := blk_frozen BK11001.out 1
          have hfz10_2 := blk_frozen BK11001.out 2
          have hfz10_3 := blk_frozen BK11001.out 3
          have hfz10_4 := blk_frozen BK11001.out 4
          go_wp2
          go_meet
          case rel => exact ⟨_, (true), (by first | rfl | (simp; done) | (simp [*]; done)), H', ⟨by first | omega | exact Nat.le_refl _⟩, ⟨by (with_reducible repeat (first | refine blk_drewN ?_ _ | refine blk_drew ?_ | refine blk_alloc ?_ _)); exact BK11001.out⟩, ⟨by repeat (first | (with_reducible first | exact HB.out | apply below_alloc | apply pw_below_drewN | apply below_drew1 | refine below_set ?_ GE11001.out) | exact HB.out)⟩⟩
        · rw [if_neg c9] at H
          have c9b0 : decide (30 < (l1.length : Int)) = false := decide_eq_false c9
          have c9b1 : decide (30 < l1.length) = false := decide_eq_false (by omega)
          clear c9
          replace H := Option.bind_eq_some_iff.mp H
          obtain ⟨t11002, A110, H⟩ := H
          replace H : (dataflowlaw39_ProtocolAbsorbs.j0 k l1 (t11002 != 0) a0_0 l0_1 a0_2 a0_3 l0_4) = some r := H
          have A11 := Aside0.mk A110
          clear A110
          have H' := Aside0.mk H
          clear H
          have hcz12_0 : w4.cell? ⟨gb11001, 0, none⟩ = some (.string a0_0) := (blk_cell BK11001.out 0).trans rfl
          have hcz12_1 : w4.cell? ⟨gb11001, 1, none⟩ = some (.slice A0_1 l0_1.length c0_1) := (blk_cell BK11001.out 1).trans rfl
          have hcz12_2 : w4.cell? ⟨gb11001, 2, none⟩ = some (.int .i64 a0_2) := (blk_cell BK11001.out 2).trans rfl
          have hcz12_3 : w4.cell? ⟨gb11001, 3, none⟩ = some (.int .i64 a0_3) := (blk_cell BK11001.out 3).trans rfl
          have hcz12_4 : w4.cell? ⟨gb11001, 4, none⟩ = some (.slice A0_4 l0_4.length c0_4) := (blk_cell BK11001.out 4).trans rfl
          have hfz12_0 := blk_frozen BK11001.out 0
          have hfz12_1 := blk_frozen BK11001.out 1
          have hfz12_2 := blk_frozen BK11001.out 2
          have hfz12_3 := blk_frozen BK11001.out 3
          have hfz12_4 := blk_frozen BK11001.out 4
          go_wp2_with (first | (go_at_call 34; (with_reducible refine (dataflowref39_Check.calls k a0_0 _ _ l0_1 a0_2 a0_3 _ _ l0_4 t11002 _ ?side1 ?side2 ?side3 ?side4 A11.out).mono ?_); (case side1 => repeat (first | exact (Kd.C_below HR0_1.out HB.out) | (with_reducible refine Kd.C_alloc ?_ _) | (with_reducible refine Kd.C_drewN ?_ _) | (with_reducible refine Kd.C_drew ?_))); (case side2 => exact HC0_1.out); (case side3 => repeat (first | exact (Kd.C_below HR0_4.out HB.out) | (with_reducible refine Kd.C_alloc ?_ _) | (with_reducible refine Kd.C_drewN ?_ _) | (with_reducible refine Kd.C_drew ?_))); (case side4 => exact HC0_4.out); rintro e w13 ⟨rfl, hb⟩; have n0_ := Aside0.mk (blk_below (g := gb11001) (o := .cells #[.string a0_0, .slice A0_1 l0_1.length c0_1, .int .i64 a0_2, .int .i64 a0_3, .slice A0_4 l0_4.length c0_4] 35 (0, 0)) (by (with_reducible repeat (first | refine blk_drewN ?_ _ | refine blk_drew ?_ | refine blk_alloc ?_ _)); exact BK11001.out) hb); have n1_ := Aside0.mk (below_step (by repeat (first | (with_reducible first | exact HB.out | apply below_alloc | apply pw_below_drewN | apply below_drew1 | refine below_set ?_ GE11001.out) | exact HB.out)) hb); clear BK11001; clear HB; have BK11001 := n0_; have HB := n1_; clear n0_ n1_; (try clear hb); (try clear hb2); (try clear hk); (try clear hi)))
          go_meet
          case rel => exact ⟨_, ((t11002 != 0)), (by first | rfl | (simp; done) | (simp [*]; done)), H', ⟨by first | omega | exact Nat.le_refl _⟩, ⟨by (with_reducible repeat (first | refine blk_drewN ?_ _ | refine blk_drew ?_ | refine blk_alloc ?_ _)); exact BK11001.out⟩, ⟨by repeat (first | (with_reducible first | exact HB.out | apply below_alloc | apply pw_below_drewN | apply below_drew1 | refine below_set ?_ GE11001.out) | exact HB.out)⟩⟩
  case rest =>
    clear HC3
    try clear c1
    try clear p2
    try clear c5
    try clear c5b0
    try clear c5b1
    try clear c7
    try clear c7b0
    try clear c7b1
    try clear c9
    try clear c9b0
    try clear c9b1
    try clear c10
    try clear hcz10_0
    try clear hcz10_1
    try clear hcz10_2
    try clear hcz10_3
    try clear hcz10_4
    try clear hcz12_0
    try clear hcz12_1
    try clear hcz12_2
    try clear hcz12_3
    try clear hcz12_4
    try clear hcz6_0
    try clear hcz6_1
    try clear hcz6_2
    try clear hcz6_3
    try clear hcz6_4
    try clear hcz8_0
    try clear hcz8_1
    try clear hcz8_2
    try clear hcz8_3
    try clear hcz8_4
    try clear hfz10_0
    try clear hfz10_1
    try clear hfz10_2
    try clear hfz10_3
    try clear hfz10_4
    try clear hfz12_0
    try clear hfz12_1
    try clear hfz12_2
    try clear hfz12_3
    try clear hfz12_4
    try clear hfz6_0
    try clear hfz6_1
    try clear hfz6_2
    try clear hfz6_3
    try clear hfz6_4
    try clear hfz8_0
    try clear hfz8_1
    try clear hfz8_2
    try clear hfz8_3
    try clear hfz8_4
    obtain ⟨kq, x31_2, rfl, HA, HJ2, BK11001, HB⟩ := hcut
    cases kq with
    | zero => exact absurd HA.out (by simp [dataflowlaw39_ProtocolAbsorbs.j0])
    | succ kj2 =>
      have H := HA.out
      clear HA
      simp only [dataflowlaw39_ProtocolAbsorbs.j0] at H
      by_cases c14 : x31_2 = true
      · subst c14
        have H1 : ((dataflowlaw39_awake.f kj2).bind fun t11003 => (some t11003)) = some r := by rw [if_pos rfl] at H; exact H
        clear H
        have H := H1
        clear H1
        replace H := Option.bind_eq_some_iff.mp H
        obtain ⟨t11003, A150, H⟩ := H
        replace H : (some t11003) = some r := H
        have A15 := Aside0.mk A150
        clear A150
        obtain rfl := Option.some.inj H
        go_wp2_with (first | ((with_reducible refine gate_callee (f := 24) rfl ?_); refine goesL_ (some 32) rfl rfl Tryd.func24 (by kernel_rfl) rfl #[] rfl (by (try simp only [List.map_toArray, List.map_cons, List.map_nil]); first | done | rfl | (simp only [List.length_drop, List.length_take]; rfl)) ?_; (with_reducible refine (dataflowlaw39_awake.calls kj2  t11003 _ ?side1 A15.out).mono ?_); (case side1 => exact Gh.below HGH.out (by repeat (first | (with_reducible first | exact HB.out | apply below_alloc | apply pw_below_drewN | apply below_drew1 | refine below_set ?_ GE11001.out) | exact HB.out))); rintro e w16 ⟨rfl, hb⟩; refine ⟨_, rfl, ?_⟩; have n0_ := Aside0.mk (blk_below (g := gb11001) (o := .cells #[.string a0_0, .slice A0_1 l0_1.length c0_1, .int .i64 a0_2, .int .i64 a0_3, .slice A0_4 l0_4.length c0_4] 35 (0, 0)) (by (with_reducible repeat (first | refine blk_drewN ?_ _ | refine blk_drew ?_ | refine blk_alloc ?_ _)); exact BK11001.out) hb); have n1_ := Aside0.mk (below_step (by repeat (first | (with_reducible first | exact HB.out | apply below_alloc | apply pw_below_drewN | apply below_drew1 | refine below_set ?_ GE11001.out) | exact HB.out)) hb); clear BK11001; clear HB; have BK11001 := n0_; have HB := n1_; clear n0_ n1_; (try clear hb); (try clear hb2); (try clear hk); (try clear hi)))
        go_ret
        exact ⟨by first | rfl | (simp [errW_none, errW_some] <;> rfl) | (simp [*, errW_none, errW_some] <;> rfl), by repeat (first | (with_reducible first | exact HB.out | apply below_alloc | apply pw_below_drewN | apply below_drew1 | refine below_set ?_ GE11001.out) | exact HB.out)⟩
      · replace c14 := Bool.eq_false_iff.mpr c14
        subst c14
        have H1 : ((protocol_Run.f kj2 a0_0 l0_1 a0_2 a0_3 l0_4 l1).bind fun t11004 => ((protocol_Doomed.f kj2 a0_0 l0_1 a0_2 a0_3 l0_4).bind fun t11005 => (dataflowlaw39_ProtocolAbsorbs.l0 kj2 l1 t11004 t11005 false 0 a0_0 l0_1 a0_2 a0_3 l0_4))) = some r := by rw [if_neg (show ¬ (false = true) by decide)] at H; exact H
        clear H
        have H := H1
        clear H1
        replace H := Option.bind_eq_some_iff.mp H
        obtain ⟨t11004, A170, H⟩ := H
        replace H : ((protocol_Doomed.f kj2 a0_0 l0_1 a0_2 a0_3 l0_4).bind fun t11005 => (dataflowlaw39_ProtocolAbsorbs.l0 kj2 l1 t11004 t11005 false 0 a0_0 l0_1 a0_2 a0_3 l0_4)) = some r := H
        have A17 := Aside0.mk A170
        clear A170
        replace H := Option.bind_eq_some_iff.mp H
        obtain ⟨t11005, A180, H⟩ := H
        replace H : (dataflowlaw39_ProtocolAbsorbs.l0 kj2 l1 t11004 t11005 false 0 a0_0 l0_1 a0_2 a0_3 l0_4) = some r := H
        have A18 := Aside0.mk A180
        clear A180
        have H' := Aside0.mk H
        clear H
        have hcz19_0 : wc.cell? ⟨gb11001, 0, none⟩ = some (.string a0_0) := (blk_cell BK11001.out 0).trans rfl
        have hcz19_1 : wc.cell? ⟨gb11001, 1, none⟩ = some (.slice A0_1 l0_1.length c0_1) := (blk_cell BK11001.out 1).trans rfl
        have hcz19_2 : wc.cell? ⟨gb11001, 2, none⟩ = some (.int .i64 a0_2) := (blk_cell BK11001.out 2).trans rfl
        have hcz19_3 : wc.cell? ⟨gb11001, 3, none⟩ = some (.int .i64 a0_3) := (blk_cell BK11001.out 3).trans rfl
        have hcz19_4 : wc.cell? ⟨gb11001, 4, none⟩ = some (.slice A0_4 l0_4.length c0_4) := (blk_cell BK11001.out 4).trans rfl
        have hfz19_0 := blk_frozen BK11001.out 0
        have hfz19_1 := blk_frozen BK11001.out 1
        have hfz19_2 := blk_frozen BK11001.out 2
        have hfz19_3 := blk_frozen BK11001.out 3
        have hfz19_4 := blk_frozen BK11001.out 4
        go_wp2_with (first | ((with_reducible refine gate_callee (f := 27) rfl ?_); refine goesL_ (some 35) rfl rfl Tryd.func27 (by kernel_rfl) rfl #[.agg #[.string a0_0, .slice A0_1 l0_1.length c0_1, .int .i64 a0_2, .int .i64 a0_3, .slice A0_4 l0_4.length c0_4], .slice A1 l1.length c1] rfl (by (try simp only [List.map_toArray, List.map_cons, List.map_nil]); first | done | rfl | (simp only [List.length_drop, List.length_take]; rfl)) ?_; (with_reducible refine (protocol_Run.calls kj2 a0_0 _ _ l0_1 a0_2 a0_3 _ _ l0_4 _ _ l1 t11004 _ ?side1 ?side2 ?side3 ?side4 ?side5 ?side6 ?side7 A17.out).mono ?_); (case side1 => repeat (first | exact (Kd.C_below HR0_1.out HB.out) | (with_reducible refine Kd.C_alloc ?_ _) | (with_reducible refine Kd.C_drewN ?_ _) | (with_reducible refine Kd.C_drew ?_))); (case side2 => exact HC0_1.out); (case side3 => repeat (first | exact (Kd.C_below HR0_4.out HB.out) | (with_reducible refine Kd.C_alloc ?_ _) | (with_reducible refine Kd.C_drewN ?_ _) | (with_reducible refine Kd.C_drew ?_))); (case side4 => exact HC0_4.out); (case side5 => repeat (first | exact (Kd.C_below HR1.out HB.out) | (with_reducible refine Kd.C_alloc ?_ _) | (with_reducible refine Kd.C_drewN ?_ _) | (with_reducible refine Kd.C_drew ?_))); (case side6 => exact HC1.out); (case side7 => exact Gh.below HGH.out (by repeat (first | (with_reducible first | exact HB.out | apply below_alloc | apply pw_below_drewN | apply below_drew1 | refine below_set ?_ GE11001.out) | exact HB.out))); rintro e w20 ⟨rfl, hb⟩; refine ⟨_, rfl, ?_⟩; have n0_ := Aside0.mk (blk_below (g := gb11001) (o := .cells #[.string a0_0, .slice A0_1 l0_1.length c0_1, .int .i64 a0_2, .int .i64 a0_3, .slice A0_4 l0_4.length c0_4] 35 (0, 0)) (by (with_reducible repeat (first | refine blk_drewN ?_ _ | refine blk_drew ?_ | refine blk_alloc ?_ _)); exact BK11001.out) hb); have n1_ := Aside0.mk (below_step (by repeat (first | (with_reducible first | exact HB.out | apply below_alloc | apply pw_below_drewN | apply below_drew1 | refine below_set ?_ GE11001.out) | exact HB.out)) hb); clear BK11001; clear HB; have BK11001 := n0_; have HB := n1_; clear n0_ n1_; (try clear hb); (try clear hb2); (try clear hk); (try clear hi); have hcz21_0 : w20.cell? ⟨gb11001, 0, none⟩ = some (.string a0_0) := (blk_cell BK11001.out 0).trans rfl; have hcz21_1 : w20.cell? ⟨gb11001, 1, none⟩ = some (.slice A0_1 l0_1.length c0_1) := (blk_cell BK11001.out 1).trans rfl; have hcz21_2 : w20.cell? ⟨gb11001, 2, none⟩ = some (.int .i64 a0_2) := (blk_cell BK11001.out 2).trans rfl; have hcz21_3 : w20.cell? ⟨gb11001, 3, none⟩ = some (.int .i64 a0_3) := (blk_cell BK11001.out 3).trans rfl; have hcz21_4 : w20.cell? ⟨gb11001, 4, none⟩ = some (.slice A0_4 l0_4.length c0_4) := (blk_cell BK11001.out 4).trans rfl; have hfz21_0 := blk_frozen BK11001.out 0; have hfz21_1 := blk_frozen BK11001.out 1; have hfz21_2 := blk_frozen BK11001.out 2; have hfz21_3 := blk_frozen BK11001.out 3; have hfz21_4 := blk_frozen BK11001.out 4) | ((with_reducible refine gate_callee (f := 31) rfl ?_); refine goesL_ (some 37) rfl rfl Tryd.func31 (by kernel_rfl) rfl #[.agg #[.string a0_0, .slice A0_1 l0_1.length c0_1, .int .i64 a0_2, .int .i64 a0_3, .slice A0_4 l0_4.length c0_4]] rfl (by (try simp only [List.map_toArray, List.map_cons, List.map_nil]); first | done | rfl | (simp only [List.length_drop, List.length_take]; rfl)) ?_; (with_reducible refine (protocol_Doomed.calls kj2 a0_0 _ _ l0_1 a0_2 a0_3 _ _ l0_4 t11005 _ ?side1 ?side2 ?side3 ?side4 ?side5 A18.out).mono ?_); (case side1 => repeat (first | exact (Kd.C_below HR0_1.out HB.out) | (with_reducible refine Kd.C_alloc ?_ _) | (with_reducible refine Kd.C_drewN ?_ _) | (with_reducible refine Kd.C_drew ?_))); (case side2 => exact HC0_1.out); (case side3 => repeat (first | exact (Kd.C_below HR0_4.out HB.out) | (with_reducible refine Kd.C_alloc ?_ _) | (with_reducible refine Kd.C_drewN ?_ _) | (with_reducible refine Kd.C_drew ?_))); (case side4 => exact HC0_4.out); (case side5 => exact Gh.below HGH.out (by repeat (first | (with_reducible first | exact HB.out | apply below_alloc | apply pw_below_drewN | apply below_drew1 | refine below_set ?_ GE11001.out) | exact HB.out))); rintro e w22 ⟨v11006, rfl, ho0, hb⟩; refine ⟨_, rfl, ?_⟩; have n0_ := Aside0.mk (Kd.R_lower ho0 (below_size (by repeat (first | (with_reducible first | exact HB.out | apply below_alloc | apply pw_below_drewN | apply below_drew1 | refine below_set ?_ GE11001.out) | exact HB.out)))); have n1_ := Aside0.mk (blk_below (g := gb11001) (o := .cells #[.string a0_0, .slice A0_1 l0_1.length c0_1, .int .i64 a0_2, .int .i64 a0_3, .slice A0_4 l0_4.length c0_4] 35 (0, 0)) (by (with_reducible repeat (first | refine blk_drewN ?_ _ | refine blk_drew ?_ | refine blk_alloc ?_ _)); exact BK11001.out) hb); have n2_ := Aside0.mk (below_step (by repeat (first | (with_reducible first | exact HB.out | apply below_alloc | apply pw_below_drewN | apply below_drew1 | refine below_set ?_ GE11001.out) | exact HB.out)) hb); clear BK11001; clear HB; have HO11007 := n0_; have BK11001 := n1_; have HB := n2_; clear n0_ n1_ n2_; (try clear hb); (try clear hb2); (try clear hk); (try clear hi); (try clear ho0)))
        go_loopg [7, 8] kj2 (fun kq v7 v8 w' => ∃ (x7_2 : Bool) (x8_2 : Int), v7 = .bool x7_2 ∧ v8 = .int .i64 x8_2 ∧ Aside0 (dataflowlaw39_ProtocolAbsorbs.l0 kq l1 t11004 t11005 x7_2 x8_2 a0_0 l0_1 a0_2 a0_3 l0_4 = some r) ∧ Aside0 (kq ≤ kj2) ∧ Aside0 (Kd.R (Kd.int .i64) 3 w' w.heap.size (fun _ => True) v11006 t11005) ∧ Aside0 (w'.heap[gb11001]? = some (.cells #[.string a0_0, (.slice A0_1 l0_1.length c0_1), .int .i64 a0_2, .int .i64 a0_3, (.slice A0_4 l0_4.length c0_4)] 35 (0, 0))) ∧ Aside0 (Below w.heap.size w w'))
        case atStart => exact ⟨(false), (0), (by first | rfl | (simp; done) | (simp [*]; done)), (by first | rfl | (simp; done) | (simp [*]; done)), H', ⟨Nat.le_refl _⟩, ⟨by (with_reducible repeat (first | apply Kd.R_alloc | apply Kd.R_drewN | apply Kd.R_drew)); exact HO11007.out⟩, ⟨by (with_reducible repeat (first | refine blk_drewN ?_ _ | refine blk_drew ?_ | refine blk_alloc ?_ _)); exact BK11001.out⟩, ⟨by repeat (first | (with_reducible first | exact HB.out | apply below_alloc | apply pw_below_drewN | apply below_drew1 | refine below_set ?_ GE11001.out) | exact HB.out)⟩⟩
        case round =>
          clear H'
          try clear c1
          try clear c2
          try clear p2
          try clear c3
          try clear c5
          try clear c5b0
          try clear c5b1
          try clear c7
          try clear c7b0
          try clear c7b1
          try clear c9
          try clear c9b0
          try clear c9b1
          try clear c10
          try clear c14
          try clear hcz10_0
          try clear hcz10_1
          try clear hcz10_2
          try clear hcz10_3
          try clear hcz10_4
          try clear hcz12_0
          try clear hcz12_1
          try clear hcz12_2
          try clear hcz12_3
          try clear hcz12_4
          try clear hcz19_0
          try clear hcz19_1
          try clear hcz19_2
          try clear hcz19_3
          try clear hcz19_4
          try clear hcz21_0
          try clear hcz21_1
          try clear hcz21_2
          try clear hcz21_3
          try clear hcz21_4
          try clear hcz6_0
          try clear hcz6_1
          try clear hcz6_2
          try clear hcz6_3
          try clear hcz6_4
          try clear hcz8_0
          try clear hcz8_1
          try clear hcz8_2
          try clear hcz8_3
          try clear hcz8_4
          try clear hfz10_0
          try clear hfz10_1
          try clear hfz10_2
          try clear hfz10_3
          try clear hfz10_4
          try clear hfz12_0
          try clear hfz12_1
          try clear hfz12_2
          try clear hfz12_3
          try clear hfz12_4
          try clear hfz19_0
          try clear hfz19_1
          try clear hfz19_2
          try clear hfz19_3
          try clear hfz19_4
          try clear hfz21_0
          try clear hfz21_1
          try clear hfz21_2
          try clear hfz21_3
          try clear hfz21_4
          try clear hfz6_0
          try clear hfz6_1
          try clear hfz6_2
          try clear hfz6_3
          try clear hfz6_4
          try clear hfz8_0
          try clear hfz8_1
          try clear hfz8_2
          try clear hfz8_3
          try clear hfz8_4
          try clear p2
          obtain ⟨x7_2, x8_2, rfl, rfl, HA, HK2, HO_6, BK11001, HB⟩ := hrel
          cases gk with
          | zero => exact absurd HA.out (by simp [dataflowlaw39_ProtocolAbsorbs.l0])
          | succ k2 =>
            have H := HA.out
            clear HA
            simp only [dataflowlaw39_ProtocolAbsorbs.l0] at H
            by_cases c23 : x8_2 ≤ (l1.length : Int)
            · rw [if_pos c23] at H
              have c23b0 : decide (x8_2 ≤ (l1.length : Int)) = true := decide_eq_true c23
              clear c23
              by_cases c24 : 0 ≤ x8_2
              · rw [if_pos c24] at H
                have c24b0 := eq_true c24
                have c24b1 : decide (0 ≤ x8_2) = true := decide_eq_true c24
                clear c24
                have c25b0 := eq_true (of_decide_eq_true (by first | (with_reducible assumption) | assumption) : x8_2 ≤ (l1.length : Int))
                replace H := Option.bind_eq_some_iff.mp H
                obtain ⟨t11010, A260, H⟩ := H
                replace H : (if x7_2 = true then (dataflowlaw39_ProtocolAbsorbs.j2 k2 l1 t11004 t11005 x7_2 x8_2 t11010 (t11010 != a0_3) a0_0 l0_1 a0_2 a0_3 l0_4) else (dataflowlaw39_ProtocolAbsorbs.j2 k2 l1 t11004 t11005 x7_2 x8_2 t11010 false a0_0 l0_1 a0_2 a0_3 l0_4)) = some r := H
                have A26 := Aside0.mk A260
                clear A260
                have HC27 := Aside0.mk H
                clear H
                try go_wp2
                have n0_ := Aside0.mk (Kd.R_drew HO_6.out)
                have n1_ := Aside0.mk (blk_drew BK11001.out)
                have n2_ := Aside0.mk (below_drew1 HB.out)
                clear HO_6
                clear BK11001
                clear HB
                have HO_6 := n0_
                have BK11001 := n1_
                have HB := n2_
                clear n0_ n1_ n2_
                obtain ⟨i029, hi029, _, hsz29, _⟩ := info_parts info9
                obtain ⟨hcut29, hA29, hC29⟩ := print_take_of (P := Tryd.prog) Value.string (⟨#[]⟩ : ByteArray) 32 9 .i64 Tryd.underlying32 hi029 hsz29 A1 c1 l1 x8_2 (of_decide_eq_true (by first | (with_reducible assumption) | assumption)) (of_decide_eq_true (by first | (with_reducible assumption) | assumption)) HC1.out
                have HR11009 := Aside0.mk (Kd.C_of_reads (h1 := fun _ => rfl) (hA29 _ (Kd.reads_of_C HR1.out)))
                have HC11009 := Aside0.mk hC29
                clear hA29 hC29 hi029 hsz29
                refine start_ (n := 6) (S := fun w' => w'.cell? ⟨gb11001, 0, none⟩ = some (.string a0_0) ∧ w'.cell? ⟨gb11001, 1, none⟩ = some (.slice A0_1 l0_1.length c0_1) ∧ w'.cell? ⟨gb11001, 2, none⟩ = some (.int .i64 a0_2) ∧ w'.cell? ⟨gb11001, 3, none⟩ = some (.int .i64 a0_3) ∧ w'.cell? ⟨gb11001, 4, none⟩ = some (.slice A0_4 l0_4.length c0_4)) (ds := []) #[false, false, false, false, false, false] (by kernel_rfl) rfl rfl ⟨(blk_cell BK11001.out 0).trans rfl, (blk_cell BK11001.out 1).trans rfl, (blk_cell BK11001.out 2).trans rfl, (blk_cell BK11001.out 3).trans rfl, (blk_cell BK11001.out 4).trans rfl⟩ (fun hHeld => ?_)
                generalize wr.drew = w28 at HO_6 BK11001 HB HR11009 hHeld ⊢
                refine pure_ (i := 1) (N := some 45) (v := ?_) (a' := ?_) #[false, true, false, false, false, false] rfl rfl (by kernel_rfl) (fun _ _ _ h => h) (Or.inl ⟨by rfl, ?_⟩) ?_ ?_
                rotate_left
                · intro w'
                  go_simp
                  with_reducible rfl
                rotate_left
                · simp only [Act.put, List.setIfInBounds_toArray, List.set_cons_zero, List.set_cons_succ, i64_w, i32_w]
                  rfl
                refine pure_ (i := 2) (N := some 46) (v := ?_) (a' := ?_) #[false, true, true, false, false, false] rfl rfl (by kernel_rfl) (fun _ _ _ h => h) (Or.inl ⟨by rfl, ?_⟩) ?_ ?_
                rotate_left
                · intro w'
                  go_simp
                  with_reducible rfl
                rotate_left
                · simp only [Act.put, List.setIfInBounds_toArray, List.set_cons_zero, List.set_cons_succ, i64_w, i32_w]
                  rfl
                refine pure_ (i := 3) (N := some 47) (v := ?_) (a' := ?_) #[false, true, true, true, false, false] rfl rfl (by kernel_rfl) (fun _ _ _ h => h) (Or.inl ⟨by rfl, ?_⟩) ?_ ?_
                rotate_left
                · intro w'
                  go_simp
                  with_reducible rfl
                rotate_left
                · simp only [Act.put, List.setIfInBounds_toArray, List.set_cons_zero, List.set_cons_succ, i64_w, i32_w]
                  rfl
                refine take_ (i := 0) (N := some 44) (v := ?_) (a' := ?_) #[true, true, true, true, false, false] rfl rfl (by kernel_rfl) (fun _ _ _ h => h) (Or.inl ⟨by rfl, ?_⟩) hHeld ?_ ?_
                rotate_left
                · rintro w' ⟨s0, s1, s2, s3, s4⟩
                  go_simp
                  with_reducible rfl
                rotate_left
                · simp only [Act.put, List.setIfInBounds_toArray, List.set_cons_zero, List.set_cons_succ, i64_w, i32_w]
                  rfl
                refine one_ (i := 4) (N := some 48) #[true, true, true, true, true, false] rfl rfl (by kernel_rfl) (by decide) (fun K hK => ?_)
                refine goes_ Tryd.func27 (by kernel_rfl) rfl #[.agg #[.string a0_0, .slice A0_1 l0_1.length c0_1, .int .i64 a0_2, .int .i64 a0_3, .slice A0_4 l0_4.length c0_4], .slice A1 (l1.take (x8_2 : Int).toNat).length c1] (by rfl) rfl rfl (by (try simp only [List.map_toArray, List.map_cons, List.map_nil]); first | done | (rw [show (l1.take (x8_2 : Int).toNat).length = x8_2.toNat from (by rw [List.length_take]; have h_ : (x8_2 : Int) ≤ (l1.length : Int) := of_decide_eq_true (by first | (with_reducible assumption) | assumption); omega)] <;> rfl) | rfl | (simp only [List.length_drop, List.length_take]; rfl)) ?_
                with_reducible refine (protocol_Run.calls k2 a0_0 _ _ l0_1 a0_2 a0_3 _ _ l0_4 _ _ (l1.take (x8_2 : Int).toNat) t11010 _ ?side1 ?side2 ?side3 ?side4 ?side5 ?side6 ?side7 A26.out).mono ?_
                (case side1 => repeat (first | exact (Kd.C_below HR0_1.out HB.out) | (with_reducible refine Kd.C_alloc ?_ _) | (with_reducible refine Kd.C_drewN ?_ _) | (with_reducible refine Kd.C_drew ?_)))
                (case side2 => exact HC0_1.out)
                (case side3 => repeat (first | exact (Kd.C_below HR0_4.out HB.out) | (with_reducible refine Kd.C_alloc ?_ _) | (with_reducible refine Kd.C_drewN ?_ _) | (with_reducible refine Kd.C_drew ?_)))
                (case side4 => exact HC0_4.out)
                (case side5 => repeat (first | exact (Kd.C_below HR11009.out HB.out) | (with_reducible refine Kd.C_alloc ?_ _) | (with_reducible refine Kd.C_drewN ?_ _) | (with_reducible refine Kd.C_drew ?_)))
                (case side6 => exact HC11009.out)
                (case side7 => exact Gh.below HGH.out (by repeat (first | (with_reducible first | exact HB.out | apply below_alloc | apply pw_below_drewN | apply below_drew1 | refine below_set ?_ GE11001.out) | exact HB.out)))
                rintro e w30 ⟨rfl, hb⟩
                refine ⟨_, rfl, ?_⟩
                have n0_ := Aside0.mk (Kd.R_below (by (with_reducible repeat (first | apply Kd.R_alloc | apply Kd.R_drewN | apply Kd.R_drew)); exact HO_6.out) hb)
                have n1_ := Aside0.mk (blk_below (g := gb11001) (o := .cells #[.string a0_0, .slice A0_1 l0_1.length c0_1, .int .i64 a0_2, .int .i64 a0_3, .slice A0_4 l0_4.length c0_4] 35 (0, 0)) (by (with_reducible repeat (first | refine blk_drewN ?_ _ | refine blk_drew ?_ | refine blk_alloc ?_ _)); exact BK11001.out) hb)
                have n2_ := Aside0.mk (below_step (by repeat (first | (with_reducible first | exact HB.out | apply below_alloc | apply pw_below_drewN | apply below_drew1 | refine below_set ?_ GE11001.out) | exact HB.out)) hb)
                clear HO_6
                clear BK11001
                clear HB
                have HO_6 := n0_
                have BK11001 := n1_
                have HB := n2_
                clear n0_ n1_ n2_
                (try clear hb)
                (try clear hb2)
                (try clear hk)
                (try clear hi)
                refine hK.out _ _ ⟨(blk_cell BK11001.out 0).trans rfl, (blk_cell BK11001.out 1).trans rfl, (blk_cell BK11001.out 2).trans rfl, (blk_cell BK11001.out 3).trans rfl, (blk_cell BK11001.out 4).trans rfl⟩ (fun hHeld => ?_)
                clear hK K
                refine norm_ (a' := ?_) ?_ ?_
                rotate_left
                · show Act.put _ (some 48) _ = _
                  simp only [Act.put, List.setIfInBounds_toArray, List.set_cons_zero, List.set_cons_succ, i64_w, i32_w]
                  rfl
                refine pure_ (i := 5) (N := some 9) (v := ?_) (a' := ?_) #[true, true, true, true, true, true] rfl rfl (by kernel_rfl) (fun _ _ _ h => h) (Or.inl ⟨by rfl, ?_⟩) ?_ ?_
                rotate_left
                · intro w'
                  go_simp
                  with_reducible rfl
                rotate_left
                · simp only [Act.put, List.setIfInBounds_toArray, List.set_cons_zero, List.set_cons_succ, i64_w, i32_w]
                  rfl
                refine done_ (by kernel_rfl) ?_
                go_upto_region 10 with (fail)
                go_cut [55] (fun v55 wc => ∃ (kq : Nat) (x55_26 : Bool), v55 = .bool x55_26 ∧ Aside0 (dataflowlaw39_ProtocolAbsorbs.j2 kq l1 t11004 t11005 x7_2 x8_2 t11010 x55_26 a0_0 l0_1 a0_2 a0_3 l0_4 = some r) ∧ Aside0 (kq ≤ k2) ∧ Aside0 (Kd.R (Kd.int .i64) 3 wc w.heap.size (fun _ => True) v11006 t11005) ∧ Aside0 (wc.heap[gb11001]? = some (.cells #[.string a0_0, (.slice A0_1 l0_1.length c0_1), .int .i64 a0_2, .int .i64 a0_3, (.slice A0_4 l0_4.length c0_4)] 35 (0, 0))) ∧ Aside0 (Below w.heap.size w wc))
                case first =>
                  have H := HC27.out
                  clear HC27
                  by_cases c31 : x7_2 = true
                  · subst c31
                    have H1 : (dataflowlaw39_ProtocolAbsorbs.j2 k2 l1 t11004 t11005 true x8_2 t11010 (t11010 != a0_3) a0_0 l0_1 a0_2 a0_3 l0_4) = some r := by rw [if_pos rfl] at H; exact H
                    clear H
                    have H := H1
                    clear H1
                    have H' := Aside0.mk H
                    clear H
                    have hcz32_0 : w30.cell? ⟨gb11001, 0, none⟩ = some (.string a0_0) := (blk_cell BK11001.out 0).trans rfl
                    have hcz32_1 : w30.cell? ⟨gb11001, 1, none⟩ = some (.slice A0_1 l0_1.length c0_1) := (blk_cell BK11001.out 1).trans rfl
                    have hcz32_2 : w30.cell? ⟨gb11001, 2, none⟩ = some (.int .i64 a0_2) := (blk_cell BK11001.out 2).trans rfl
                    have hcz32_3 : w30.cell? ⟨gb11001, 3, none⟩ = some (.int .i64 a0_3) := (blk_cell BK11001.out 3).trans rfl
                    have hcz32_4 : w30.cell? ⟨gb11001, 4, none⟩ = some (.slice A0_4 l0_4.length c0_4) := (blk_cell BK11001.out 4).trans rfl
                    have hfz32_0 := blk_frozen BK11001.out 0
                    have hfz32_1 := blk_frozen BK11001.out 1
                    have hfz32_2 := blk_frozen BK11001.out 2
                    have hfz32_3 := blk_frozen BK11001.out 3
                    have hfz32_4 := blk_frozen BK11001.out 4
                    go_wp2
                    go_meet
                    case rel => exact ⟨_, ((t11010 != a0_3)), (by first | rfl | (simp; done) | (simp [*]; done)), H', ⟨by have := HJ2.out; have := HK2.out; first | omega | exact Nat.le_refl _⟩, ⟨by (with_reducible repeat (first | apply Kd.R_alloc | apply Kd.R_drewN | apply Kd.R_drew)); exact HO_6.out⟩, ⟨by (with_reducible repeat (first | refine blk_drewN ?_ _ | refine blk_drew ?_ | refine blk_alloc ?_ _)); exact BK11001.out⟩, ⟨by repeat (first | (with_reducible first | exact HB.out | apply below_alloc | apply pw_below_drewN | apply below_drew1 | refine below_set ?_ GE11001.out) | exact HB.out)⟩⟩
                  · replace c31 := Bool.eq_false_iff.mpr c31
                    subst c31
                    have H1 : (dataflowlaw39_ProtocolAbsorbs.j2 k2 l1 t11004 t11005 false x8_2 t11010 false a0_0 l0_1 a0_2 a0_3 l0_4) = some r := by rw [if_neg (show ¬ (false = true) by decide)] at H; exact H
                    clear H
                    have H := H1
                    clear H1
                    have H' := Aside0.mk H
                    clear H
                    go_wp2
                    go_meet
                    case rel => exact ⟨_, (false), (by first | rfl | (simp; done) | (simp [*]; done)), H', ⟨by have := HJ2.out; have := HK2.out; first | omega | exact Nat.le_refl _⟩, ⟨by (with_reducible repeat (first | apply Kd.R_alloc | apply Kd.R_drewN | apply Kd.R_drew)); exact HO_6.out⟩, ⟨by (with_reducible repeat (first | refine blk_drewN ?_ _ | refine blk_drew ?_ | refine blk_alloc ?_ _)); exact BK11001.out⟩, ⟨by repeat (first | (with_reducible first | exact HB.out | apply below_alloc | apply pw_below_drewN | apply below_drew1 | refine below_set ?_ GE11001.out) | exact HB.out)⟩⟩
                case rest =>
                  clear HC27
                  try clear c1
                  try clear c2
                  try clear p2
                  try clear c3
                  try clear c5
                  try clear c5b0
                  try clear c5b1
                  try clear c7
                  try clear c7b0
                  try clear c7b1
                  try clear c9
                  try clear c9b0
                  try clear c9b1
                  try clear c10
                  try clear c14
                  try clear c23
                  try clear c23b0
                  try clear c24
                  try clear c24b0
                  try clear c24b1
                  try clear c25
                  try clear c25b0
                  try clear c27
                  try clear c31
                  try clear hcz10_0
                  try clear hcz10_1
                  try clear hcz10_2
                  try clear hcz10_3
                  try clear hcz10_4
                  try clear hcz12_0
                  try clear hcz12_1
                  try clear hcz12_2
                  try clear hcz12_3
                  try clear hcz12_4
                  try clear hcz19_0
                  try clear hcz19_1
                  try clear hcz19_2
                  try clear hcz19_3
                  try clear hcz19_4
                  try clear hcz21_0
                  try clear hcz21_1
                  try clear hcz21_2
                  try clear hcz21_3
                  try clear hcz21_4
                  try clear hcz32_0
                  try clear hcz32_1
                  try clear hcz32_2
                  try clear hcz32_3
                  try clear hcz32_4
                  try clear hcz6_0
                  try clear hcz6_1
                  try clear hcz6_2
                  try clear hcz6_3
                  try clear hcz6_4
                  try clear hcz8_0
                  try clear hcz8_1
                  try clear hcz8_2
                  try clear hcz8_3
                  try clear hcz8_4
                  try clear hfz10_0
                  try clear hfz10_1
                  try clear hfz10_2
                  try clear hfz10_3
                  try clear hfz10_4
                  try clear hfz12_0
                  try clear hfz12_1
                  try clear hfz12_2
                  try clear hfz12_3
                  try clear hfz12_4
                  try clear hfz19_0
                  try clear hfz19_1
                  try clear hfz19_2
                  try clear hfz19_3
                  try clear hfz19_4
                  try clear hfz21_0
                  try clear hfz21_1
                  try clear hfz21_2
                  try clear hfz21_3
                  try clear hfz21_4
                  try clear hfz32_0
                  try clear hfz32_1
                  try clear hfz32_2
                  try clear hfz32_3
                  try clear hfz32_4
                  try clear hfz6_0
                  try clear hfz6_1
                  try clear hfz6_2
                  try clear hfz6_3
                  try clear hfz6_4
                  try clear hfz8_0
                  try clear hfz8_1
                  try clear hfz8_2
                  try clear hfz8_3
                  try clear hfz8_4
                  try clear p2
                  obtain ⟨kq, x55_26, rfl, HA, HJ26, HO_6, BK11001, HB⟩ := hcut
                  cases kq with
                  | zero => exact absurd HA.out (by simp [dataflowlaw39_ProtocolAbsorbs.j2])
                  | succ kj26 =>
                    have H := HA.out
                    clear HA
                    simp only [dataflowlaw39_ProtocolAbsorbs.j2] at H
                    by_cases c33 : x55_26 = true
                    · subst c33
                      have H1 : (some false) = some r := by rw [if_pos rfl] at H; exact H
                      clear H
                      have H := H1
                      clear H1
                      obtain rfl := Option.some.inj H
                      go_wp2
                      go_ret
                      exact ⟨by first | rfl | (simp [errW_none, errW_some] <;> rfl) | (simp [*, errW_none, errW_some] <;> rfl), by repeat (first | (with_reducible first | exact HB.out | apply below_alloc | apply pw_below_drewN | apply below_drew1 | refine below_set ?_ GE11001.out) | exact HB.out)⟩
                    · replace c33 := Bool.eq_false_iff.mpr c33
                      subst c33
                      have H1 : (if x7_2 = true then (dataflowlaw39_ProtocolAbsorbs.j3 kj26 l1 t11004 t11005 true x8_2 t11010 a0_0 l0_1 a0_2 a0_3 l0_4) else (dataflowlaw39_ProtocolAbsorbs.j3 kj26 l1 t11004 t11005 (t11010 == a0_3) x8_2 t11010 a0_0 l0_1 a0_2 a0_3 l0_4)) = some r := by rw [if_neg (show ¬ (false = true) by decide)] at H; exact H
                      clear H
                      have H := H1
                      clear H1
                      have HC34 := Aside0.mk H
                      clear H
                      go_upto_region 12 with (fail)
                      go_cut [7] (fun v7 wc => ∃ (kq : Nat) (x7_33 : Bool), v7 = .bool x7_33 ∧ Aside0 (dataflowlaw39_ProtocolAbsorbs.j3 kq l1 t11004 t11005 x7_33 x8_2 t11010 a0_0 l0_1 a0_2 a0_3 l0_4 = some r) ∧ Aside0 (kq ≤ kj26) ∧ Aside0 (Kd.R (Kd.int .i64) 3 wc w.heap.size (fun _ => True) v11006 t11005) ∧ Aside0 (wc.heap[gb11001]? = some (.cells #[.string a0_0, (.slice A0_1 l0_1.length c0_1), .int .i64 a0_2, .int .i64 a0_3, (.slice A0_4 l0_4.length c0_4)] 35 (0, 0))) ∧ Aside0 (Below w.heap.size w wc))
                      case first =>
                        have H := HC34.out
                        clear HC34
                        by_cases c35 : x7_2 = true
                        · subst c35
                          have H1 : (dataflowlaw39_ProtocolAbsorbs.j3 kj26 l1 t11004 t11005 true x8_2 t11010 a0_0 l0_1 a0_2 a0_3 l0_4) = some r := by rw [if_pos rfl] at H; exact H
                          clear H
                          have H := H1
                          clear H1
                          have H' := Aside0.mk H
                          clear H
                          go_wp2
                          go_meet
                          case rel => exact ⟨_, (true), (by first | rfl | (simp; done) | (simp [*]; done)), H', ⟨by have := HJ2.out; have := HK2.out; have := HJ26.out; first | omega | exact Nat.le_refl _⟩, ⟨by (with_reducible repeat (first | apply Kd.R_alloc | apply Kd.R_drewN | apply Kd.R_drew)); exact HO_6.out⟩, ⟨by (with_reducible repeat (first | refine blk_drewN ?_ _ | refine blk_drew ?_ | refine blk_alloc ?_ _)); exact BK11001.out⟩, ⟨by repeat (first | (with_reducible first | exact HB.out | apply below_alloc | apply pw_below_drewN | apply below_drew1 | refine below_set ?_ GE11001.out) | exact HB.out)⟩⟩
                        · replace c35 := Bool.eq_false_iff.mpr c35
                          subst c35
                          have H1 : (dataflowlaw39_ProtocolAbsorbs.j3 kj26 l1 t11004 t11005 (t11010 == a0_3) x8_2 t11010 a0_0 l0_1 a0_2 a0_3 l0_4) = some r := by rw [if_neg (show ¬ (false = true) by decide)] at H; exact H
                          clear H
                          have H := H1
                          clear H1
                          have H' := Aside0.mk H
                          clear H
                          have hcz36_0 : wc.cell? ⟨gb11001, 0, none⟩ = some (.string a0_0) := (blk_cell BK11001.out 0).trans rfl
                          have hcz36_1 : wc.cell? ⟨gb11001, 1, none⟩ = some (.slice A0_1 l0_1.length c0_1) := (blk_cell BK11001.out 1).trans rfl
                          have hcz36_2 : wc.cell? ⟨gb11001, 2, none⟩ = some (.int .i64 a0_2) := (blk_cell BK11001.out 2).trans rfl
                          have hcz36_3 : wc.cell? ⟨gb11001, 3, none⟩ = some (.int .i64 a0_3) := (blk_cell BK11001.out 3).trans rfl
                          have hcz36_4 : wc.cell? ⟨gb11001, 4, none⟩ = some (.slice A0_4 l0_4.length c0_4) := (blk_cell BK11001.out 4).trans rfl
                          have hfz36_0 := blk_frozen BK11001.out 0
                          have hfz36_1 := blk_frozen BK11001.out 1
                          have hfz36_2 := blk_frozen BK11001.out 2
                          have hfz36_3 := blk_frozen BK11001.out 3
                          have hfz36_4 := blk_frozen BK11001.out 4
                          go_wp2
                          go_meet
                          case rel => exact ⟨_, ((t11010 == a0_3)), (by first | rfl | (simp; done) | (simp [*]; done)), H', ⟨by have := HJ2.out; have := HK2.out; have := HJ26.out; first | omega | exact Nat.le_refl _⟩, ⟨by (with_reducible repeat (first | apply Kd.R_alloc | apply Kd.R_drewN | apply Kd.R_drew)); exact HO_6.out⟩, ⟨by (with_reducible repeat (first | refine blk_drewN ?_ _ | refine blk_drew ?_ | refine blk_alloc ?_ _)); exact BK11001.out⟩, ⟨by repeat (first | (with_reducible first | exact HB.out | apply below_alloc | apply pw_below_drewN | apply below_drew1 | refine below_set ?_ GE11001.out) | exact HB.out)⟩⟩
                      case rest =>
                        clear HC34
                        try clear c1
                        try clear c2
                        try clear p2
                        try clear c3
                        try clear c5
                        try clear c5b0
                        try clear c5b1
                        try clear c7
                        try clear c7b0
                        try clear c7b1
                        try clear c9
                        try clear c9b0
                        try clear c9b1
                        try clear c10
                        try clear c14
                        try clear c23
                        try clear c23b0
                        try clear c24
                        try clear c24b0
                        try clear c24b1
                        try clear c25
                        try clear c25b0
                        try clear c27
                        try clear c31
                        try clear c33
                        try clear c35
                        try clear hcz10_0
                        try clear hcz10_1
                        try clear hcz10_2
                        try clear hcz10_3
                        try clear hcz10_4
                        try clear hcz12_0
                        try clear hcz12_1
                        try clear hcz12_2
                        try clear hcz12_3
                        try clear hcz12_4
                        try clear hcz19_0
                        try clear hcz19_1
                        try clear hcz19_2
                        try clear hcz19_3
                        try clear hcz19_4
                        try clear hcz21_0
                        try clear hcz21_1
                        try clear hcz21_2
                        try clear hcz21_3
                        try clear hcz21_4
                        try clear hcz32_0
                        try clear hcz32_1
                        try clear hcz32_2
                        try clear hcz32_3
                        try clear hcz32_4
                        try clear hcz36_0
                        try clear hcz36_1
                        try clear hcz36_2
                        try clear hcz36_3
                        try clear hcz36_4
                        try clear hcz6_0
                        try clear hcz6_1
                        try clear hcz6_2
                        try clear hcz6_3
                        try clear hcz6_4
                        try clear hcz8_0
                        try clear hcz8_1
                        try clear hcz8_2
                        try clear hcz8_3
                        try clear hcz8_4
                        try clear hfz10_0
                        try clear hfz10_1
                        try clear hfz10_2
                        try clear hfz10_3
                        try clear hfz10_4
                        try clear hfz12_0
                        try clear hfz12_1
                        try clear hfz12_2
                        try clear hfz12_3
                        try clear hfz12_4
                        try clear hfz19_0
                        try clear hfz19_1
                        try clear hfz19_2
                        try clear hfz19_3
                        try clear hfz19_4
                        try clear hfz21_0
                        try clear hfz21_1
                        try clear hfz21_2
                        try clear hfz21_3
                        try clear hfz21_4
                        try clear hfz32_0
                        try clear hfz32_1
                        try clear hfz32_2
                        try clear hfz32_3
                        try clear hfz32_4
                        try clear hfz36_0
                        try clear hfz36_1
                        try clear hfz36_2
                        try clear hfz36_3
                        try clear hfz36_4
                        try clear hfz6_0
                        try clear hfz6_1
                        try clear hfz6_2
                        try clear hfz6_3
                        try clear hfz6_4
                        try clear hfz8_0
                        try clear hfz8_1
                        try clear hfz8_2
                        try clear hfz8_3
                        try clear hfz8_4
                        try clear p2
                        obtain ⟨kq, x7_33, rfl, HA, HJ33, HO_6, BK11001, HB⟩ := hcut
                        cases kq with
                        | zero => exact absurd HA.out (by simp [dataflowlaw39_ProtocolAbsorbs.j3])
                        | succ kj33 =>
                          have H := HA.out
                          clear HA
                          simp only [dataflowlaw39_ProtocolAbsorbs.j3] at H
                          have H' := Aside0.mk H
                          clear H
                          go_wp2
                          go_loopg [10, 11] kj33 (fun kq v10 v11 w' => ∃ (x10_5 : Bool) (x11_5 : Int), v10 = .bool x10_5 ∧ v11 = .int .i64 x11_5 ∧ Aside0 (dataflowlaw39_ProtocolAbsorbs.l1 kq l1 t11004 t11005 x7_33 x8_2 t11010 x10_5 x11_5 a0_0 l0_1 a0_2 a0_3 l0_4 = some r) ∧ Aside0 (kq ≤ kj33) ∧ Aside0 (Kd.R (Kd.int .i64) 3 w' w.heap.size (fun _ => True) v11006 t11005) ∧ Aside0 (w'.heap[gb11001]? = some (.cells #[.string a0_0, (.slice A0_1 l0_1.length c0_1), .int .i64 a0_2, .int .i64 a0_3, (.slice A0_4 l0_4.length c0_4)] 35 (0, 0))) ∧ Aside0 (Below w.heap.size w w'))
                          case atStart => exact ⟨(false), (0), (by first | rfl | (simp; done) | (simp [*]; done)), (by first | rfl | (simp; done) | (simp [*]; done)), H', ⟨Nat.le_refl _⟩, ⟨by (with_reducible repeat (first | apply Kd.R_alloc | apply Kd.R_drewN | apply Kd.R_drew)); exact HO_6.out⟩, ⟨by (with_reducible repeat (first | refine blk_drewN ?_ _ | refine blk_drew ?_ | refine blk_alloc ?_ _)); exact BK11001.out⟩, ⟨by repeat (first | (with_reducible first | exact HB.out | apply below_alloc | apply pw_below_drewN | apply below_drew1 | refine below_set ?_ GE11001.out) | exact HB.out)⟩⟩
                          case round =>
                            clear H'
                            try clear c1
                            try clear c2
                            try clear p2
                            try clear c3
                            try clear c5
                            try clear c5b0
                            try clear c5b1
                            try clear c7
                            try clear c7b0
                            try clear c7b1
                            try clear c9
                            try clear c9b0
                            try clear c9b1
                            try clear c10
                            try clear c14
                            try clear c23
                            try clear c23b0
                            try clear c24
                            try clear c24b0
                            try clear c24b1
                            try clear c25
                            try clear c25b0
                            try clear c27
                            try clear c31
                            try clear c33
                            try clear c35
                            try clear hcz10_0
                            try clear hcz10_1
                            try clear hcz10_2
                            try clear hcz10_3
                            try clear hcz10_4
                            try clear hcz12_0
                            try clear hcz12_1
                            try clear hcz12_2
                            try clear hcz12_3
                            try clear hcz12_4
                            try clear hcz19_0
                            try clear hcz19_1
                            try clear hcz19_2
                            try clear hcz19_3
                            try clear hcz19_4
                            try clear hcz21_0
                            try clear hcz21_1
                            try clear hcz21_2
                            try clear hcz21_3
                            try clear hcz21_4
                            try clear hcz32_0
                            try clear hcz32_1
                            try clear hcz32_2
                            try clear hcz32_3
                            try clear hcz32_4
                            try clear hcz36_0
                            try clear hcz36_1
                            try clear hcz36_2
                            try clear hcz36_3
                            try clear hcz36_4
                            try clear hcz6_0
                            try clear hcz6_1
                            try clear hcz6_2
                            try clear hcz6_3
                            try clear hcz6_4
                            try clear hcz8_0
                            try clear hcz8_1
                            try clear hcz8_2
                            try clear hcz8_3
                            try clear hcz8_4
                            try clear hfz10_0
                            try clear hfz10_1
                            try clear hfz10_2
                            try clear hfz10_3
                            try clear hfz10_4
                            try clear hfz12_0
                            try clear hfz12_1
                            try clear hfz12_2
                            try clear hfz12_3
                            try clear hfz12_4
                            try clear hfz19_0
                            try clear hfz19_1
                            try clear hfz19_2
                            try clear hfz19_3
                            try clear hfz19_4
                            try clear hfz21_0
                            try clear hfz21_1
                            try clear hfz21_2
                            try clear hfz21_3
                            try clear hfz21_4
                            try clear hfz32_0
                            try clear hfz32_1
                            try clear hfz32_2
                            try clear hfz32_3
                            try clear hfz32_4
                            try clear hfz36_0
                            try clear hfz36_1
                            try clear hfz36_2
                            try clear hfz36_3
                            try clear hfz36_4
                            try clear hfz6_0
                            try clear hfz6_1
                            try clear hfz6_2
                            try clear hfz6_3
                            try clear hfz6_4
                            try clear hfz8_0
                            try clear hfz8_1
                            try clear hfz8_2
                            try clear hfz8_3
                            try clear hfz8_4
                            try clear p2
                            obtain ⟨x10_5, x11_5, rfl, rfl, HA, HK5, HO_6, BK11001, HB⟩ := hrel
                            cases gk with
                            | zero => exact absurd HA.out (by simp [dataflowlaw39_ProtocolAbsorbs.l1])
                            | succ k5 =>
                              have H := HA.out
                              clear HA
                              simp only [dataflowlaw39_ProtocolAbsorbs.l1] at H
                              by_cases c37 : x11_5 < (t11005.length : Int)
                              · rw [if_pos c37] at H
                                have c37b0 : decide (x11_5 < (t11005.length : Int)) = true := decide_eq_true c37
                                clear c37
                                by_cases c38 : x10_5 = true
                                · subst c38
                                  have H1 : (dataflowlaw39_ProtocolAbsorbs.l1 k5 l1 t11004 t11005 x7_33 x8_2 t11010 true (wrap64 (x11_5 + 1)) a0_0 l0_1 a0_2 a0_3 l0_4) = some r := by rw [if_pos rfl] at H; exact H
                                  clear H
                                  have H := H1
                                  clear H1
                                  have H' := Aside0.mk H
                                  clear H
                                  obtain ⟨Ao39, co39, eo39⟩ := Kd.R_slice HO_6.out
                                  subst eo39
                                  go_wp2
                                  go_roundg k5
                                  case measure => have := HJ2.out; have := HK2.out; have := HJ26.out; have := HJ33.out; have := HK5.out; omega
                                  case rel => exact ⟨(true), (wrap64 (x11_5 + 1)), (by first | rfl | (simp; done) | (simp [*]; done)), (by first | rfl | (simp; done) | (simp [*]; done)), H', ⟨by have := HJ2.out; have := HK2.out; have := HJ26.out; have := HJ33.out; have := HK5.out; omega⟩, ⟨by (with_reducible repeat (first | apply Kd.R_alloc | apply Kd.R_drewN | apply Kd.R_drew)); exact HO_6.out⟩, ⟨by (with_reducible repeat (first | refine blk_drewN ?_ _ | refine blk_drew ?_ | refine blk_alloc ?_ _)); exact BK11001.out⟩, ⟨by repeat (first | (with_reducible first | exact HB.out | apply below_alloc | apply pw_below_drewN | apply below_drew1 | refine below_set ?_ GE11001.out) | exact HB.out)⟩⟩
                                · replace c38 := Bool.eq_false_iff.mpr c38
                                  subst c38
                                  have H1 : (if 0 ≤ x11_5 then (dataflowlaw39_ProtocolAbsorbs.l1 k5 l1 t11004 t11005 x7_33 x8_2 t11010 ((rd t11005 x11_5) == t11010) (wrap64 (x11_5 + 1)) a0_0 l0_1 a0_2 a0_3 l0_4) else (none)) = some r := by rw [if_neg (show ¬ (false = true) by decide)] at H; exact H
                                  clear H
                                  have H := H1
                                  clear H1
                                  by_cases c40 : 0 ≤ x11_5
                                  · rw [if_pos c40] at H
                                    have c40b0 : decide (0 ≤ x11_5) = true := decide_eq_true c40
                                    clear c40
                                    have H' := Aside0.mk H
                                    clear H
                                    obtain ⟨Ao41, co41, eo41⟩ := Kd.R_slice HO_6.out
                                    subst eo41
                                    have p11011 : 0 ≤ (x11_5 : Int) := of_decide_eq_true (by first | (with_reducible assumption) | assumption)
                                    have q11011 : x11_5 < (t11005.length : Int) := of_decide_eq_true (by first | (with_reducible assumption) | assumption)
                                    obtain ⟨ad11011, e11011, hx11011_0⟩ := Kd.at_int (Kd.R_reads' HO_6.out).2.2 x11_5 p11011 q11011
                                    cases e11011
                                    replace p11011 := eq_true p11011
                                    replace q11011 := eq_true q11011
                                    go_wp2
                                    go_roundg k5
                                    case measure => have := HJ2.out; have := HK2.out; have := HJ26.out; have := HJ33.out; have := HK5.out; omega
                                    case rel => exact ⟨(((rd t11005 x11_5) == t11010)), (wrap64 (x11_5 + 1)), (by first | rfl | (simp; done) | (simp [*]; done)), (by first | rfl | (simp; done) | (simp [*]; done)), H', ⟨by have := HJ2.out; have := HK2.out; have := HJ26.out; have := HJ33.out; have := HK5.out; omega⟩, ⟨by (with_reducible repeat (first | apply Kd.R_alloc | apply Kd.R_drewN | apply Kd.R_drew)); exact HO_6.out⟩, ⟨by (with_reducible repeat (first | refine blk_drewN ?_ _ | refine blk_drew ?_ | refine blk_alloc ?_ _)); exact BK11001.out⟩, ⟨by repeat (first | (with_reducible first | exact HB.out | apply below_alloc | apply pw_below_drewN | apply below_drew1 | refine below_set ?_ GE11001.out) | exact HB.out)⟩⟩
                                  · rw [if_neg c40] at H
                                    exact absurd H (by simp)
                              · rw [if_neg c37] at H
                                have c37b0 : decide (x11_5 < (t11005.length : Int)) = false := decide_eq_false c37
                                clear c37
                                by_cases c42 : t11004 = a0_3
                                · rw [if_pos c42] at H
                                  have c42b0 : (t11004 == a0_3) = true := beq_iff_eq.mpr c42
                                  have c42b1 : (t11004 != a0_3) = false := bne_eq_false_iff_eq.mpr c42
                                  clear c42
                                  by_cases c43 : x10_5 = true
                                  · subst c43
                                    have H1 : (dataflowlaw39_ProtocolAbsorbs.l0 k5 l1 t11004 t11005 x7_33 (wrap64 (x8_2 + 1)) a0_0 l0_1 a0_2 a0_3 l0_4) = some r := by rw [if_pos rfl] at H; exact H
                                    clear H
                                    have H := H1
                                    clear H1
                                    have H' := Aside0.mk H
                                    clear H
                                    obtain ⟨Ao44, co44, eo44⟩ := Kd.R_slice HO_6.out
                                    subst eo44
                                    have hcz45_0 : wr.cell? ⟨gb11001, 0, none⟩ = some (.string a0_0) := (blk_cell BK11001.out 0).trans rfl
                                    have hcz45_1 : wr.cell? ⟨gb11001, 1, none⟩ = some (.slice A0_1 l0_1.length c0_1) := (blk_cell BK11001.out 1).trans rfl
                                    have hcz45_2 : wr.cell? ⟨gb11001, 2, none⟩ = some (.int .i64 a0_2) := (blk_cell BK11001.out 2).trans rfl
                                    have hcz45_3 : wr.cell? ⟨gb11001, 3, none⟩ = some (.int .i64 a0_3) := (blk_cell BK11001.out 3).trans rfl
                                    have hcz45_4 : wr.cell? ⟨gb11001, 4, none⟩ = some (.slice A0_4 l0_4.length c0_4) := (blk_cell BK11001.out 4).trans rfl
                                    have hfz45_0 := blk_frozen BK11001.out 0
                                    have hfz45_1 := blk_frozen BK11001.out 1
                                    have hfz45_2 := blk_frozen BK11001.out 2
                                    have hfz45_3 := blk_frozen BK11001.out 3
                                    have hfz45_4 := blk_frozen BK11001.out 4
                                    go_wp2
                                    go_roundg k5
                                    case measure => have := HJ2.out; have := HK2.out; have := HJ26.out; have := HJ33.out; have := HK5.out; omega
                                    case rel => exact ⟨(x7_33), (wrap64 (x8_2 + 1)), (by first | rfl | (simp; done) | (simp [*]; done)), (by first | rfl | (simp; done) | (simp [*]; done)), H', ⟨by have := HJ2.out; have := HK2.out; have := HJ26.out; have := HJ33.out; have := HK5.out; omega⟩, ⟨by (with_reducible repeat (first | apply Kd.R_alloc | apply Kd.R_drewN | apply Kd.R_drew)); exact HO_6.out⟩, ⟨by (with_reducible repeat (first | refine blk_drewN ?_ _ | refine blk_drew ?_ | refine blk_alloc ?_ _)); exact BK11001.out⟩, ⟨by repeat (first | (with_reducible first | exact HB.out | apply below_alloc | apply pw_below_drewN | apply below_drew1 | refine below_set ?_ GE11001.out) | exact HB.out)⟩⟩
                                  · replace c43 := Bool.eq_false_iff.mpr c43
                                    subst c43
                                    have H1 : (some false) = some r := by rw [if_neg (show ¬ (false = true) by decide)] at H; exact H
                                    clear H
                                    have H := H1
                                    clear H1
                                    obtain rfl := Option.some.inj H
                                    obtain ⟨Ao46, co46, eo46⟩ := Kd.R_slice HO_6.out
                                    subst eo46
                                    have hcz47_0 : wr.cell? ⟨gb11001, 0, none⟩ = some (.string a0_0) := (blk_cell BK11001.out 0).trans rfl
                                    have hcz47_1 : wr.cell? ⟨gb11001, 1, none⟩ = some (.slice A0_1 l0_1.length c0_1) := (blk_cell BK11001.out 1).trans rfl
                                    have hcz47_2 : wr.cell? ⟨gb11001, 2, none⟩ = some (.int .i64 a0_2) := (blk_cell BK11001.out 2).trans rfl
                                    have hcz47_3 : wr.cell? ⟨gb11001, 3, none⟩ = some (.int .i64 a0_3) := (blk_cell BK11001.out 3).trans rfl
                                    have hcz47_4 : wr.cell? ⟨gb11001, 4, none⟩ = some (.slice A0_4 l0_4.length c0_4) := (blk_cell BK11001.out 4).trans rfl
                                    have hfz47_0 := blk_frozen BK11001.out 0
                                    have hfz47_1 := blk_frozen BK11001.out 1
                                    have hfz47_2 := blk_frozen BK11001.out 2
                                    have hfz47_3 := blk_frozen BK11001.out 3
                                    have hfz47_4 := blk_frozen BK11001.out 4
                                    go_wp2
                                    go_ret
                                    exact ⟨by first | rfl | (simp [errW_none, errW_some] <;> rfl) | (simp [*, errW_none, errW_some] <;> rfl), by repeat (first | (with_reducible first | exact HB.out | apply below_alloc | apply pw_below_drewN | apply below_drew1 | refine below_set ?_ GE11001.out) | exact HB.out)⟩
                                · rw [if_neg c42] at H
                                  have c42b0 : (t11004 == a0_3) = false := beq_eq_false_iff_ne.mpr c42
                                  have c42b1 : (t11004 != a0_3) = true := bne_iff_ne.mpr c42
                                  have H' := Aside0.mk H
                                  clear H
                                  obtain ⟨Ao48, co48, eo48⟩ := Kd.R_slice HO_6.out
                                  subst eo48
                                  have hcz49_0 : wr.cell? ⟨gb11001, 0, none⟩ = some (.string a0_0) := (blk_cell BK11001.out 0).trans rfl
                                  have hcz49_1 : wr.cell? ⟨gb11001, 1, none⟩ = some (.slice A0_1 l0_1.length c0_1) := (blk_cell BK11001.out 1).trans rfl
                                  have hcz49_2 : wr.cell? ⟨gb11001, 2, none⟩ = some (.int .i64 a0_2) := (blk_cell BK11001.out 2).trans rfl
                                  have hcz49_3 : wr.cell? ⟨gb11001, 3, none⟩ = some (.int .i64 a0_3) := (blk_cell BK11001.out 3).trans rfl
                                  have hcz49_4 : wr.cell? ⟨gb11001, 4, none⟩ = some (.slice A0_4 l0_4.length c0_4) := (blk_cell BK11001.out 4).trans rfl
                                  have hfz49_0 := blk_frozen BK11001.out 0
                                  have hfz49_1 := blk_frozen BK11001.out 1
                                  have hfz49_2 := blk_frozen BK11001.out 2
                                  have hfz49_3 := blk_frozen BK11001.out 3
                                  have hfz49_4 := blk_frozen BK11001.out 4
                                  go_wp2
                                  go_roundg k5
                                  case measure => have := HJ2.out; have := HK2.out; have := HJ26.out; have := HJ33.out; have := HK5.out; omega
                                  case rel => exact ⟨(x7_33), (wrap64 (x8_2 + 1)), (by first | rfl | (simp; done) | (simp [*]; done)), (by first | rfl | (simp; done) | (simp [*]; done)), H', ⟨by have := HJ2.out; have := HK2.out; have := HJ26.out; have := HJ33.out; have := HK5.out; omega⟩, ⟨by (with_reducible repeat (first | apply Kd.R_alloc | apply Kd.R_drewN | apply Kd.R_drew)); exact HO_6.out⟩, ⟨by (with_reducible repeat (first | refine blk_drewN ?_ _ | refine blk_drew ?_ | refine blk_alloc ?_ _)); exact BK11001.out⟩, ⟨by repeat (first | (with_reducible first | exact HB.out | apply below_alloc | apply pw_below_drewN | apply below_drew1 | refine below_set ?_ GE11001.out) | exact HB.out)⟩⟩
              · rw [if_neg c24] at H
                exact absurd H (by simp)
            · rw [if_neg c23] at H
              have c23b0 : decide (x8_2 ≤ (l1.length : Int)) = false := decide_eq_false c23
              clear c23
              by_cases c50 : (x7_2 == (t11004 == a0_3)) = true
              · rw [if_pos c50] at H
                have c50b0 : (x7_2 == (t11004 == a0_3)) = true := c50
                (try (have c50b1 : decide (x7_2 = (t11004 == a0_3)) = true := by simpa using c50))
                (try (have c50b2 : (x7_2 == (t11004 == a0_3)) = true := by simpa using c50))
                clear c50
                replace H := Option.bind_eq_some_iff.mp H
                obtain ⟨t11008, A510, H⟩ := H
                replace H : (some t11008) = some r := H
                have A51 := Aside0.mk A510
                clear A510
                obtain rfl := Option.some.inj H
                have hcz52_0 : wr.cell? ⟨gb11001, 0, none⟩ = some (.string a0_0) := (blk_cell BK11001.out 0).trans rfl
                have hcz52_1 : wr.cell? ⟨gb11001, 1, none⟩ = some (.slice A0_1 l0_1.length c0_1) := (blk_cell BK11001.out 1).trans rfl
                have hcz52_2 : wr.cell? ⟨gb11001, 2, none⟩ = some (.int .i64 a0_2) := (blk_cell BK11001.out 2).trans rfl
                have hcz52_3 : wr.cell? ⟨gb11001, 3, none⟩ = some (.int .i64 a0_3) := (blk_cell BK11001.out 3).trans rfl
                have hcz52_4 : wr.cell? ⟨gb11001, 4, none⟩ = some (.slice A0_4 l0_4.length c0_4) := (blk_cell BK11001.out 4).trans rfl
                have hfz52_0 := blk_frozen BK11001.out 0
                have hfz52_1 := blk_frozen BK11001.out 1
                have hfz52_2 := blk_frozen BK11001.out 2
                have hfz52_3 := blk_frozen BK11001.out 3
                have hfz52_4 := blk_frozen BK11001.out 4
                go_wp2_with (first | (go_at_call 24; (with_reducible refine (dataflowlaw39_awake.calls k2  t11008 _ ?side1 A51.out).mono ?_); (case side1 => exact Gh.below HGH.out (by repeat (first | (with_reducible first | exact HB.out | apply below_alloc | apply pw_below_drewN | apply below_drew1 | refine below_set ?_ GE11001.out) | exact HB.out))); rintro e w53 ⟨rfl, hb⟩; have n0_ := Aside0.mk (Kd.R_below (by (with_reducible repeat (first | apply Kd.R_alloc | apply Kd.R_drewN | apply Kd.R_drew)); exact HO_6.out) hb); have n1_ := Aside0.mk (blk_below (g := gb11001) (o := .cells #[.string a0_0, .slice A0_1 l0_1.length c0_1, .int .i64 a0_2, .int .i64 a0_3, .slice A0_4 l0_4.length c0_4] 35 (0, 0)) (by (with_reducible repeat (first | refine blk_drewN ?_ _ | refine blk_drew ?_ | refine blk_alloc ?_ _)); exact BK11001.out) hb); have n2_ := Aside0.mk (below_step (by repeat (first | (with_reducible first | exact HB.out | apply below_alloc | apply pw_below_drewN | apply below_drew1 | refine below_set ?_ GE11001.out) | exact HB.out)) hb); clear HO_6; clear BK11001; clear HB; have HO_6 := n0_; have BK11001 := n1_; have HB := n2_; clear n0_ n1_ n2_; (try clear hb); (try clear hb2); (try clear hk); (try clear hi)))
                go_ret
                exact ⟨by first | rfl | (simp [errW_none, errW_some] <;> rfl) | (simp [*, errW_none, errW_some] <;> rfl), by repeat (first | (with_reducible first | exact HB.out | apply below_alloc | apply pw_below_drewN | apply below_drew1 | refine below_set ?_ GE11001.out) | exact HB.out)⟩
              · rw [if_neg c50] at H
                have c50b0 : (x7_2 == (t11004 == a0_3)) = false := by simpa using c50
                (try (have c50b1 : decide (x7_2 = (t11004 == a0_3)) = false := by simpa using c50))
                (try (have c50b2 : (x7_2 == (t11004 == a0_3)) = false := by simpa using c50))
                (try (have c50b3 : ¬ (x7_2 = (t11004 == a0_3)) := by simpa using c50))
                clear c50
                obtain rfl := Option.some.inj H
                have hcz54_0 : wr.cell? ⟨gb11001, 0, none⟩ = some (.string a0_0) := (blk_cell BK11001.out 0).trans rfl
                have hcz54_1 : wr.cell? ⟨gb11001, 1, none⟩ = some (.slice A0_1 l0_1.length c0_1) := (blk_cell BK11001.out 1).trans rfl
                have hcz54_2 : wr.cell? ⟨gb11001, 2, none⟩ = some (.int .i64 a0_2) := (blk_cell BK11001.out 2).trans rfl
                have hcz54_3 : wr.cell? ⟨gb11001, 3, none⟩ = some (.int .i64 a0_3) := (blk_cell BK11001.out 3).trans rfl
                have hcz54_4 : wr.cell? ⟨gb11001, 4, none⟩ = some (.slice A0_4 l0_4.length c0_4) := (blk_cell BK11001.out 4).trans rfl
                have hfz54_0 := blk_frozen BK11001.out 0
                have hfz54_1 := blk_frozen BK11001.out 1
                have hfz54_2 := blk_frozen BK11001.out 2
                have hfz54_3 := blk_frozen BK11001.out 3
                have hfz54_4 := blk_frozen BK11001.out 4
                go_wp2
                go_ret
                exact ⟨by first | rfl | (simp [errW_none, errW_some] <;> rfl) | (simp [*, errW_none, errW_some] <;> rfl), by repeat (first | (with_reducible first | exact HB.out | apply below_alloc | apply pw_below_drewN | apply below_drew1 | refine below_set ?_ GE11001.out) | exact HB.out)⟩

end Go.Proofs.YthfhbdncphkdaaaDoor.H

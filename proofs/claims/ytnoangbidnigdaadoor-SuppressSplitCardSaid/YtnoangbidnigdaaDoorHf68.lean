/- Printed (xprint.py): Go functions as Lean functions, each with the proof that its call does what the Lean function says. -/
import Derived.Test.YtnoangbidnigdaaDoorH0
import Derived.WalkLawsBesides
namespace Go.Proofs.YtnoangbidnigdaaDoor.H
open Go.RowKit Go.Proofs.YtnoangbidnigdaaDoorW.PrintWords Go.Proofs.YtnoangbidnigdaaDoorW.PrintLast Go.Proofs.YtnoangbidnigdaaDoorW.PrintMore
attribute [local go_sem] max2_int min2_int max_two min_two max_three min_three max_four min_four   -- for this text's walks alone
set_option linter.unusedVariables false
set_option linter.unusedSimpArgs false
/-! ### api_Place_68: function 68 -/
--EXT api_Place_68
def api_Place_68.f(l0:List (S25)):Option (List (S25)):=if l0.length<3000000000000 then some l0 else none
theorem clone_info:(Tryd.prog.info? 25).map (fun i=>(i.zero,i.size,i.bytes))=some (some (.agg #[(.string ⟨#[]⟩),(.string ⟨#[]⟩),(.int .i64 0)]),3,40):=by kernel_rfl
set_option maxHeartbeats 4000000 in
set_option maxRecDepth 100000 in
theorem api_Place_68.calls(A0:Option Addr)(c0:Nat)(l0:List (S25))(r:List (S25))(w:World)(hr0:Kd.C k25 w A0 l0.length l0)(hc0:l0.length≤c0)(h:api_Place_68.f l0=some r) :
    Calls Tryd.prog 68 #[.slice A0 l0.length c0] w fun e w'=>∃ v0_:Value,e=.returned v0_∧Kd.R k25 25 w' w.heap.size (fun _=>True) v0_ r∧Below w.heap.size w w':=by
  have hu25:=Tryd.underlying25;have hu26:=Tryd.underlying26;unfold api_Place_68.f at h
  split at h
  · rename_i hlen
    obtain rfl:=Option.some.inj h;clear h;have HR:=Aside0.mk hr0;have HB:=Aside0.mk (Below.refl w.heap.size w)
    cases A0 with
    |none =>
      have h0:l0.length=0:=by
        rcases Nat.eq_zero_or_pos l0.length with h|h
        · exact h
        · obtain⟨ad,e,_⟩:=HR.out.2.2 h;cases e
      obtain rfl:=List.eq_nil_of_length_eq_zero h0;clear hlen hr0
      have hq:∀ W:World,(binOp .eql 26 (.slice none 0 c0) (.slice none 0 0)).run Tryd.prog W=.ok (.bool true) W:=fun W=>Lib.run_eql_slice_nil W _ _ none 0 c0 0 0 Tryd.underlying26
      go_enter Tryd.func68,Tryd.ntmps68;go_wp2;go_ret;exact⟨_,rfl,Kd.R_nil _ _ _ _ _,HB.out⟩
    |some ad =>
      have HL:=Aside0.mk (show(([]:List S25).length+l0.length)*40≤140737488355328 by rw [List.length_nil];omega);clear hlen hr0
      have hq:∀ W:World,(binOp .eql 26 (.slice (some ad) l0.length c0) (.slice none 0 0)).run Tryd.prog W=.ok (.bool false) W:=fun W=>Lib.run_eql_slice_nil W _ _ (some ad) l0.length c0 0 0 Tryd.underlying26
      go_enter Tryd.func68,Tryd.ntmps68
      go_wp2_with (first
        |((with_reducible refine gate_dst (N:=5) rfl ?_);refine Kd.R_lit k25 (w0:=w) w.heap.size 25 ?hg (N:=5) ?hd (xs:=[]) (inner:=[]) (ok:=fun _=>True) (okp:=fun _=>True) ?hr ?hp (fun _ hk=>hk) trivial (Below.refl _ _) (Nat.le_refl _) (by simp) ?_;(case hd=>rfl);(case hg=>rfl);(case hr=>first|(go_simp;done)|(go_simp;rfl));(case hp=>exact Reps.none _ _);intro v5 w5 ho5 hb5 hg5 hn5;have HO5:=Aside0.mk ho5;have HB5:=Aside0.mk hb5;clear ho5 hb5 hg5 hn5)
        |((with_reducible refine gate_builtin (b:=.append) (xs:=#[.tmp 5,.tmp 6]) rfl ?_);at_builtin;refine Kd.R_append_rows k25 (w0:=w) w.heap.size rfl (.tmp 5) (.tmp 6) 26 25 (.agg #[(.string ⟨#[]⟩),(.string ⟨#[]⟩),(.int .i64 0)]) 40 rfl Tryd.underlying26 clone_info rfl (by decide) (by omega) v5 [] l0 _ _ _ (fun _=>True) (fun _=>False) rfl rfl HO5.out ?aR (fun _ _ h=>h) (fun _ h=>h.elim) (fun _ _=>trivial) HB5.out HB5.out.size HL.out ?_;(case aR=>exact Kd.C_below HR.out HB5.out);intro v7 w7 ho7 hb7 hg7 hn7;have HO7:=Aside0.mk ho7;have HB7:=Aside0.mk hb7;clear ho7 hb7 hg7 hn7))
      go_ret;exact⟨_,rfl,HO7.out,HB7.out⟩
  · cases h

end Go.Proofs.YtnoangbidnigdaaDoor.H

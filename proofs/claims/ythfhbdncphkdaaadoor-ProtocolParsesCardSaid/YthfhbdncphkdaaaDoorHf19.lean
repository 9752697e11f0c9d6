/- Printed (xprint.py): Go functions as Lean functions, each with the proof that its call does what the Lean function says. -/
import Derived.Test.YthfhbdncphkdaaaDoorH0
import Derived.Lib.Hide
namespace Go.Proofs.YthfhbdncphkdaaaDoor.H
open Go.RowKit Go.Proofs.YthfhbdncphkdaaaDoorW.PrintWords Go.Proofs.YthfhbdncphkdaaaDoorW.PrintLast Go.Proofs.YthfhbdncphkdaaaDoorW.PrintMore
attribute [local go_sem] max2_int min2_int max_two min_two max_three min_three max_four min_four   -- for this text's walks alone
set_option linter.unusedVariables false
set_option linter.unusedSimpArgs false
/-! ### lex_Keyword: function 19 -/
--EXT lex_Keyword
theorem run_index_row{P:Program}{w:World}{t e:TypeId}{n:Nat}(l:List ByteArray)(k:IntKind)(i:Nat)(h:P.underlying t=some (.array n e))(he:P.underlying e=some .string)(hinf:(P.info? e).map (·.size)=some 1)(hl:l.length=n)(hi:i<n) :
    (Instr.index t (.agg (l.map Value.string).toArray) (.int k i)).run P w=.ok (.string (l.getD i ByteArray.empty)) w:=by
  subst hl
  have hz:(sizeOf e).run P w=.ok 1 w:=by
    cases hq:P.info? e with
    |none=>simp [hq] at hinf
    |some inf=>simp [sizeOf,typeInfo,hq,(by simpa [hq] using hinf:inf.size=1)]
  have ha:(isAgg e).run P w=.ok false w:=by simp [isAgg,run_underlying he]
  simp [Instr.index,run_underlying h,asIntOf,hi,go_sem,List.getD_eq_getElem?_getD,hz,ha]
def lex_Keyword.f(a0:ByteArray):Option Bool:=some (kwL.any fun x=>a0.toList==x.toList)
theorem any_upto(l:List ByteArray)(p:ByteArray→Bool)(k:Nat)(hk:k<l.length)(h:p (l.getD k ByteArray.empty)=true):l.any p=true:=by
  rw [List.any_eq_true];exact⟨l[k],List.getElem_mem hk,by simpa [List.getD_eq_getElem?_getD,hk] using h⟩
theorem any_none(l:List ByteArray)(p:ByteArray→Bool)(h:∀ k,k<l.length→p (l.getD k ByteArray.empty)=false):l.any p=false:=by
  rw [List.any_eq_false];intro x hx;obtain⟨k,hk,rfl⟩:=List.mem_iff_getElem.1 hx;have:=h k hk
  simpa [List.getD_eq_getElem?_getD,hk] using this
set_option maxHeartbeats 1000000 in
theorem lex_Keyword.calls(a0:ByteArray)(r:Bool)(w:World)(hgh:Gh w)(h:lex_Keyword.f a0=some r) :
    Calls Tryd.prog 19 #[.string a0] w fun e w'=>e=.returned (.bool r)∧Drawn0 w w':=by
  obtain rfl:=Option.some.inj h;clear h;obtain⟨t,fr,hrow⟩:=hgh.kw;clear hgh;have Hrow:=Lib.hid hrow;clear hrow;go_enter Tryd.func19,Tryd.ntmps19
  go_wp2_with (refine wpList_load_row rfl 59 _ rfl 0 rfl t _ fr _ Hrow.out Tryd.underlying59 rfl (by kernel_rfl) ?_)
  go_loop [6] (fun v=>∃ k:Nat,v=.int .i64 k∧k≤17∧Aside0 (∀ j,j<k→(a0.toList==(kwL.getD j ByteArray.empty).toList)=false)) (fun v=>17-(intOf v).toNat)
  case atStart=>exact⟨0,rfl,by omega,⟨fun j hj=>by omega⟩⟩
  case round =>
    obtain⟨k,rfl,hk,hno⟩:=hrel
    by_cases hlt:k<17
    · have hrun:∀ W:World,(Instr.index 59 (.agg (kwL.map Value.string).toArray) (.int .i64 (k:Int))).run Tryd.prog W=.ok (.string (kwL.getD k ByteArray.empty)) W:=fun W=>run_index_row kwL .i64 k Tryd.underlying59 Tryd.underlying9 (by kernel_rfl) rfl (by simpa [kwL] using hlt)
      obtain⟨x,hx⟩:∃ x,kwL.getD k ByteArray.empty=x:=⟨_,rfl⟩;rw [hx] at hrun;have HX:=Aside0.mk hx;clear hx
      by_cases he:(a0.toList==x.toList)=true
      · have hf:(kwL.any fun x=>a0.toList==x.toList)=true:=any_upto kwL _ k (by simpa [kwL] using hlt) (by rw [HX.out];exact he)
        have HF:=Aside0.mk hf;clear hf;go_wp2;go_ret;exact⟨by rw [HF.out];rfl,Drawn0.refl _⟩
      · have he:=Bool.eq_false_iff.2 he
        have hy:=Aside0.mk he;go_wp2
        go_round
        case rel=>exact⟨k+1,by go_num,by omega,⟨fun j hj=>by
          by_cases e:j=k
          · subst e;rw [HX.out];exact hy.out
          · exact hno.out j (by omega)⟩⟩
        case measure=>simp [intOf];omega
    · obtain rfl:k=17:=by omega
      have hf:(kwL.any fun x=>a0.toList==x.toList)=false:=any_none kwL _ (fun j hj=>hno.out j (by simpa [kwL] using hj));have HF:=Aside0.mk hf;clear hf;clear hno;go_wp2;go_ret;exact⟨by rw [HF.out];rfl,Drawn0.refl _⟩

end Go.Proofs.YthfhbdncphkdaaaDoor.H

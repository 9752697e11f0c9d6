/-
  NARROWER THAN 'FOR EVERY INPUT', by the rows' own cells (each row's printed sentence says how): SuppressTells: laid · SuppressBack: laid · SuppressParses: laid · SuppressApplies: laid · SuppressSplit: laid.
  DERIVED. THE GIVEN ROWS OF THIS SEAT. 5 by the template 'for every input the law returns true; each argument reads behind the call as it read before'; 0 by the template 'total and deterministic' (their statements: YtnoangbidnigdaaDoorTotals.lean).
  GIVEN WITH THE SEED: the statements are not yours to turn. If you find one false, say at which input.
  Laid BY PROGRAM, IN A SANDBOX (cutbox-rows.mjs): the forced cells as the released guide's own fill.sh prints them over the translation a7d6eb87b13235d0… (all of the seat's roots in one cut). By AI agents, Wed Nov 11 2026. No macro, syntax, notation, axiom, sorry.
-/
import Derived.Test.YtnoangbidnigdaaDoorChecked
import GoSem.PinnedTables
import GoSem.Claim
import GoSem.ClaimJoined
import GoSem.ClaimMapViews
import Derived.JoinedTies
import Derived.KernelRfl
namespace Go.Proofs.YtnoangbidnigdaaDoor
/- THE CELL 'sum', in the pinned program and in every row, IS THE sha256 OF THE DUMP (.gsa) THAT YtnoangbidnigdaaDoorProg.lean LOADS. Nothing in Lean hashes anything: it is a label: what it is worth is what the hold of that sum in a sandbox is worth. -/
noncomputable def Tryd.pinned : Pinned := { name := "ytnoangbidnigdaadoor", sum := "a7d6eb87b13235d0fe025be9af6b63ccb2d0df20193b69a758f54c982f22d1c4", checked := Tryd.checked }
namespace Rows
def none {H : Type} : Left H := { results := [], args := [] }

/- WHAT THE LISTED PACKAGE-LEVEL VARIABLES READ AS WHEN THE CALL BEGINS. Each datum BY PROGRAM (the guide's laid-datum.mjs) off the statement by which the dump's own 'gosem.cut.vars' lays the variable. In a bare row this is a premise. The card (YtnoangbidnigdaaDoorCards.lean) ties it to the program's text. -/
def laid_unicode_utf8_acceptRanges {H : Type} : DataW H := .agg [.agg [.lit (.int .u8 128), .lit (.int .u8 191)], .agg [.lit (.int .u8 160), .lit (.int .u8 191)], .agg [.lit (.int .u8 128), .lit (.int .u8 159)], .agg [.lit (.int .u8 144), .lit (.int .u8 191)], .agg [.lit (.int .u8 128), .lit (.int .u8 143)], .agg [.lit (.int .u8 0), .lit (.int .u8 0)], .agg [.lit (.int .u8 0), .lit (.int .u8 0)], .agg [.lit (.int .u8 0), .lit (.int .u8 0)], .agg [.lit (.int .u8 0), .lit (.int .u8 0)], .agg [.lit (.int .u8 0), .lit (.int .u8 0)], .agg [.lit (.int .u8 0), .lit (.int .u8 0)], .agg [.lit (.int .u8 0), .lit (.int .u8 0)], .agg [.lit (.int .u8 0), .lit (.int .u8 0)], .agg [.lit (.int .u8 0), .lit (.int .u8 0)], .agg [.lit (.int .u8 0), .lit (.int .u8 0)], .agg [.lit (.int .u8 0), .lit (.int .u8 0)]]
def laid_errors_errorType {H : Type} : DataW H := .iface "internal/reflectlite.rtype" (.agg [.ptr (.lit (.string [101, 114, 114, 111, 114]))])
def laid_dataflow_lex_keywords {H : Type} : DataW H := .agg [.lit (.string [99, 108, 97, 115, 115]), .lit (.string [101, 120, 116, 101, 110, 100, 115]), .lit (.string [118, 97, 114]), .lit (.string [100, 101, 102]), .lit (.string [115, 116, 97, 116, 105, 99]), .lit (.string [105, 102]), .lit (.string [101, 108, 115, 101]), .lit (.string [119, 104, 105, 108, 101]), .lit (.string [116, 114, 121]), .lit (.string [99, 97, 116, 99, 104]), .lit (.string [116, 104, 114, 111, 119]), .lit (.string [114, 101, 116, 117, 114, 110]), .lit (.string [110, 101, 119]), .lit (.string [110, 117, 108, 108]), .lit (.string [116, 104, 105, 115]), .lit (.string [105, 110, 112, 117, 116]), .lit (.string [105, 110, 116])]
def laid_dataflow_suppress_words {H : Type} : DataW H := .agg [.lit (.string [42]), .lit (.string [117, 110, 115, 101, 116]), .lit (.string [115, 116, 97, 116, 101]), .lit (.string [116, 97, 105, 110, 116]), .lit (.string [98, 114, 97, 110, 99, 104])]
/-- One of Go's own tables, pinned by name: the form's constant. -/
def laid_unicode_utf8_first : DataW Unit := Go.Pinned.utf8First

/-- 'dataflowlaw46.SuppressTells': WHATEVER THE INPUT: true; the input reads as it did. -/
def suppressTellsSpec : ChangeSpec := { name := "suppressTells", fn := fun _ => fun
  | [d1, d2] => { results := [.lit (.bool true)], args := [d1, d2] }
  | _ => none }
def suppressTellsRow : OpenClaim := { program := "ytnoangbidnigdaadoor", sum := "a7d6eb87b13235d0fe025be9af6b63ccb2d0df20193b69a758f54c982f22d1c4", func := "dataflow/dataflowlaw46.SuppressTells", spec := "suppressTells", inPlace := ["internal/bytealg.IndexByteString", "internal/bytealg.IndexString", "internal/bytealg.CountString", "internal/reflectlite.TypeOf", "internal/reflectlite.ValueOf", "(internal/reflectlite.Value).Type", "(internal/reflectlite.Value).IsNil", "(internal/reflectlite.Value).Elem", "(internal/reflectlite.Value).Set"], unfollowed := true, recurses := true, named := ["dataflow/lex.keywords", "internal/bytealg.MaxLen", "dataflow/suppress.words", "unicode/utf8.first", "unicode/utf8.acceptRanges", "errors.errorType"], apart := false, laid := [("unicode/utf8.acceptRanges", laid_unicode_utf8_acceptRanges), ("errors.errorType", laid_errors_errorType), ("dataflow/lex.keywords", laid_dataflow_lex_keywords), ("dataflow/suppress.words", laid_dataflow_suppress_words), ("unicode/utf8.first", laid_unicode_utf8_first)] }
def SuppressTellsSaid : Prop := suppressTellsRow.holds Tryd.pinned (OpenSpec.ofChange suppressTellsSpec)

/-- ITS FALSE NEIGHBOUR: 'it returns false'. Refute it at one input. -/
def suppressTellsWrong : ChangeSpec := { name := "suppressTells", fn := fun _ => fun
  | [d1, d2] => { results := [.lit (.bool false)], args := [d1, d2] }
  | _ => none }
def SuppressTellsWrongFalsely : Prop := suppressTellsRow.holds Tryd.pinned (OpenSpec.ofChange suppressTellsWrong)

/-- 'dataflowlaw46.SuppressBack': WHATEVER THE INPUT: true; the input reads as it did. -/
def suppressBackSpec : ChangeSpec := { name := "suppressBack", fn := fun _ => fun
  | [d] => { results := [.lit (.bool true)], args := [d] }
  | _ => none }
def suppressBackRow : OpenClaim := { program := "ytnoangbidnigdaadoor", sum := "a7d6eb87b13235d0fe025be9af6b63ccb2d0df20193b69a758f54c982f22d1c4", func := "dataflow/dataflowlaw46.SuppressBack", spec := "suppressBack", inPlace := ["internal/bytealg.IndexByteString", "internal/bytealg.IndexString", "internal/bytealg.CountString", "internal/reflectlite.TypeOf", "internal/reflectlite.ValueOf", "(internal/reflectlite.Value).Type", "(internal/reflectlite.Value).IsNil", "(internal/reflectlite.Value).Elem", "(internal/reflectlite.Value).Set", "internal/abi.NoEscape"], unfollowed := true, recurses := true, named := ["internal/bytealg.MaxLen", "dataflow/suppress.words", "unicode/utf8.first", "unicode/utf8.acceptRanges", "dataflow/lex.keywords", "errors.errorType"], apart := false, laid := [("unicode/utf8.acceptRanges", laid_unicode_utf8_acceptRanges), ("errors.errorType", laid_errors_errorType), ("dataflow/lex.keywords", laid_dataflow_lex_keywords), ("dataflow/suppress.words", laid_dataflow_suppress_words), ("unicode/utf8.first", laid_unicode_utf8_first)] }
def SuppressBackSaid : Prop := suppressBackRow.holds Tryd.pinned (OpenSpec.ofChange suppressBackSpec)

/-- ITS FALSE NEIGHBOUR: 'it returns false'. Refute it at one input. -/
def suppressBackWrong : ChangeSpec := { name := "suppressBack", fn := fun _ => fun
  | [d] => { results := [.lit (.bool false)], args := [d] }
  | _ => none }
def SuppressBackWrongFalsely : Prop := suppressBackRow.holds Tryd.pinned (OpenSpec.ofChange suppressBackWrong)

/-- 'dataflowlaw46.SuppressParses': WHATEVER THE INPUT: true; the input reads as it did. -/
def suppressParsesSpec : ChangeSpec := { name := "suppressParses", fn := fun _ => fun
  | [d] => { results := [.lit (.bool true)], args := [d] }
  | _ => none }
def suppressParsesRow : OpenClaim := { program := "ytnoangbidnigdaadoor", sum := "a7d6eb87b13235d0fe025be9af6b63ccb2d0df20193b69a758f54c982f22d1c4", func := "dataflow/dataflowlaw46.SuppressParses", spec := "suppressParses", inPlace := ["internal/bytealg.IndexByteString", "internal/bytealg.IndexString", "internal/bytealg.CountString", "internal/reflectlite.TypeOf", "internal/reflectlite.ValueOf", "(internal/reflectlite.Value).Type", "(internal/reflectlite.Value).IsNil", "(internal/reflectlite.Value).Elem", "(internal/reflectlite.Value).Set", "internal/abi.NoEscape"], unfollowed := true, recurses := true, named := ["internal/bytealg.MaxLen", "dataflow/suppress.words", "unicode/utf8.first", "unicode/utf8.acceptRanges", "dataflow/lex.keywords", "errors.errorType"], apart := false, laid := [("unicode/utf8.acceptRanges", laid_unicode_utf8_acceptRanges), ("errors.errorType", laid_errors_errorType), ("dataflow/lex.keywords", laid_dataflow_lex_keywords), ("dataflow/suppress.words", laid_dataflow_suppress_words), ("unicode/utf8.first", laid_unicode_utf8_first)] }
def SuppressParsesSaid : Prop := suppressParsesRow.holds Tryd.pinned (OpenSpec.ofChange suppressParsesSpec)

/-- ITS FALSE NEIGHBOUR: 'it returns false'. Refute it at one input. -/
def suppressParsesWrong : ChangeSpec := { name := "suppressParses", fn := fun _ => fun
  | [d] => { results := [.lit (.bool false)], args := [d] }
  | _ => none }
def SuppressParsesWrongFalsely : Prop := suppressParsesRow.holds Tryd.pinned (OpenSpec.ofChange suppressParsesWrong)

/-- 'dataflowlaw46.SuppressApplies': WHATEVER THE INPUT: true; the input reads as it did. -/
def suppressAppliesSpec : ChangeSpec := { name := "suppressApplies", fn := fun _ => fun
  | [d1, d2] => { results := [.lit (.bool true)], args := [d1, d2] }
  | _ => none }
def suppressAppliesRow : OpenClaim := { program := "ytnoangbidnigdaadoor", sum := "a7d6eb87b13235d0fe025be9af6b63ccb2d0df20193b69a758f54c982f22d1c4", func := "dataflow/dataflowlaw46.SuppressApplies", spec := "suppressApplies", inPlace := ["internal/bytealg.IndexByteString", "internal/bytealg.IndexString", "internal/bytealg.CountString", "internal/reflectlite.TypeOf", "internal/reflectlite.ValueOf", "(internal/reflectlite.Value).Type", "(internal/reflectlite.Value).IsNil", "(internal/reflectlite.Value).Elem", "(internal/reflectlite.Value).Set"], unfollowed := true, recurses := true, named := ["internal/bytealg.MaxLen", "dataflow/suppress.words", "unicode/utf8.first", "unicode/utf8.acceptRanges", "dataflow/lex.keywords", "errors.errorType"], apart := false, laid := [("unicode/utf8.acceptRanges", laid_unicode_utf8_acceptRanges), ("errors.errorType", laid_errors_errorType), ("dataflow/lex.keywords", laid_dataflow_lex_keywords), ("dataflow/suppress.words", laid_dataflow_suppress_words), ("unicode/utf8.first", laid_unicode_utf8_first)] }
def SuppressAppliesSaid : Prop := suppressAppliesRow.holds Tryd.pinned (OpenSpec.ofChange suppressAppliesSpec)

/-- ITS FALSE NEIGHBOUR: 'it returns false'. Refute it at one input. -/
def suppressAppliesWrong : ChangeSpec := { name := "suppressApplies", fn := fun _ => fun
  | [d1, d2] => { results := [.lit (.bool false)], args := [d1, d2] }
  | _ => none }
def SuppressAppliesWrongFalsely : Prop := suppressAppliesRow.holds Tryd.pinned (OpenSpec.ofChange suppressAppliesWrong)

/-- 'dataflowlaw46.SuppressSplit': WHATEVER THE INPUT: true; the input reads as it did. -/
def suppressSplitSpec : ChangeSpec := { name := "suppressSplit", fn := fun _ => fun
  | [d1, d2] => { results := [.lit (.bool true)], args := [d1, d2] }
  | _ => none }
def suppressSplitRow : OpenClaim := { program := "ytnoangbidnigdaadoor", sum := "a7d6eb87b13235d0fe025be9af6b63ccb2d0df20193b69a758f54c982f22d1c4", func := "dataflow/dataflowlaw46.SuppressSplit", spec := "suppressSplit", inPlace := ["internal/bytealg.IndexByteString", "internal/bytealg.IndexString", "internal/bytealg.CountString", "internal/reflectlite.TypeOf", "internal/reflectlite.ValueOf", "(internal/reflectlite.Value).Type", "(internal/reflectlite.Value).IsNil", "(internal/reflectlite.Value).Elem", "(internal/reflectlite.Value).Set"], unfollowed := true, recurses := true, named := ["internal/bytealg.MaxLen", "dataflow/suppress.words", "unicode/utf8.first", "unicode/utf8.acceptRanges", "dataflow/lex.keywords", "errors.errorType"], apart := false, laid := [("unicode/utf8.acceptRanges", laid_unicode_utf8_acceptRanges), ("errors.errorType", laid_errors_errorType), ("dataflow/lex.keywords", laid_dataflow_lex_keywords), ("dataflow/suppress.words", laid_dataflow_suppress_words), ("unicode/utf8.first", laid_unicode_utf8_first)] }
def SuppressSplitSaid : Prop := suppressSplitRow.holds Tryd.pinned (OpenSpec.ofChange suppressSplitSpec)

/-- ITS FALSE NEIGHBOUR: 'it returns false'. Refute it at one input. -/
def suppressSplitWrong : ChangeSpec := { name := "suppressSplit", fn := fun _ => fun
  | [d1, d2] => { results := [.lit (.bool false)], args := [d1, d2] }
  | _ => none }
def SuppressSplitWrongFalsely : Prop := suppressSplitRow.holds Tryd.pinned (OpenSpec.ofChange suppressSplitWrong)

/- THE SECOND FORM. 'bulk': how many values and letters a reading holds, each counted each time it is reached (what is shared counts as often as it is met; a slice's spare places count too). A statement '..UptoSaid' is the law's where the arguments, and the package variables that the reading takes, are together of bulk at most 1048576: NARROWER than '..Said'. Prove '..Said' where nothing that the law and all that it calls make is longer than what came in: it says more and counts as full. Else prove '..UptoSaid'. A law counts once. -/
mutual
def uptoBulk {H : Type} : DataW H → Nat
  | .lit (.string bytes) => bytes.length + 1
  | .lit _ => 1
  | .nil => 1
  | .ptr d => uptoBulk d + 1
  | .slice elems spare => uptoBulkAll elems + uptoBulkAll spare + 1
  | .agg parts => uptoBulkAll parts + 1
  | .iface _ d => uptoBulk d + 1
  | .map entries => uptoBulkEntries entries + 1
  | .held _ => 1
def uptoBulkAll {H : Type} : List (DataW H) → Nat
  | [] => 0
  | d :: r => uptoBulk d + uptoBulkAll r
def uptoBulkEntries {H : Type} : List (Lit × DataW H) → Nat
  | [] => 0
  | x :: r => uptoBulkEntry x + uptoBulkEntries r
def uptoBulkEntry {H : Type} : Lit × DataW H → Nat
  | (.string bytes, d) => bytes.length + uptoBulk d + 1
  | (_, d) => uptoBulk d + 1
 end
def uptoSmall : (H : Type) → List (DataW H) → Bool := fun _ ds => decide (uptoBulkAll ds ≤ 1048576)
def OpenSpec.upto (s : _root_.Go.ChangeSpec) : _root_.Go.OpenSpec := { _root_.Go.OpenSpec.ofChange s with cond := some uptoSmall }

/-- 'dataflowlaw46.SuppressTells', WHERE WHAT IT READS IS OF BULK AT MOST 1048576: true; the input reads as it did. -/
def suppressTellsUptoRow : OpenClaim := { program := "ytnoangbidnigdaadoor", sum := "a7d6eb87b13235d0fe025be9af6b63ccb2d0df20193b69a758f54c982f22d1c4", func := "dataflow/dataflowlaw46.SuppressTells", spec := "suppressTells", inPlace := ["internal/bytealg.IndexByteString", "internal/bytealg.IndexString", "internal/bytealg.CountString", "internal/reflectlite.TypeOf", "internal/reflectlite.ValueOf", "(internal/reflectlite.Value).Type", "(internal/reflectlite.Value).IsNil", "(internal/reflectlite.Value).Elem", "(internal/reflectlite.Value).Set"], unfollowed := true, recurses := true, named := ["dataflow/lex.keywords", "internal/bytealg.MaxLen", "dataflow/suppress.words", "unicode/utf8.first", "unicode/utf8.acceptRanges", "errors.errorType"], apart := false, laid := [("unicode/utf8.acceptRanges", laid_unicode_utf8_acceptRanges), ("errors.errorType", laid_errors_errorType), ("dataflow/lex.keywords", laid_dataflow_lex_keywords), ("dataflow/suppress.words", laid_dataflow_suppress_words), ("unicode/utf8.first", laid_unicode_utf8_first)], narrowed := true }
def SuppressTellsUptoSaid : Prop := suppressTellsUptoRow.holds Tryd.pinned (OpenSpec.upto suppressTellsSpec)

/-- 'dataflowlaw46.SuppressBack', WHERE WHAT IT READS IS OF BULK AT MOST 1048576: true; the input reads as it did. -/
def suppressBackUptoRow : OpenClaim := { program := "ytnoangbidnigdaadoor", sum := "a7d6eb87b13235d0fe025be9af6b63ccb2d0df20193b69a758f54c982f22d1c4", func := "dataflow/dataflowlaw46.SuppressBack", spec := "suppressBack", inPlace := ["internal/bytealg.IndexByteString", "internal/bytealg.IndexString", "internal/bytealg.CountString", "internal/reflectlite.TypeOf", "internal/reflectlite.ValueOf", "(internal/reflectlite.Value).Type", "(internal/reflectlite.Value).IsNil", "(internal/reflectlite.Value).Elem", "(internal/reflectlite.Value).Set", "internal/abi.NoEscape"], unfollowed := true, recurses := true, named := ["internal/bytealg.MaxLen", "dataflow/suppress.words", "unicode/utf8.first", "unicode/utf8.acceptRanges", "dataflow/lex.keywords", "errors.errorType"], apart := false, laid := [("unicode/utf8.acceptRanges", laid_unicode_utf8_acceptRanges), ("errors.errorType", laid_errors_errorType), ("dataflow/lex.keywords", laid_dataflow_lex_keywords), ("dataflow/suppress.words", laid_dataflow_suppress_words), ("unicode/utf8.first", laid_unicode_utf8_first)], narrowed := true }
def SuppressBackUptoSaid : Prop := suppressBackUptoRow.holds Tryd.pinned (OpenSpec.upto suppressBackSpec)

/-- 'dataflowlaw46.SuppressParses', WHERE WHAT IT READS IS OF BULK AT MOST 1048576: true; the input reads as it did. -/
def suppressParsesUptoRow : OpenClaim := { program := "ytnoangbidnigdaadoor", sum := "a7d6eb87b13235d0fe025be9af6b63ccb2d0df20193b69a758f54c982f22d1c4", func := "dataflow/dataflowlaw46.SuppressParses", spec := "suppressParses", inPlace := ["internal/bytealg.IndexByteString", "internal/bytealg.IndexString", "internal/bytealg.CountString", "internal/reflectlite.TypeOf", "internal/reflectlite.ValueOf", "(internal/reflectlite.Value).Type", "(internal/reflectlite.Value).IsNil", "(internal/reflectlite.Value).Elem", "(internal/reflectlite.Value).Set", "internal/abi.NoEscape"], unfollowed := true, recurses := true, named := ["internal/bytealg.MaxLen", "dataflow/suppress.words", "unicode/utf8.first", "unicode/utf8.acceptRanges", "dataflow/lex.keywords", "errors.errorType"], apart := false, laid := [("unicode/utf8.acceptRanges", laid_unicode_utf8_acceptRanges), ("errors.errorType", laid_errors_errorType), ("dataflow/lex.keywords", laid_dataflow_lex_keywords), ("dataflow/suppress.words", laid_dataflow_suppress_words), ("unicode/utf8.first", laid_unicode_utf8_first)], narrowed := true }
def SuppressParsesUptoSaid : Prop := suppressParsesUptoRow.holds Tryd.pinned (OpenSpec.upto suppressParsesSpec)

/-- 'dataflowlaw46.SuppressApplies', WHERE WHAT IT READS IS OF BULK AT MOST 1048576: true; the input reads as it did. -/
def suppressAppliesUptoRow : OpenClaim := { program := "ytnoangbidnigdaadoor", sum := "a7d6eb87b13235d0fe025be9af6b63ccb2d0df20193b69a758f54c982f22d1c4", func := "dataflow/dataflowlaw46.SuppressApplies", spec := "suppressApplies", inPlace := ["internal/bytealg.IndexByteString", "internal/bytealg.IndexString", "internal/bytealg.CountString", "internal/reflectlite.TypeOf", "internal/reflectlite.ValueOf", "(internal/reflectlite.Value).Type", "(internal/reflectlite.Value).IsNil", "(internal/reflectlite.Value).Elem", "(internal/reflectlite.Value).Set"], unfollowed := true, recurses := true, named := ["internal/bytealg.MaxLen", "dataflow/suppress.words", "unicode/utf8.first", "unicode/utf8.acceptRanges", "dataflow/lex.keywords", "errors.errorType"], apart := false, laid := [("unicode/utf8.acceptRanges", laid_unicode_utf8_acceptRanges), ("errors.errorType", laid_errors_errorType), ("dataflow/lex.keywords", laid_dataflow_lex_keywords), ("dataflow/suppress.words", laid_dataflow_suppress_words), ("unicode/utf8.first", laid_unicode_utf8_first)], narrowed := true }
def SuppressAppliesUptoSaid : Prop := suppressAppliesUptoRow.holds Tryd.pinned (OpenSpec.upto suppressAppliesSpec)

/-- 'dataflowlaw46.SuppressSplit', WHERE WHAT IT READS IS OF BULK AT MOST 1048576: true; the input reads as it did. -/
def suppressSplitUptoRow : OpenClaim := { program := "ytnoangbidnigdaadoor", sum := "a7d6eb87b13235d0fe025be9af6b63ccb2d0df20193b69a758f54c982f22d1c4", func := "dataflow/dataflowlaw46.SuppressSplit", spec := "suppressSplit", inPlace := ["internal/bytealg.IndexByteString", "internal/bytealg.IndexString", "internal/bytealg.CountString", "internal/reflectlite.TypeOf", "internal/reflectlite.ValueOf", "(internal/reflectlite.Value).Type", "(internal/reflectlite.Value).IsNil", "(internal/reflectlite.Value).Elem", "(internal/reflectlite.Value).Set"], unfollowed := true, recurses := true, named := ["internal/bytealg.MaxLen", "dataflow/suppress.words", "unicode/utf8.first", "unicode/utf8.acceptRanges", "dataflow/lex.keywords", "errors.errorType"], apart := false, laid := [("unicode/utf8.acceptRanges", laid_unicode_utf8_acceptRanges), ("errors.errorType", laid_errors_errorType), ("dataflow/lex.keywords", laid_dataflow_lex_keywords), ("dataflow/suppress.words", laid_dataflow_suppress_words), ("unicode/utf8.first", laid_unicode_utf8_first)], narrowed := true }
def SuppressSplitUptoSaid : Prop := suppressSplitUptoRow.holds Tryd.pinned (OpenSpec.upto suppressSplitSpec)

end Rows
end Go.Proofs.YtnoangbidnigdaaDoor

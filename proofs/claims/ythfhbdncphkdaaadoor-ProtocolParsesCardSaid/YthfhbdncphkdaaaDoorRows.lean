/-
  NARROWER THAN 'FOR EVERY INPUT', by the rows' own cells (each row's printed sentence says how): LexTokens: laid · LexWords: laid · LexSpans: laid · LexJoins: laid · ProtocolSteps: laid · LexPlaces: laid · ProtocolChecks: laid · ProtocolAbsorbs: laid · ProtocolBack: laid · ProtocolParses: laid.
  DERIVED. THE GIVEN ROWS OF THIS SEAT. 10 by the template 'for every input the law returns true; each argument reads behind the call as it read before'; 0 by the template 'total and deterministic' (their statements: YthfhbdncphkdaaaDoorTotals.lean).
  GIVEN WITH THE SEED: the statements are not yours to turn. If you find one false, say at which input.
  Laid BY PROGRAM, IN A SANDBOX (cutbox-rows.mjs): the forced cells as the released guide's own fill.sh prints them over the translation 01b74b5698a183b6… (all of the seat's roots in one cut). By AI agents, Wed Nov 11 2026. No macro, syntax, notation, axiom, sorry.
-/
import Derived.Test.YthfhbdncphkdaaaDoorChecked
import GoSem.PinnedTables
import GoSem.Claim
import GoSem.ClaimJoined
import GoSem.ClaimMapViews
import Derived.JoinedTies
import Derived.KernelRfl
namespace Go.Proofs.YthfhbdncphkdaaaDoor
/- THE CELL 'sum', in the pinned program and in every row, IS THE sha256 OF THE DUMP (.gsa) THAT YthfhbdncphkdaaaDoorProg.lean LOADS. Nothing in Lean hashes anything: it is a label: what it is worth is what the hold of that sum in a sandbox is worth. -/
noncomputable def Tryd.pinned : Pinned := { name := "ythfhbdncphkdaaadoor", sum := "01b74b5698a183b6b41c818aba98f26cadb8b73872795c42f919f7fd29eb793d", checked := Tryd.checked }
namespace Rows
def none {H : Type} : Left H := { results := [], args := [] }

/- WHAT THE LISTED PACKAGE-LEVEL VARIABLES READ AS WHEN THE CALL BEGINS. Each datum BY PROGRAM (the guide's laid-datum.mjs) off the statement by which the dump's own 'gosem.cut.vars' lays the variable. In a bare row this is a premise. The card (YthfhbdncphkdaaaDoorCards.lean) ties it to the program's text. -/
def laid_dataflow_lex_keywords {H : Type} : DataW H := .agg [.lit (.string [99, 108, 97, 115, 115]), .lit (.string [101, 120, 116, 101, 110, 100, 115]), .lit (.string [118, 97, 114]), .lit (.string [100, 101, 102]), .lit (.string [115, 116, 97, 116, 105, 99]), .lit (.string [105, 102]), .lit (.string [101, 108, 115, 101]), .lit (.string [119, 104, 105, 108, 101]), .lit (.string [116, 114, 121]), .lit (.string [99, 97, 116, 99, 104]), .lit (.string [116, 104, 114, 111, 119]), .lit (.string [114, 101, 116, 117, 114, 110]), .lit (.string [110, 101, 119]), .lit (.string [110, 117, 108, 108]), .lit (.string [116, 104, 105, 115]), .lit (.string [105, 110, 112, 117, 116]), .lit (.string [105, 110, 116])]
def laid_dataflow_lex_marks {H : Type} : DataW H := .agg [.lit (.string [58, 58]), .lit (.string [61, 61]), .lit (.string [58]), .lit (.string [123]), .lit (.string [125]), .lit (.string [40]), .lit (.string [41]), .lit (.string [59]), .lit (.string [44]), .lit (.string [46]), .lit (.string [61]), .lit (.string [60]), .lit (.string [43]), .lit (.string [45]), .lit (.string [42])]
def laid_unicode_utf8_acceptRanges {H : Type} : DataW H := .agg [.agg [.lit (.int .u8 128), .lit (.int .u8 191)], .agg [.lit (.int .u8 160), .lit (.int .u8 191)], .agg [.lit (.int .u8 128), .lit (.int .u8 159)], .agg [.lit (.int .u8 144), .lit (.int .u8 191)], .agg [.lit (.int .u8 128), .lit (.int .u8 143)], .agg [.lit (.int .u8 0), .lit (.int .u8 0)], .agg [.lit (.int .u8 0), .lit (.int .u8 0)], .agg [.lit (.int .u8 0), .lit (.int .u8 0)], .agg [.lit (.int .u8 0), .lit (.int .u8 0)], .agg [.lit (.int .u8 0), .lit (.int .u8 0)], .agg [.lit (.int .u8 0), .lit (.int .u8 0)], .agg [.lit (.int .u8 0), .lit (.int .u8 0)], .agg [.lit (.int .u8 0), .lit (.int .u8 0)], .agg [.lit (.int .u8 0), .lit (.int .u8 0)], .agg [.lit (.int .u8 0), .lit (.int .u8 0)], .agg [.lit (.int .u8 0), .lit (.int .u8 0)]]
/-- One of Go's own tables, pinned by name: the form's constant. -/
def laid_unicode_utf8_first : DataW Unit := Go.Pinned.utf8First

/-- 'dataflowlaw07.LexTokens': WHATEVER THE INPUT: true; the input reads as it did. -/
def lexTokensSpec : ChangeSpec := { name := "lexTokens", fn := fun _ => fun
  | [d] => { results := [.lit (.bool true)], args := [d] }
  | _ => none }
def lexTokensRow : OpenClaim := { program := "ythfhbdncphkdaaadoor", sum := "01b74b5698a183b6b41c818aba98f26cadb8b73872795c42f919f7fd29eb793d", func := "dataflow/dataflowlaw07.LexTokens", spec := "lexTokens", inPlace := ["internal/bytealg.IndexByteString"], named := ["dataflow/lex.marks", "dataflow/lex.keywords"], apart := false, laid := [("dataflow/lex.keywords", laid_dataflow_lex_keywords), ("dataflow/lex.marks", laid_dataflow_lex_marks)] }
def LexTokensSaid : Prop := lexTokensRow.holds Tryd.pinned (OpenSpec.ofChange lexTokensSpec)

/-- ITS FALSE NEIGHBOUR: 'it returns false'. Refute it at one input. -/
def lexTokensWrong : ChangeSpec := { name := "lexTokens", fn := fun _ => fun
  | [d] => { results := [.lit (.bool false)], args := [d] }
  | _ => none }
def LexTokensWrongFalsely : Prop := lexTokensRow.holds Tryd.pinned (OpenSpec.ofChange lexTokensWrong)

/-- 'dataflowlaw07.LexWords': WHATEVER THE INPUT: true; the input reads as it did. -/
def lexWordsSpec : ChangeSpec := { name := "lexWords", fn := fun _ => fun
  | [d] => { results := [.lit (.bool true)], args := [d] }
  | _ => none }
def lexWordsRow : OpenClaim := { program := "ythfhbdncphkdaaadoor", sum := "01b74b5698a183b6b41c818aba98f26cadb8b73872795c42f919f7fd29eb793d", func := "dataflow/dataflowlaw07.LexWords", spec := "lexWords", inPlace := ["internal/bytealg.IndexByteString"], named := ["dataflow/lex.keywords", "dataflow/lex.marks"], apart := false, laid := [("dataflow/lex.keywords", laid_dataflow_lex_keywords), ("dataflow/lex.marks", laid_dataflow_lex_marks)] }
def LexWordsSaid : Prop := lexWordsRow.holds Tryd.pinned (OpenSpec.ofChange lexWordsSpec)

/-- ITS FALSE NEIGHBOUR: 'it returns false'. Refute it at one input. -/
def lexWordsWrong : ChangeSpec := { name := "lexWords", fn := fun _ => fun
  | [d] => { results := [.lit (.bool false)], args := [d] }
  | _ => none }
def LexWordsWrongFalsely : Prop := lexWordsRow.holds Tryd.pinned (OpenSpec.ofChange lexWordsWrong)

/-- 'dataflowlaw07.LexSpans': WHATEVER THE INPUT: true; the input reads as it did. -/
def lexSpansSpec : ChangeSpec := { name := "lexSpans", fn := fun _ => fun
  | [d] => { results := [.lit (.bool true)], args := [d] }
  | _ => none }
def lexSpansRow : OpenClaim := { program := "ythfhbdncphkdaaadoor", sum := "01b74b5698a183b6b41c818aba98f26cadb8b73872795c42f919f7fd29eb793d", func := "dataflow/dataflowlaw07.LexSpans", spec := "lexSpans", inPlace := ["internal/bytealg.IndexByteString"], named := ["dataflow/lex.marks", "dataflow/lex.keywords"], apart := false, laid := [("dataflow/lex.keywords", laid_dataflow_lex_keywords), ("dataflow/lex.marks", laid_dataflow_lex_marks)] }
def LexSpansSaid : Prop := lexSpansRow.holds Tryd.pinned (OpenSpec.ofChange lexSpansSpec)

/-- ITS FALSE NEIGHBOUR: 'it returns false'. Refute it at one input. -/
def lexSpansWrong : ChangeSpec := { name := "lexSpans", fn := fun _ => fun
  | [d] => { results := [.lit (.bool false)], args := [d] }
  | _ => none }
def LexSpansWrongFalsely : Prop := lexSpansRow.holds Tryd.pinned (OpenSpec.ofChange lexSpansWrong)

/-- 'dataflowlaw07.LexJoins': WHATEVER THE INPUT: true; the input reads as it did. -/
def lexJoinsSpec : ChangeSpec := { name := "lexJoins", fn := fun _ => fun
  | [d] => { results := [.lit (.bool true)], args := [d] }
  | _ => none }
def lexJoinsRow : OpenClaim := { program := "ythfhbdncphkdaaadoor", sum := "01b74b5698a183b6b41c818aba98f26cadb8b73872795c42f919f7fd29eb793d", func := "dataflow/dataflowlaw07.LexJoins", spec := "lexJoins", inPlace := ["internal/bytealg.IndexByteString", "internal/abi.NoEscape", "internal/bytealg.MakeNoZero"], named := ["dataflow/lex.marks", "dataflow/lex.keywords"], apart := false, laid := [("dataflow/lex.keywords", laid_dataflow_lex_keywords), ("dataflow/lex.marks", laid_dataflow_lex_marks)] }
def LexJoinsSaid : Prop := lexJoinsRow.holds Tryd.pinned (OpenSpec.ofChange lexJoinsSpec)

/-- ITS FALSE NEIGHBOUR: 'it returns false'. Refute it at one input. -/
def lexJoinsWrong : ChangeSpec := { name := "lexJoins", fn := fun _ => fun
  | [d] => { results := [.lit (.bool false)], args := [d] }
  | _ => none }
def LexJoinsWrongFalsely : Prop := lexJoinsRow.holds Tryd.pinned (OpenSpec.ofChange lexJoinsWrong)

/-- 'dataflowlaw39.ProtocolSteps': WHATEVER THE INPUT: true; the input reads as it did. -/
def protocolStepsSpec : ChangeSpec := { name := "protocolSteps", fn := fun _ => fun
  | [d1, d2, d3] => { results := [.lit (.bool true)], args := [d1, d2, d3] }
  | _ => none }
def protocolStepsRow : OpenClaim := { program := "ythfhbdncphkdaaadoor", sum := "01b74b5698a183b6b41c818aba98f26cadb8b73872795c42f919f7fd29eb793d", func := "dataflow/dataflowlaw39.ProtocolSteps", spec := "protocolSteps", inPlace := ["internal/abi.NoEscape", "internal/bytealg.MakeNoZero"], unfollowed := true, recurses := true, named := ["dataflow/lex.keywords"], apart := false, laid := [("dataflow/lex.keywords", laid_dataflow_lex_keywords)] }
def ProtocolStepsSaid : Prop := protocolStepsRow.holds Tryd.pinned (OpenSpec.ofChange protocolStepsSpec)

/-- ITS FALSE NEIGHBOUR: 'it returns false'. Refute it at one input. -/
def protocolStepsWrong : ChangeSpec := { name := "protocolSteps", fn := fun _ => fun
  | [d1, d2, d3] => { results := [.lit (.bool false)], args := [d1, d2, d3] }
  | _ => none }
def ProtocolStepsWrongFalsely : Prop := protocolStepsRow.holds Tryd.pinned (OpenSpec.ofChange protocolStepsWrong)

/-- 'dataflowlaw07.LexPlaces': WHATEVER THE INPUT: true; the input reads as it did. -/
def lexPlacesSpec : ChangeSpec := { name := "lexPlaces", fn := fun _ => fun
  | [d1, d2] => { results := [.lit (.bool true)], args := [d1, d2] }
  | _ => none }
def lexPlacesRow : OpenClaim := { program := "ythfhbdncphkdaaadoor", sum := "01b74b5698a183b6b41c818aba98f26cadb8b73872795c42f919f7fd29eb793d", func := "dataflow/dataflowlaw07.LexPlaces", spec := "lexPlaces", inPlace := ["internal/bytealg.CountString", "internal/bytealg.IndexByteString", "internal/bytealg.IndexString"], named := ["internal/bytealg.MaxLen", "dataflow/lex.marks", "dataflow/lex.keywords"], apart := false, laid := [("dataflow/lex.keywords", laid_dataflow_lex_keywords), ("dataflow/lex.marks", laid_dataflow_lex_marks)] }
def LexPlacesSaid : Prop := lexPlacesRow.holds Tryd.pinned (OpenSpec.ofChange lexPlacesSpec)

/-- ITS FALSE NEIGHBOUR: 'it returns false'. Refute it at one input. -/
def lexPlacesWrong : ChangeSpec := { name := "lexPlaces", fn := fun _ => fun
  | [d1, d2] => { results := [.lit (.bool false)], args := [d1, d2] }
  | _ => none }
def LexPlacesWrongFalsely : Prop := lexPlacesRow.holds Tryd.pinned (OpenSpec.ofChange lexPlacesWrong)

/-- 'dataflowlaw39.ProtocolChecks': WHATEVER THE INPUT: true; the input reads as it did. -/
def protocolChecksSpec : ChangeSpec := { name := "protocolChecks", fn := fun _ => fun
  | [d] => { results := [.lit (.bool true)], args := [d] }
  | _ => none }
def protocolChecksRow : OpenClaim := { program := "ythfhbdncphkdaaadoor", sum := "01b74b5698a183b6b41c818aba98f26cadb8b73872795c42f919f7fd29eb793d", func := "dataflow/dataflowlaw39.ProtocolChecks", spec := "protocolChecks", inPlace := ["internal/abi.NoEscape", "internal/bytealg.MakeNoZero"], unfollowed := true, recurses := true, named := ["dataflow/lex.keywords"], apart := false, laid := [("dataflow/lex.keywords", laid_dataflow_lex_keywords)] }
def ProtocolChecksSaid : Prop := protocolChecksRow.holds Tryd.pinned (OpenSpec.ofChange protocolChecksSpec)

/-- ITS FALSE NEIGHBOUR: 'it returns false'. Refute it at one input. -/
def protocolChecksWrong : ChangeSpec := { name := "protocolChecks", fn := fun _ => fun
  | [d] => { results := [.lit (.bool false)], args := [d] }
  | _ => none }
def ProtocolChecksWrongFalsely : Prop := protocolChecksRow.holds Tryd.pinned (OpenSpec.ofChange protocolChecksWrong)

/-- 'dataflowlaw39.ProtocolAbsorbs': WHATEVER THE INPUT: true; the input reads as it did. -/
def protocolAbsorbsSpec : ChangeSpec := { name := "protocolAbsorbs", fn := fun _ => fun
  | [d1, d2] => { results := [.lit (.bool true)], args := [d1, d2] }
  | _ => none }
def protocolAbsorbsRow : OpenClaim := { program := "ythfhbdncphkdaaadoor", sum := "01b74b5698a183b6b41c818aba98f26cadb8b73872795c42f919f7fd29eb793d", func := "dataflow/dataflowlaw39.ProtocolAbsorbs", spec := "protocolAbsorbs", inPlace := ["internal/abi.NoEscape", "internal/bytealg.MakeNoZero"], unfollowed := true, recurses := true, named := ["dataflow/lex.keywords"], apart := false, laid := [("dataflow/lex.keywords", laid_dataflow_lex_keywords)] }
def ProtocolAbsorbsSaid : Prop := protocolAbsorbsRow.holds Tryd.pinned (OpenSpec.ofChange protocolAbsorbsSpec)

/-- ITS FALSE NEIGHBOUR: 'it returns false'. Refute it at one input. -/
def protocolAbsorbsWrong : ChangeSpec := { name := "protocolAbsorbs", fn := fun _ => fun
  | [d1, d2] => { results := [.lit (.bool false)], args := [d1, d2] }
  | _ => none }
def ProtocolAbsorbsWrongFalsely : Prop := protocolAbsorbsRow.holds Tryd.pinned (OpenSpec.ofChange protocolAbsorbsWrong)

/-- 'dataflowlaw39.ProtocolBack': WHATEVER THE INPUT: true; the input reads as it did. -/
def protocolBackSpec : ChangeSpec := { name := "protocolBack", fn := fun _ => fun
  | [d] => { results := [.lit (.bool true)], args := [d] }
  | _ => none }
def protocolBackRow : OpenClaim := { program := "ythfhbdncphkdaaadoor", sum := "01b74b5698a183b6b41c818aba98f26cadb8b73872795c42f919f7fd29eb793d", func := "dataflow/dataflowlaw39.ProtocolBack", spec := "protocolBack", inPlace := ["internal/abi.NoEscape", "internal/bytealg.MakeNoZero", "internal/bytealg.CountString", "internal/bytealg.IndexByteString", "internal/bytealg.IndexString"], unfollowed := true, recurses := true, named := ["dataflow/lex.keywords", "unicode/utf8.first", "unicode/utf8.acceptRanges", "internal/bytealg.MaxLen"], apart := false, laid := [("unicode/utf8.acceptRanges", laid_unicode_utf8_acceptRanges), ("dataflow/lex.keywords", laid_dataflow_lex_keywords), ("unicode/utf8.first", laid_unicode_utf8_first)] }
def ProtocolBackSaid : Prop := protocolBackRow.holds Tryd.pinned (OpenSpec.ofChange protocolBackSpec)

/-- ITS FALSE NEIGHBOUR: 'it returns false'. Refute it at one input. -/
def protocolBackWrong : ChangeSpec := { name := "protocolBack", fn := fun _ => fun
  | [d] => { results := [.lit (.bool false)], args := [d] }
  | _ => none }
def ProtocolBackWrongFalsely : Prop := protocolBackRow.holds Tryd.pinned (OpenSpec.ofChange protocolBackWrong)

/-- 'dataflowlaw39.ProtocolParses': WHATEVER THE INPUT: true; the input reads as it did. -/
def protocolParsesSpec : ChangeSpec := { name := "protocolParses", fn := fun _ => fun
  | [d] => { results := [.lit (.bool true)], args := [d] }
  | _ => none }
def protocolParsesRow : OpenClaim := { program := "ythfhbdncphkdaaadoor", sum := "01b74b5698a183b6b41c818aba98f26cadb8b73872795c42f919f7fd29eb793d", func := "dataflow/dataflowlaw39.ProtocolParses", spec := "protocolParses", inPlace := ["internal/abi.NoEscape", "internal/bytealg.MakeNoZero", "internal/bytealg.CountString", "internal/bytealg.IndexByteString", "internal/bytealg.IndexString"], unfollowed := true, recurses := true, named := ["dataflow/lex.keywords", "unicode/utf8.first", "unicode/utf8.acceptRanges", "internal/bytealg.MaxLen"], apart := false, laid := [("unicode/utf8.acceptRanges", laid_unicode_utf8_acceptRanges), ("dataflow/lex.keywords", laid_dataflow_lex_keywords), ("unicode/utf8.first", laid_unicode_utf8_first)] }
def ProtocolParsesSaid : Prop := protocolParsesRow.holds Tryd.pinned (OpenSpec.ofChange protocolParsesSpec)

/-- ITS FALSE NEIGHBOUR: 'it returns false'. Refute it at one input. -/
def protocolParsesWrong : ChangeSpec := { name := "protocolParses", fn := fun _ => fun
  | [d] => { results := [.lit (.bool false)], args := [d] }
  | _ => none }
def ProtocolParsesWrongFalsely : Prop := protocolParsesRow.holds Tryd.pinned (OpenSpec.ofChange protocolParsesWrong)

/- THE SECOND FORM. 'bulk': how many values and letters a reading holds, each counted each time it is reached (what is shared counts as often as it is met; a slice's spare places count too). A statement '..UptoSaid' is the law's where the arguments, and the package variables that the reading takes, are together of bulk at most 1048576: NARROWER than '..Said'. Prove '..Said' where nothing that the law and all that it calls make is longer than what came in: it says more and counts as full. Else prove '..UptoSaid'. A law counts once. -/
mutual
def uptoBulk {H : Type} : DataW H → Nat
  | .lit (.string bytes) => bytes.length + 1
  | .lit _ => 1
  | .nil => 1
  | .ptr d => uptoBulk d + 1
  | .slice elems spare => uptoBulkAll elems + uptoBulkAll spare + 1
  | .agg parts => uptoBulkAll parts + 1
  | .iface _ d => uptoBulk d + 1
  | .map entries => uptoBulkEntries entries + 1
  | .held _ => 1
def uptoBulkAll {H : Type} : List (DataW H) → Nat
  | [] => 0
  | d :: r => uptoBulk d + uptoBulkAll r
def uptoBulkEntries {H : Type} : List (Lit × DataW H) → Nat
  | [] => 0
  | x :: r => uptoBulkEntry x + uptoBulkEntries r
def uptoBulkEntry {H : Type} : Lit × DataW H → Nat
  | (.string bytes, d) => bytes.length + uptoBulk d + 1
  | (_, d) => uptoBulk d + 1
 end
def uptoSmall : (H : Type) → List (DataW H) → Bool := fun _ ds => decide (uptoBulkAll ds ≤ 1048576)
def OpenSpec.upto (s : _root_.Go.ChangeSpec) : _root_.Go.OpenSpec := { _root_.Go.OpenSpec.ofChange s with cond := some uptoSmall }

/-- 'dataflowlaw07.LexTokens', WHERE WHAT IT READS IS OF BULK AT MOST 1048576: true; the input reads as it did. -/
def lexTokensUptoRow : OpenClaim := { program := "ythfhbdncphkdaaadoor", sum := "01b74b5698a183b6b41c818aba98f26cadb8b73872795c42f919f7fd29eb793d", func := "dataflow/dataflowlaw07.LexTokens", spec := "lexTokens", inPlace := ["internal/bytealg.IndexByteString"], named := ["dataflow/lex.marks", "dataflow/lex.keywords"], apart := false, laid := [("dataflow/lex.keywords", laid_dataflow_lex_keywords), ("dataflow/lex.marks", laid_dataflow_lex_marks)], narrowed := true }
def LexTokensUptoSaid : Prop := lexTokensUptoRow.holds Tryd.pinned (OpenSpec.upto lexTokensSpec)

/-- 'dataflowlaw07.LexWords', WHERE WHAT IT READS IS OF BULK AT MOST 1048576: true; the input reads as it did. -/
def lexWordsUptoRow : OpenClaim := { program := "ythfhbdncphkdaaadoor", sum := "01b74b5698a183b6b41c818aba98f26cadb8b73872795c42f919f7fd29eb793d", func := "dataflow/dataflowlaw07.LexWords", spec := "lexWords", inPlace := ["internal/bytealg.IndexByteString"], named := ["dataflow/lex.keywords", "dataflow/lex.marks"], apart := false, laid := [("dataflow/lex.keywords", laid_dataflow_lex_keywords), ("dataflow/lex.marks", laid_dataflow_lex_marks)], narrowed := true }
def LexWordsUptoSaid : Prop := lexWordsUptoRow.holds Tryd.pinned (OpenSpec.upto lexWordsSpec)

/-- 'dataflowlaw07.LexSpans', WHERE WHAT IT READS IS OF BULK AT MOST 1048576: true; the input reads as it did. -/
def lexSpansUptoRow : OpenClaim := { program := "ythfhbdncphkdaaadoor", sum := "01b74b5698a183b6b41c818aba98f26cadb8b73872795c42f919f7fd29eb793d", func := "dataflow/dataflowlaw07.LexSpans", spec := "lexSpans", inPlace := ["internal/bytealg.IndexByteString"], named := ["dataflow/lex.marks", "dataflow/lex.keywords"], apart := false, laid := [("dataflow/lex.keywords", laid_dataflow_lex_keywords), ("dataflow/lex.marks", laid_dataflow_lex_marks)], narrowed := true }
def LexSpansUptoSaid : Prop := lexSpansUptoRow.holds Tryd.pinned (OpenSpec.upto lexSpansSpec)

/-- 'dataflowlaw07.LexJoins', WHERE WHAT IT READS IS OF BULK AT MOST 1048576: true; the input reads as it did. -/
def lexJoinsUptoRow : OpenClaim := { program := "ythfhbdncphkdaaadoor", sum := "01b74b5698a183b6b41c818aba98f26cadb8b73872795c42f919f7fd29eb793d", func := "dataflow/dataflowlaw07.LexJoins", spec := "lexJoins", inPlace := ["internal/bytealg.IndexByteString", "internal/abi.NoEscape", "internal/bytealg.MakeNoZero"], named := ["dataflow/lex.marks", "dataflow/lex.keywords"], apart := false, laid := [("dataflow/lex.keywords", laid_dataflow_lex_keywords), ("dataflow/lex.marks", laid_dataflow_lex_marks)], narrowed := true }
def LexJoinsUptoSaid : Prop := lexJoinsUptoRow.holds Tryd.pinned (OpenSpec.upto lexJoinsSpec)

/-- 'dataflowlaw39.ProtocolSteps', WHERE WHAT IT READS IS OF BULK AT MOST 1048576: true; the input reads as it did. -/
def protocolStepsUptoRow : OpenClaim := { program := "ythfhbdncphkdaaadoor", sum := "01b74b5698a183b6b41c818aba98f26cadb8b73872795c42f919f7fd29eb793d", func := "dataflow/dataflowlaw39.ProtocolSteps", spec := "protocolSteps", inPlace := ["internal/abi.NoEscape", "internal/bytealg.MakeNoZero"], unfollowed := true, recurses := true, named := ["dataflow/lex.keywords"], apart := false, laid := [("dataflow/lex.keywords", laid_dataflow_lex_keywords)], narrowed := true }
def ProtocolStepsUptoSaid : Prop := protocolStepsUptoRow.holds Tryd.pinned (OpenSpec.upto protocolStepsSpec)

/-- 'dataflowlaw07.LexPlaces', WHERE WHAT IT READS IS OF BULK AT MOST 1048576: true; the input reads as it did. -/
def lexPlacesUptoRow : OpenClaim := { program := "ythfhbdncphkdaaadoor", sum := "01b74b5698a183b6b41c818aba98f26cadb8b73872795c42f919f7fd29eb793d", func := "dataflow/dataflowlaw07.LexPlaces", spec := "lexPlaces", inPlace := ["internal/bytealg.CountString", "internal/bytealg.IndexByteString", "internal/bytealg.IndexString"], named := ["internal/bytealg.MaxLen", "dataflow/lex.marks", "dataflow/lex.keywords"], apart := false, laid := [("dataflow/lex.keywords", laid_dataflow_lex_keywords), ("dataflow/lex.marks", laid_dataflow_lex_marks)], narrowed := true }
def LexPlacesUptoSaid : Prop := lexPlacesUptoRow.holds Tryd.pinned (OpenSpec.upto lexPlacesSpec)

/-- 'dataflowlaw39.ProtocolChecks', WHERE WHAT IT READS IS OF BULK AT MOST 1048576: true; the input reads as it did. -/
def protocolChecksUptoRow : OpenClaim := { program := "ythfhbdncphkdaaadoor", sum := "01b74b5698a183b6b41c818aba98f26cadb8b73872795c42f919f7fd29eb793d", func := "dataflow/dataflowlaw39.ProtocolChecks", spec := "protocolChecks", inPlace := ["internal/abi.NoEscape", "internal/bytealg.MakeNoZero"], unfollowed := true, recurses := true, named := ["dataflow/lex.keywords"], apart := false, laid := [("dataflow/lex.keywords", laid_dataflow_lex_keywords)], narrowed := true }
def ProtocolChecksUptoSaid : Prop := protocolChecksUptoRow.holds Tryd.pinned (OpenSpec.upto protocolChecksSpec)

/-- 'dataflowlaw39.ProtocolAbsorbs', WHERE WHAT IT READS IS OF BULK AT MOST 1048576: true; the input reads as it did. -/
def protocolAbsorbsUptoRow : OpenClaim := { program := "ythfhbdncphkdaaadoor", sum := "01b74b5698a183b6b41c818aba98f26cadb8b73872795c42f919f7fd29eb793d", func := "dataflow/dataflowlaw39.ProtocolAbsorbs", spec := "protocolAbsorbs", inPlace := ["internal/abi.NoEscape", "internal/bytealg.MakeNoZero"], unfollowed := true, recurses := true, named := ["dataflow/lex.keywords"], apart := false, laid := [("dataflow/lex.keywords", laid_dataflow_lex_keywords)], narrowed := true }
def ProtocolAbsorbsUptoSaid : Prop := protocolAbsorbsUptoRow.holds Tryd.pinned (OpenSpec.upto protocolAbsorbsSpec)

/-- 'dataflowlaw39.ProtocolBack', WHERE WHAT IT READS IS OF BULK AT MOST 1048576: true; the input reads as it did. -/
def protocolBackUptoRow : OpenClaim := { program := "ythfhbdncphkdaaadoor", sum := "01b74b5698a183b6b41c818aba98f26cadb8b73872795c42f919f7fd29eb793d", func := "dataflow/dataflowlaw39.ProtocolBack", spec := "protocolBack", inPlace := ["internal/abi.NoEscape", "internal/bytealg.MakeNoZero", "internal/bytealg.CountString", "internal/bytealg.IndexByteString", "internal/bytealg.IndexString"], unfollowed := true, recurses := true, named := ["dataflow/lex.keywords", "unicode/utf8.first", "unicode/utf8.acceptRanges", "internal/bytealg.MaxLen"], apart := false, laid := [("unicode/utf8.acceptRanges", laid_unicode_utf8_acceptRanges), ("dataflow/lex.keywords", laid_dataflow_lex_keywords), ("unicode/utf8.first", laid_unicode_utf8_first)], narrowed := true }
def ProtocolBackUptoSaid : Prop := protocolBackUptoRow.holds Tryd.pinned (OpenSpec.upto protocolBackSpec)

/-- 'dataflowlaw39.ProtocolParses', WHERE WHAT IT READS IS OF BULK AT MOST 1048576: true; the input reads as it did. -/
def protocolParsesUptoRow : OpenClaim := { program := "ythfhbdncphkdaaadoor", sum := "01b74b5698a183b6b41c818aba98f26cadb8b73872795c42f919f7fd29eb793d", func := "dataflow/dataflowlaw39.ProtocolParses", spec := "protocolParses", inPlace := ["internal/abi.NoEscape", "internal/bytealg.MakeNoZero", "internal/bytealg.CountString", "internal/bytealg.IndexByteString", "internal/bytealg.IndexString"], unfollowed := true, recurses := true, named := ["dataflow/lex.keywords", "unicode/utf8.first", "unicode/utf8.acceptRanges", "internal/bytealg.MaxLen"], apart := false, laid := [("unicode/utf8.acceptRanges", laid_unicode_utf8_acceptRanges), ("dataflow/lex.keywords", laid_dataflow_lex_keywords), ("unicode/utf8.first", laid_unicode_utf8_first)], narrowed := true }
def ProtocolParsesUptoSaid : Prop := protocolParsesUptoRow.holds Tryd.pinned (OpenSpec.upto protocolParsesSpec)

end Rows
end Go.Proofs.YthfhbdncphkdaaaDoor

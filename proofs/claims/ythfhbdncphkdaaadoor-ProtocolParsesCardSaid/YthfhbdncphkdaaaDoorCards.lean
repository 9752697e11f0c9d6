/-
  DERIVED. GIVEN WITH THE SEED: THE CARDS: each row of YthfhbdncphkdaaaDoorRows.lean that lists a variable, with what it lists TIED to the program's text (the seventh form; the later family's looks); each row that meets fmt, with fmt's text TOLD by the authors' own Lean function (tested against real Go, not proved from fmt's source: count such statements apart). THE CARD IS WHAT COUNTS. Prove the row's statement (the work); the ties are given (YthfhbdncphkdaaaDoorTie.lean); close each card by the builder's one call (the guide's Derived/Test/ToyasCard.lean, 'card_holds'). Laid BY PROGRAM, IN A SANDBOX (cutbox-door.mjs). By AI agents, Wed Nov 11 2026. No macro, syntax, notation, axiom, sorry.
-/
import Derived.Test.YthfhbdncphkdaaaDoorRows
import GoSem.ClaimSeven
namespace Go.Proofs.YthfhbdncphkdaaaDoor
namespace Rows

/-- THE TIED CARD OF 'dataflowlaw07.LexTokens'. -/
def lexTokensCard : Claim7 := { stood := { row := lexTokensRow, standIns := [], harness := (true, "018ec51513146fa51bb83c71926e2aa3c4bdfb495f0dd487e4ddbce391f2d1c8"), looks := false }, kinds := [], alts := [], laidByText := true, laidKinds := [.data, .data], laidTests := true, laidLooks := .later }
def LexTokensCardSaid : Prop := Claim7.holds Tryd.pinned (.plain (OpenSpec.ofChange lexTokensSpec)) lexTokensCard

/-- THE TIED CARD OF 'dataflowlaw07.LexWords'. -/
def lexWordsCard : Claim7 := { stood := { row := lexWordsRow, standIns := [], harness := (true, "018ec51513146fa51bb83c71926e2aa3c4bdfb495f0dd487e4ddbce391f2d1c8"), looks := false }, kinds := [], alts := [], laidByText := true, laidKinds := [.data, .data], laidTests := true, laidLooks := .later }
def LexWordsCardSaid : Prop := Claim7.holds Tryd.pinned (.plain (OpenSpec.ofChange lexWordsSpec)) lexWordsCard

/-- THE TIED CARD OF 'dataflowlaw07.LexSpans'. -/
def lexSpansCard : Claim7 := { stood := { row := lexSpansRow, standIns := [], harness := (true, "018ec51513146fa51bb83c71926e2aa3c4bdfb495f0dd487e4ddbce391f2d1c8"), looks := false }, kinds := [], alts := [], laidByText := true, laidKinds := [.data, .data], laidTests := true, laidLooks := .later }
def LexSpansCardSaid : Prop := Claim7.holds Tryd.pinned (.plain (OpenSpec.ofChange lexSpansSpec)) lexSpansCard

/-- THE TIED CARD OF 'dataflowlaw07.LexJoins'. -/
def lexJoinsCard : Claim7 := { stood := { row := lexJoinsRow, standIns := [], harness := (true, "018ec51513146fa51bb83c71926e2aa3c4bdfb495f0dd487e4ddbce391f2d1c8"), looks := false }, kinds := [], alts := [], laidByText := true, laidKinds := [.data, .data], laidTests := true, laidLooks := .later }
def LexJoinsCardSaid : Prop := Claim7.holds Tryd.pinned (.plain (OpenSpec.ofChange lexJoinsSpec)) lexJoinsCard

/-- THE TIED CARD OF 'dataflowlaw39.ProtocolSteps'. -/
def protocolStepsCard : Claim7 := { stood := { row := protocolStepsRow, standIns := [], harness := (true, "018ec51513146fa51bb83c71926e2aa3c4bdfb495f0dd487e4ddbce391f2d1c8"), looks := false }, kinds := [], alts := [], laidByText := true, laidKinds := [.data], laidTests := true, laidLooks := .later }
def ProtocolStepsCardSaid : Prop := Claim7.holds Tryd.pinned (.plain (OpenSpec.ofChange protocolStepsSpec)) protocolStepsCard

/-- THE TIED CARD OF 'dataflowlaw07.LexPlaces'. -/
def lexPlacesCard : Claim7 := { stood := { row := lexPlacesRow, standIns := [], harness := (true, "018ec51513146fa51bb83c71926e2aa3c4bdfb495f0dd487e4ddbce391f2d1c8"), looks := false }, kinds := [], alts := [], laidByText := true, laidKinds := [.data, .data], laidTests := true, laidLooks := .later }
def LexPlacesCardSaid : Prop := Claim7.holds Tryd.pinned (.plain (OpenSpec.ofChange lexPlacesSpec)) lexPlacesCard

/-- THE TIED CARD OF 'dataflowlaw39.ProtocolChecks'. -/
def protocolChecksCard : Claim7 := { stood := { row := protocolChecksRow, standIns := [], harness := (true, "018ec51513146fa51bb83c71926e2aa3c4bdfb495f0dd487e4ddbce391f2d1c8"), looks := false }, kinds := [], alts := [], laidByText := true, laidKinds := [.data], laidTests := true, laidLooks := .later }
def ProtocolChecksCardSaid : Prop := Claim7.holds Tryd.pinned (.plain (OpenSpec.ofChange protocolChecksSpec)) protocolChecksCard

/-- THE TIED CARD OF 'dataflowlaw39.ProtocolAbsorbs'. -/
def protocolAbsorbsCard : Claim7 := { stood := { row := protocolAbsorbsRow, standIns := [], harness := (true, "018ec51513146fa51bb83c71926e2aa3c4bdfb495f0dd487e4ddbce391f2d1c8"), looks := false }, kinds := [], alts := [], laidByText := true, laidKinds := [.data], laidTests := true, laidLooks := .later }
def ProtocolAbsorbsCardSaid : Prop := Claim7.holds Tryd.pinned (.plain (OpenSpec.ofChange protocolAbsorbsSpec)) protocolAbsorbsCard

/-- THE TIED CARD OF 'dataflowlaw39.ProtocolBack'. -/
def protocolBackCard : Claim7 := { stood := { row := protocolBackRow, standIns := [], harness := (true, "018ec51513146fa51bb83c71926e2aa3c4bdfb495f0dd487e4ddbce391f2d1c8"), looks := false }, kinds := [], alts := [], laidByText := true, laidKinds := [.data, .data, .pinned], laidTests := true, laidLooks := .later }
def ProtocolBackCardSaid : Prop := Claim7.holds Tryd.pinned (.plain (OpenSpec.ofChange protocolBackSpec)) protocolBackCard

/-- THE TIED CARD OF 'dataflowlaw39.ProtocolParses'. -/
def protocolParsesCard : Claim7 := { stood := { row := protocolParsesRow, standIns := [], harness := (true, "018ec51513146fa51bb83c71926e2aa3c4bdfb495f0dd487e4ddbce391f2d1c8"), looks := false }, kinds := [], alts := [], laidByText := true, laidKinds := [.data, .data, .pinned], laidTests := true, laidLooks := .later }
def ProtocolParsesCardSaid : Prop := Claim7.holds Tryd.pinned (.plain (OpenSpec.ofChange protocolParsesSpec)) protocolParsesCard

/-- THE SECOND FORM's CARD OF 'dataflowlaw07.LexTokens'. -/
def lexTokensUptoCard : Claim7 := { stood := { row := lexTokensUptoRow, standIns := [], harness := (true, "018ec51513146fa51bb83c71926e2aa3c4bdfb495f0dd487e4ddbce391f2d1c8"), looks := false }, kinds := [], alts := [], laidByText := true, laidKinds := [.data, .data], laidTests := true, laidLooks := .later }
def LexTokensUptoCardSaid : Prop := Claim7.holds Tryd.pinned (.plain (OpenSpec.upto lexTokensSpec)) lexTokensUptoCard

/-- THE SECOND FORM's CARD OF 'dataflowlaw07.LexWords'. -/
def lexWordsUptoCard : Claim7 := { stood := { row := lexWordsUptoRow, standIns := [], harness := (true, "018ec51513146fa51bb83c71926e2aa3c4bdfb495f0dd487e4ddbce391f2d1c8"), looks := false }, kinds := [], alts := [], laidByText := true, laidKinds := [.data, .data], laidTests := true, laidLooks := .later }
def LexWordsUptoCardSaid : Prop := Claim7.holds Tryd.pinned (.plain (OpenSpec.upto lexWordsSpec)) lexWordsUptoCard

/-- THE SECOND FORM's CARD OF 'dataflowlaw07.LexSpans'. -/
def lexSpansUptoCard : Claim7 := { stood := { row := lexSpansUptoRow, standIns := [], harness := (true, "018ec51513146fa51bb83c71926e2aa3c4bdfb495f0dd487e4ddbce391f2d1c8"), looks := false }, kinds := [], alts := [], laidByText := true, laidKinds := [.data, .data], laidTests := true, laidLooks := .later }
def LexSpansUptoCardSaid : Prop := Claim7.holds Tryd.pinned (.plain (OpenSpec.upto lexSpansSpec)) lexSpansUptoCard

/-- THE SECOND FORM's CARD OF 'dataflowlaw07.LexJoins'. -/
def lexJoinsUptoCard : Claim7 := { stood := { row := lexJoinsUptoRow, standIns := [], harness := (true, "018ec51513146fa51bb83c71926e2aa3c4bdfb495f0dd487e4ddbce391f2d1c8"), looks := false }, kinds := [], alts := [], laidByText := true, laidKinds := [.data, .data], laidTests := true, laidLooks := .later }
def LexJoinsUptoCardSaid : Prop := Claim7.holds Tryd.pinned (.plain (OpenSpec.upto lexJoinsSpec)) lexJoinsUptoCard

/-- THE SECOND FORM's CARD OF 'dataflowlaw39.ProtocolSteps'. -/
def protocolStepsUptoCard : Claim7 := { stood := { row := protocolStepsUptoRow, standIns := [], harness := (true, "018ec51513146fa51bb83c71926e2aa3c4bdfb495f0dd487e4ddbce391f2d1c8"), looks := false }, kinds := [], alts := [], laidByText := true, laidKinds := [.data], laidTests := true, laidLooks := .later }
def ProtocolStepsUptoCardSaid : Prop := Claim7.holds Tryd.pinned (.plain (OpenSpec.upto protocolStepsSpec)) protocolStepsUptoCard

/-- THE SECOND FORM's CARD OF 'dataflowlaw07.LexPlaces'. -/
def lexPlacesUptoCard : Claim7 := { stood := { row := lexPlacesUptoRow, standIns := [], harness := (true, "018ec51513146fa51bb83c71926e2aa3c4bdfb495f0dd487e4ddbce391f2d1c8"), looks := false }, kinds := [], alts := [], laidByText := true, laidKinds := [.data, .data], laidTests := true, laidLooks := .later }
def LexPlacesUptoCardSaid : Prop := Claim7.holds Tryd.pinned (.plain (OpenSpec.upto lexPlacesSpec)) lexPlacesUptoCard

/-- THE SECOND FORM's CARD OF 'dataflowlaw39.ProtocolChecks'. -/
def protocolChecksUptoCard : Claim7 := { stood := { row := protocolChecksUptoRow, standIns := [], harness := (true, "018ec51513146fa51bb83c71926e2aa3c4bdfb495f0dd487e4ddbce391f2d1c8"), looks := false }, kinds := [], alts := [], laidByText := true, laidKinds := [.data], laidTests := true, laidLooks := .later }
def ProtocolChecksUptoCardSaid : Prop := Claim7.holds Tryd.pinned (.plain (OpenSpec.upto protocolChecksSpec)) protocolChecksUptoCard

/-- THE SECOND FORM's CARD OF 'dataflowlaw39.ProtocolAbsorbs'. -/
def protocolAbsorbsUptoCard : Claim7 := { stood := { row := protocolAbsorbsUptoRow, standIns := [], harness := (true, "018ec51513146fa51bb83c71926e2aa3c4bdfb495f0dd487e4ddbce391f2d1c8"), looks := false }, kinds := [], alts := [], laidByText := true, laidKinds := [.data], laidTests := true, laidLooks := .later }
def ProtocolAbsorbsUptoCardSaid : Prop := Claim7.holds Tryd.pinned (.plain (OpenSpec.upto protocolAbsorbsSpec)) protocolAbsorbsUptoCard

/-- THE SECOND FORM's CARD OF 'dataflowlaw39.ProtocolBack'. -/
def protocolBackUptoCard : Claim7 := { stood := { row := protocolBackUptoRow, standIns := [], harness := (true, "018ec51513146fa51bb83c71926e2aa3c4bdfb495f0dd487e4ddbce391f2d1c8"), looks := false }, kinds := [], alts := [], laidByText := true, laidKinds := [.data, .data, .pinned], laidTests := true, laidLooks := .later }
def ProtocolBackUptoCardSaid : Prop := Claim7.holds Tryd.pinned (.plain (OpenSpec.upto protocolBackSpec)) protocolBackUptoCard

/-- THE SECOND FORM's CARD OF 'dataflowlaw39.ProtocolParses'. -/
def protocolParsesUptoCard : Claim7 := { stood := { row := protocolParsesUptoRow, standIns := [], harness := (true, "018ec51513146fa51bb83c71926e2aa3c4bdfb495f0dd487e4ddbce391f2d1c8"), looks := false }, kinds := [], alts := [], laidByText := true, laidKinds := [.data, .data, .pinned], laidTests := true, laidLooks := .later }
def ProtocolParsesUptoCardSaid : Prop := Claim7.holds Tryd.pinned (.plain (OpenSpec.upto protocolParsesSpec)) protocolParsesUptoCard
end Rows
end Go.Proofs.YthfhbdncphkdaaaDoor

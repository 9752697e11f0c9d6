/-
  DERIVED. GIVEN WITH THE SEED: THE CARDS: each row of YtnoangbidnigdaaDoorRows.lean that lists a variable, with what it lists TIED to the program's text (the seventh form; the later family's looks); each row that meets fmt, with fmt's text TOLD by the authors' own Lean function (tested against real Go, not proved from fmt's source: count such statements apart). THE CARD IS WHAT COUNTS. Prove the row's statement (the work); the ties are given (YtnoangbidnigdaaDoorTie.lean); close each card by the builder's one call (the guide's Derived/Test/ToyasCard.lean, 'card_holds'). Laid BY PROGRAM, IN A SANDBOX (cutbox-door.mjs). By AI agents, Wed Nov 11 2026. No macro, syntax, notation, axiom, sorry.
-/
import Derived.Test.YtnoangbidnigdaaDoorRows
import GoSem.ClaimSeven
namespace Go.Proofs.YtnoangbidnigdaaDoor
namespace Rows

/-- THE TIED CARD OF 'dataflowlaw46.SuppressTells'. -/
def suppressTellsCard : Claim7 := { stood := { row := suppressTellsRow, standIns := [], harness := (true, "03f7e6a959acd5efdf070100afaee45044fdd04c6f0bf518ae47c78205d84695"), looks := true }, kinds := [], alts := [], laidByText := true, laidKinds := [.data, .handle, .data, .widerDeep, .pinned], laidTests := true, laidLooks := .later }
def SuppressTellsCardSaid : Prop := Claim7.holds Tryd.pinned (.plain (OpenSpec.ofChange suppressTellsSpec)) suppressTellsCard

/-- THE TIED CARD OF 'dataflowlaw46.SuppressBack'. -/
def suppressBackCard : Claim7 := { stood := { row := suppressBackRow, standIns := [], harness := (true, "03f7e6a959acd5efdf070100afaee45044fdd04c6f0bf518ae47c78205d84695"), looks := true }, kinds := [], alts := [], laidByText := true, laidKinds := [.data, .handle, .data, .widerDeep, .pinned], laidTests := true, laidLooks := .later }
def SuppressBackCardSaid : Prop := Claim7.holds Tryd.pinned (.plain (OpenSpec.ofChange suppressBackSpec)) suppressBackCard

/-- THE TIED CARD OF 'dataflowlaw46.SuppressParses'. -/
def suppressParsesCard : Claim7 := { stood := { row := suppressParsesRow, standIns := [], harness := (true, "03f7e6a959acd5efdf070100afaee45044fdd04c6f0bf518ae47c78205d84695"), looks := true }, kinds := [], alts := [], laidByText := true, laidKinds := [.data, .handle, .data, .widerDeep, .pinned], laidTests := true, laidLooks := .later }
def SuppressParsesCardSaid : Prop := Claim7.holds Tryd.pinned (.plain (OpenSpec.ofChange suppressParsesSpec)) suppressParsesCard

/-- THE TIED CARD OF 'dataflowlaw46.SuppressApplies'. -/
def suppressAppliesCard : Claim7 := { stood := { row := suppressAppliesRow, standIns := [], harness := (true, "03f7e6a959acd5efdf070100afaee45044fdd04c6f0bf518ae47c78205d84695"), looks := true }, kinds := [], alts := [], laidByText := true, laidKinds := [.data, .handle, .data, .widerDeep, .pinned], laidTests := true, laidLooks := .later }
def SuppressAppliesCardSaid : Prop := Claim7.holds Tryd.pinned (.plain (OpenSpec.ofChange suppressAppliesSpec)) suppressAppliesCard

/-- THE TIED CARD OF 'dataflowlaw46.SuppressSplit'. -/
def suppressSplitCard : Claim7 := { stood := { row := suppressSplitRow, standIns := [], harness := (true, "03f7e6a959acd5efdf070100afaee45044fdd04c6f0bf518ae47c78205d84695"), looks := true }, kinds := [], alts := [], laidByText := true, laidKinds := [.data, .handle, .data, .widerDeep, .pinned], laidTests := true, laidLooks := .later }
def SuppressSplitCardSaid : Prop := Claim7.holds Tryd.pinned (.plain (OpenSpec.ofChange suppressSplitSpec)) suppressSplitCard

/-- THE SECOND FORM's CARD OF 'dataflowlaw46.SuppressTells'. -/
def suppressTellsUptoCard : Claim7 := { stood := { row := suppressTellsUptoRow, standIns := [], harness := (true, "03f7e6a959acd5efdf070100afaee45044fdd04c6f0bf518ae47c78205d84695"), looks := true }, kinds := [], alts := [], laidByText := true, laidKinds := [.data, .handle, .data, .widerDeep, .pinned], laidTests := true, laidLooks := .later }
def SuppressTellsUptoCardSaid : Prop := Claim7.holds Tryd.pinned (.plain (OpenSpec.upto suppressTellsSpec)) suppressTellsUptoCard

/-- THE SECOND FORM's CARD OF 'dataflowlaw46.SuppressBack'. -/
def suppressBackUptoCard : Claim7 := { stood := { row := suppressBackUptoRow, standIns := [], harness := (true, "03f7e6a959acd5efdf070100afaee45044fdd04c6f0bf518ae47c78205d84695"), looks := true }, kinds := [], alts := [], laidByText := true, laidKinds := [.data, .handle, .data, .widerDeep, .pinned], laidTests := true, laidLooks := .later }
def SuppressBackUptoCardSaid : Prop := Claim7.holds Tryd.pinned (.plain (OpenSpec.upto suppressBackSpec)) suppressBackUptoCard

/-- THE SECOND FORM's CARD OF 'dataflowlaw46.SuppressParses'. -/
def suppressParsesUptoCard : Claim7 := { stood := { row := suppressParsesUptoRow, standIns := [], harness := (true, "03f7e6a959acd5efdf070100afaee45044fdd04c6f0bf518ae47c78205d84695"), looks := true }, kinds := [], alts := [], laidByText := true, laidKinds := [.data, .handle, .data, .widerDeep, .pinned], laidTests := true, laidLooks := .later }
def SuppressParsesUptoCardSaid : Prop := Claim7.holds Tryd.pinned (.plain (OpenSpec.upto suppressParsesSpec)) suppressParsesUptoCard

/-- THE SECOND FORM's CARD OF 'dataflowlaw46.SuppressApplies'. -/
def suppressAppliesUptoCard : Claim7 := { stood := { row := suppressAppliesUptoRow, standIns := [], harness := (true, "03f7e6a959acd5efdf070100afaee45044fdd04c6f0bf518ae47c78205d84695"), looks := true }, kinds := [], alts := [], laidByText := true, laidKinds := [.data, .handle, .data, .widerDeep, .pinned], laidTests := true, laidLooks := .later }
def SuppressAppliesUptoCardSaid : Prop := Claim7.holds Tryd.pinned (.plain (OpenSpec.upto suppressAppliesSpec)) suppressAppliesUptoCard

/-- THE SECOND FORM's CARD OF 'dataflowlaw46.SuppressSplit'. -/
def suppressSplitUptoCard : Claim7 := { stood := { row := suppressSplitUptoRow, standIns := [], harness := (true, "03f7e6a959acd5efdf070100afaee45044fdd04c6f0bf518ae47c78205d84695"), looks := true }, kinds := [], alts := [], laidByText := true, laidKinds := [.data, .handle, .data, .widerDeep, .pinned], laidTests := true, laidLooks := .later }
def SuppressSplitUptoCardSaid : Prop := Claim7.holds Tryd.pinned (.plain (OpenSpec.upto suppressSplitSpec)) suppressSplitUptoCard
end Rows
end Go.Proofs.YtnoangbidnigdaaDoor

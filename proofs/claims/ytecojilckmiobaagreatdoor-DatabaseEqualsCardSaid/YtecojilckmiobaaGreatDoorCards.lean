/-
  DERIVED. GIVEN WITH THE SEED: THE CARDS: each row of YtecojilckmiobaaGreatDoorRows.lean that lists a variable, with what it lists TIED to the program's text (the seventh form; the later family's looks); each row that meets fmt, with fmt's text TOLD by the authors' own Lean function (tested against real Go, not proved from fmt's source: count such statements apart). THE CARD IS WHAT COUNTS. Prove the row's statement (the work); the ties are given (YtecojilckmiobaaGreatDoorTie.lean); close each card by the builder's one call (the guide's Derived/Test/ToyasCard.lean, 'card_holds'). Laid BY PROGRAM, IN A SANDBOX (cutbox-door.mjs). By AI agents, Wed Nov 11 2026. No macro, syntax, notation, axiom, sorry.
-/
import Derived.Test.YtecojilckmiobaaGreatDoorRows
import GoSem.ClaimSeven
namespace Go.Proofs.YtecojilckmiobaaGreatDoor
namespace Rows

/-- THE TIED CARD OF 'unicodetextlaw12.DatabaseChecks'. -/
def databaseChecksCard : Claim7 := { stood := { row := databaseChecksRow, standIns := [], harness := (true, "0d11689f7d3e49d3230cc851ac358f554c7b4c267cb99e1e81a918926f8a94d2"), looks := true }, kinds := [], alts := [], laidByText := true, laidKinds := [.data, .data, .data, .data, .sentinel, .sentinel, .listed, .data, .pinned], laidTests := true, laidLooks := .later }
def DatabaseChecksCardSaid : Prop := Claim7.holds Tryz.pinned (.plain (OpenSpec.ofChange databaseChecksSpec)) databaseChecksCard

/-- THE TIED CARD OF 'unicodetextlaw12.DatabaseParses'. -/
def databaseParsesCard : Claim7 := { stood := { row := databaseParsesRow, standIns := [], harness := (true, "0d11689f7d3e49d3230cc851ac358f554c7b4c267cb99e1e81a918926f8a94d2"), looks := true }, kinds := [], alts := [], laidByText := true, laidKinds := [.data, .data, .data, .data, .sentinel, .sentinel, .listed, .data, .pinned], laidTests := true, laidLooks := .later }
def DatabaseParsesCardSaid : Prop := Claim7.holds Tryz.pinned (.plain (OpenSpec.ofChange databaseParsesSpec)) databaseParsesCard

/-- THE TIED CARD OF 'unicodetextlaw12.DatabaseValid'. -/
def databaseValidCard : Claim7 := { stood := { row := databaseValidRow, standIns := [], harness := (true, "0d11689f7d3e49d3230cc851ac358f554c7b4c267cb99e1e81a918926f8a94d2"), looks := true }, kinds := [], alts := [], laidByText := true, laidKinds := [.data, .data, .data, .data, .sentinel, .sentinel, .listed, .data, .pinned], laidTests := true, laidLooks := .later }
def DatabaseValidCardSaid : Prop := Claim7.holds Tryz.pinned (.plain (OpenSpec.ofChange databaseValidSpec)) databaseValidCard

/-- THE TIED CARD OF 'unicodetextlaw12.DatabaseTexts'. -/
def databaseTextsCard : Claim7 := { stood := { row := databaseTextsRow, standIns := [], harness := (true, "0d11689f7d3e49d3230cc851ac358f554c7b4c267cb99e1e81a918926f8a94d2"), looks := true }, kinds := [], alts := [], laidByText := true, laidKinds := [.data, .data, .data, .data, .sentinel, .sentinel, .listed, .data, .pinned], laidTests := true, laidLooks := .later }
def DatabaseTextsCardSaid : Prop := Claim7.holds Tryz.pinned (.plain (OpenSpec.ofChange databaseTextsSpec)) databaseTextsCard

/-- THE TIED CARD OF 'unicodetextlaw12.DatabaseAlone'. -/
def databaseAloneCard : Claim7 := { stood := { row := databaseAloneRow, standIns := [], harness := (true, "0d11689f7d3e49d3230cc851ac358f554c7b4c267cb99e1e81a918926f8a94d2"), looks := true }, kinds := [], alts := [], laidByText := true, laidKinds := [.data, .data, .data, .data, .sentinel, .sentinel, .listed, .data, .pinned], laidTests := true, laidLooks := .later }
def DatabaseAloneCardSaid : Prop := Claim7.holds Tryz.pinned (.plain (OpenSpec.ofChange databaseAloneSpec)) databaseAloneCard

/-- THE TIED CARD OF 'unicodetextlaw12.DatabaseParts'. -/
def databasePartsCard : Claim7 := { stood := { row := databasePartsRow, standIns := [], harness := (true, "0d11689f7d3e49d3230cc851ac358f554c7b4c267cb99e1e81a918926f8a94d2"), looks := true }, kinds := [], alts := [], laidByText := true, laidKinds := [.data, .data, .data, .data, .sentinel, .sentinel, .listed, .data, .pinned], laidTests := true, laidLooks := .later }
def DatabasePartsCardSaid : Prop := Claim7.holds Tryz.pinned (.plain (OpenSpec.ofChange databasePartsSpec)) databasePartsCard

/-- THE TIED CARD OF 'unicodetextlaw12.DatabaseEquals'. -/
def databaseEqualsCard : Claim7 := { stood := { row := databaseEqualsRow, standIns := [], harness := (true, "0d11689f7d3e49d3230cc851ac358f554c7b4c267cb99e1e81a918926f8a94d2"), looks := true }, kinds := [], alts := [], laidByText := true, laidKinds := [.data, .data, .data, .data, .sentinel, .sentinel, .listed, .data, .pinned], laidTests := true, laidLooks := .later }
def DatabaseEqualsCardSaid : Prop := Claim7.holds Tryz.pinned (.plain (OpenSpec.ofChange databaseEqualsSpec)) databaseEqualsCard

/-- THE TIED CARD OF 'unicodetextlaw12.DatabaseRestores'. -/
def databaseRestoresCard : Claim7 := { stood := { row := databaseRestoresRow, standIns := [], harness := (true, "0d11689f7d3e49d3230cc851ac358f554c7b4c267cb99e1e81a918926f8a94d2"), looks := true }, kinds := [], alts := [], laidByText := true, laidKinds := [.data, .data, .data, .data, .sentinel, .sentinel, .listed, .data, .pinned], laidTests := true, laidLooks := .later }
def DatabaseRestoresCardSaid : Prop := Claim7.holds Tryz.pinned (.plain (OpenSpec.ofChange databaseRestoresSpec)) databaseRestoresCard

/-- THE SECOND FORM's CARD OF 'unicodetextlaw12.DatabaseChecks'. -/
def databaseChecksUptoCard : Claim7 := { stood := { row := databaseChecksUptoRow, standIns := [], harness := (true, "0d11689f7d3e49d3230cc851ac358f554c7b4c267cb99e1e81a918926f8a94d2"), looks := true }, kinds := [], alts := [], laidByText := true, laidKinds := [.data, .data, .data, .data, .sentinel, .sentinel, .listed, .data, .pinned], laidTests := true, laidLooks := .later }
def DatabaseChecksUptoCardSaid : Prop := Claim7.holds Tryz.pinned (.plain (OpenSpec.upto databaseChecksSpec)) databaseChecksUptoCard

/-- THE SECOND FORM's CARD OF 'unicodetextlaw12.DatabaseParses'. -/
def databaseParsesUptoCard : Claim7 := { stood := { row := databaseParsesUptoRow, standIns := [], harness := (true, "0d11689f7d3e49d3230cc851ac358f554c7b4c267cb99e1e81a918926f8a94d2"), looks := true }, kinds := [], alts := [], laidByText := true, laidKinds := [.data, .data, .data, .data, .sentinel, .sentinel, .listed, .data, .pinned], laidTests := true, laidLooks := .later }
def DatabaseParsesUptoCardSaid : Prop := Claim7.holds Tryz.pinned (.plain (OpenSpec.upto databaseParsesSpec)) databaseParsesUptoCard

/-- THE SECOND FORM's CARD OF 'unicodetextlaw12.DatabaseValid'. -/
def databaseValidUptoCard : Claim7 := { stood := { row := databaseValidUptoRow, standIns := [], harness := (true, "0d11689f7d3e49d3230cc851ac358f554c7b4c267cb99e1e81a918926f8a94d2"), looks := true }, kinds := [], alts := [], laidByText := true, laidKinds := [.data, .data, .data, .data, .sentinel, .sentinel, .listed, .data, .pinned], laidTests := true, laidLooks := .later }
def DatabaseValidUptoCardSaid : Prop := Claim7.holds Tryz.pinned (.plain (OpenSpec.upto databaseValidSpec)) databaseValidUptoCard

/-- THE SECOND FORM's CARD OF 'unicodetextlaw12.DatabaseTexts'. -/
def databaseTextsUptoCard : Claim7 := { stood := { row := databaseTextsUptoRow, standIns := [], harness := (true, "0d11689f7d3e49d3230cc851ac358f554c7b4c267cb99e1e81a918926f8a94d2"), looks := true }, kinds := [], alts := [], laidByText := true, laidKinds := [.data, .data, .data, .data, .sentinel, .sentinel, .listed, .data, .pinned], laidTests := true, laidLooks := .later }
def DatabaseTextsUptoCardSaid : Prop := Claim7.holds Tryz.pinned (.plain (OpenSpec.upto databaseTextsSpec)) databaseTextsUptoCard

/-- THE SECOND FORM's CARD OF 'unicodetextlaw12.DatabaseAlone'. -/
def databaseAloneUptoCard : Claim7 := { stood := { row := databaseAloneUptoRow, standIns := [], harness := (true, "0d11689f7d3e49d3230cc851ac358f554c7b4c267cb99e1e81a918926f8a94d2"), looks := true }, kinds := [], alts := [], laidByText := true, laidKinds := [.data, .data, .data, .data, .sentinel, .sentinel, .listed, .data, .pinned], laidTests := true, laidLooks := .later }
def DatabaseAloneUptoCardSaid : Prop := Claim7.holds Tryz.pinned (.plain (OpenSpec.upto databaseAloneSpec)) databaseAloneUptoCard

/-- THE SECOND FORM's CARD OF 'unicodetextlaw12.DatabaseParts'. -/
def databasePartsUptoCard : Claim7 := { stood := { row := databasePartsUptoRow, standIns := [], harness := (true, "0d11689f7d3e49d3230cc851ac358f554c7b4c267cb99e1e81a918926f8a94d2"), looks := true }, kinds := [], alts := [], laidByText := true, laidKinds := [.data, .data, .data, .data, .sentinel, .sentinel, .listed, .data, .pinned], laidTests := true, laidLooks := .later }
def DatabasePartsUptoCardSaid : Prop := Claim7.holds Tryz.pinned (.plain (OpenSpec.upto databasePartsSpec)) databasePartsUptoCard

/-- THE SECOND FORM's CARD OF 'unicodetextlaw12.DatabaseEquals'. -/
def databaseEqualsUptoCard : Claim7 := { stood := { row := databaseEqualsUptoRow, standIns := [], harness := (true, "0d11689f7d3e49d3230cc851ac358f554c7b4c267cb99e1e81a918926f8a94d2"), looks := true }, kinds := [], alts := [], laidByText := true, laidKinds := [.data, .data, .data, .data, .sentinel, .sentinel, .listed, .data, .pinned], laidTests := true, laidLooks := .later }
def DatabaseEqualsUptoCardSaid : Prop := Claim7.holds Tryz.pinned (.plain (OpenSpec.upto databaseEqualsSpec)) databaseEqualsUptoCard

/-- THE SECOND FORM's CARD OF 'unicodetextlaw12.DatabaseRestores'. -/
def databaseRestoresUptoCard : Claim7 := { stood := { row := databaseRestoresUptoRow, standIns := [], harness := (true, "0d11689f7d3e49d3230cc851ac358f554c7b4c267cb99e1e81a918926f8a94d2"), looks := true }, kinds := [], alts := [], laidByText := true, laidKinds := [.data, .data, .data, .data, .sentinel, .sentinel, .listed, .data, .pinned], laidTests := true, laidLooks := .later }
def DatabaseRestoresUptoCardSaid : Prop := Claim7.holds Tryz.pinned (.plain (OpenSpec.upto databaseRestoresSpec)) databaseRestoresUptoCard
end Rows
end Go.Proofs.YtecojilckmiobaaGreatDoor

/-
  DERIVED. GIVEN WITH THE SEED: THE CARDS: each row of YtoegidfbnkaabaaGreatDoorRows.lean that lists a variable, with what it lists TIED to the program's text (the seventh form; the later family's looks); each row that meets fmt, with fmt's text TOLD by the authors' own Lean function (tested against real Go, not proved from fmt's source: count such statements apart). THE CARD IS WHAT COUNTS. Prove the row's statement (the work); the ties are given (YtoegidfbnkaabaaGreatDoorTie.lean); close each card by the builder's one call (the guide's Derived/Test/ToyasCard.lean, 'card_holds'). Laid BY PROGRAM, IN A SANDBOX (cutbox-door.mjs). By AI agents, Wed Nov 11 2026. No macro, syntax, notation, axiom, sorry.
-/
import Derived.Test.YtoegidfbnkaabaaGreatDoorRows
import GoSem.ClaimSeven
namespace Go.Proofs.YtoegidfbnkaabaaGreatDoor
namespace Rows

/-- THE TIED CARD OF 'hornkeep.Known'. -/
def knownCard : Claim7 := { stood := { row := knownRow, standIns := [], harness := (true, "71501c33516f01a4d740c2783eba7adf29c72c81702371d8bc22e96ca6284450"), looks := true }, kinds := [], alts := [], laidByText := true, laidKinds := [.data, .data, .data, .data, .handle, .sentinel, .sentinel, .data, .data, .data, .pinned], laidTests := true, laidLooks := .later }
def KnownCardSaid : Prop := Claim7.holds Tryz.pinned (.plain (OpenSpec.ofChange knownSpec)) knownCard

/-- THE TIED CARD OF 'hornkeep.Lists'. -/
def listsCard : Claim7 := { stood := { row := listsRow, standIns := [], harness := (true, "71501c33516f01a4d740c2783eba7adf29c72c81702371d8bc22e96ca6284450"), looks := true }, kinds := [], alts := [], laidByText := true, laidKinds := [.data, .data, .data, .data, .handle, .sentinel, .sentinel, .data, .data, .data, .pinned], laidTests := true, laidLooks := .later }
def ListsCardSaid : Prop := Claim7.holds Tryz.pinned (.plain (OpenSpec.ofChange listsSpec)) listsCard

/-- THE TIED CARD OF 'hornkeep.Reckons'. -/
def reckonsCard : Claim7 := { stood := { row := reckonsRow, standIns := [], harness := (true, "71501c33516f01a4d740c2783eba7adf29c72c81702371d8bc22e96ca6284450"), looks := true }, kinds := [], alts := [], laidByText := true, laidKinds := [.data, .data, .data, .data, .handle, .sentinel, .sentinel, .data, .data, .data, .pinned], laidTests := true, laidLooks := .later }
def ReckonsCardSaid : Prop := Claim7.holds Tryz.pinned (.plain (OpenSpec.ofChange reckonsSpec)) reckonsCard

/-- THE TIED CARD OF 'hornkeep.Cuts'. -/
def cutsCard : Claim7 := { stood := { row := cutsRow, standIns := [], harness := (true, "71501c33516f01a4d740c2783eba7adf29c72c81702371d8bc22e96ca6284450"), looks := true }, kinds := [], alts := [], laidByText := true, laidKinds := [.data, .data, .data, .data, .handle, .sentinel, .sentinel, .data, .data, .data, .pinned], laidTests := true, laidLooks := .later }
def CutsCardSaid : Prop := Claim7.holds Tryz.pinned (.plain (OpenSpec.ofChange cutsSpec)) cutsCard

/-- THE TIED CARD OF 'hornkeep.Twice'. -/
def twiceCard : Claim7 := { stood := { row := twiceRow, standIns := [], harness := (true, "71501c33516f01a4d740c2783eba7adf29c72c81702371d8bc22e96ca6284450"), looks := true }, kinds := [], alts := [], laidByText := true, laidKinds := [.data, .data, .data, .data, .handle, .sentinel, .sentinel, .data, .data, .data, .pinned], laidTests := true, laidLooks := .later }
def TwiceCardSaid : Prop := Claim7.holds Tryz.pinned (.plain (OpenSpec.ofChange twiceSpec)) twiceCard

/-- THE TIED CARD OF 'hornkeep.Canon'. -/
def canonCard : Claim7 := { stood := { row := canonRow, standIns := [], harness := (true, "71501c33516f01a4d740c2783eba7adf29c72c81702371d8bc22e96ca6284450"), looks := true }, kinds := [], alts := [], laidByText := true, laidKinds := [.data, .data, .data, .data, .handle, .sentinel, .sentinel, .data, .data, .data, .pinned], laidTests := true, laidLooks := .later }
def CanonCardSaid : Prop := Claim7.holds Tryz.pinned (.plain (OpenSpec.ofChange canonSpec)) canonCard

/-- THE SECOND FORM's CARD OF 'hornkeep.Known'. -/
def knownUptoCard : Claim7 := { stood := { row := knownUptoRow, standIns := [], harness := (true, "71501c33516f01a4d740c2783eba7adf29c72c81702371d8bc22e96ca6284450"), looks := true }, kinds := [], alts := [], laidByText := true, laidKinds := [.data, .data, .data, .data, .handle, .sentinel, .sentinel, .data, .data, .data, .pinned], laidTests := true, laidLooks := .later }
def KnownUptoCardSaid : Prop := Claim7.holds Tryz.pinned (.plain (OpenSpec.upto knownSpec)) knownUptoCard

/-- THE SECOND FORM's CARD OF 'hornkeep.Lists'. -/
def listsUptoCard : Claim7 := { stood := { row := listsUptoRow, standIns := [], harness := (true, "71501c33516f01a4d740c2783eba7adf29c72c81702371d8bc22e96ca6284450"), looks := true }, kinds := [], alts := [], laidByText := true, laidKinds := [.data, .data, .data, .data, .handle, .sentinel, .sentinel, .data, .data, .data, .pinned], laidTests := true, laidLooks := .later }
def ListsUptoCardSaid : Prop := Claim7.holds Tryz.pinned (.plain (OpenSpec.upto listsSpec)) listsUptoCard

/-- THE SECOND FORM's CARD OF 'hornkeep.Reckons'. -/
def reckonsUptoCard : Claim7 := { stood := { row := reckonsUptoRow, standIns := [], harness := (true, "71501c33516f01a4d740c2783eba7adf29c72c81702371d8bc22e96ca6284450"), looks := true }, kinds := [], alts := [], laidByText := true, laidKinds := [.data, .data, .data, .data, .handle, .sentinel, .sentinel, .data, .data, .data, .pinned], laidTests := true, laidLooks := .later }
def ReckonsUptoCardSaid : Prop := Claim7.holds Tryz.pinned (.plain (OpenSpec.upto reckonsSpec)) reckonsUptoCard

/-- THE SECOND FORM's CARD OF 'hornkeep.Cuts'. -/
def cutsUptoCard : Claim7 := { stood := { row := cutsUptoRow, standIns := [], harness := (true, "71501c33516f01a4d740c2783eba7adf29c72c81702371d8bc22e96ca6284450"), looks := true }, kinds := [], alts := [], laidByText := true, laidKinds := [.data, .data, .data, .data, .handle, .sentinel, .sentinel, .data, .data, .data, .pinned], laidTests := true, laidLooks := .later }
def CutsUptoCardSaid : Prop := Claim7.holds Tryz.pinned (.plain (OpenSpec.upto cutsSpec)) cutsUptoCard

/-- THE SECOND FORM's CARD OF 'hornkeep.Twice'. -/
def twiceUptoCard : Claim7 := { stood := { row := twiceUptoRow, standIns := [], harness := (true, "71501c33516f01a4d740c2783eba7adf29c72c81702371d8bc22e96ca6284450"), looks := true }, kinds := [], alts := [], laidByText := true, laidKinds := [.data, .data, .data, .data, .handle, .sentinel, .sentinel, .data, .data, .data, .pinned], laidTests := true, laidLooks := .later }
def TwiceUptoCardSaid : Prop := Claim7.holds Tryz.pinned (.plain (OpenSpec.upto twiceSpec)) twiceUptoCard

/-- THE SECOND FORM's CARD OF 'hornkeep.Canon'. -/
def canonUptoCard : Claim7 := { stood := { row := canonUptoRow, standIns := [], harness := (true, "71501c33516f01a4d740c2783eba7adf29c72c81702371d8bc22e96ca6284450"), looks := true }, kinds := [], alts := [], laidByText := true, laidKinds := [.data, .data, .data, .data, .handle, .sentinel, .sentinel, .data, .data, .data, .pinned], laidTests := true, laidLooks := .later }
def CanonUptoCardSaid : Prop := Claim7.holds Tryz.pinned (.plain (OpenSpec.upto canonSpec)) canonUptoCard
end Rows
end Go.Proofs.YtoegidfbnkaabaaGreatDoor

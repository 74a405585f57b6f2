/-
  DERIVED. GIVEN WITH THE SEED: THE CARDS: each row of YtilpjhceemaplaaGreatDoorRows.lean that lists a variable, with what it lists TIED to the program's text (the seventh form; the later family's looks); each row that meets fmt, with fmt's text TOLD by the authors' own Lean function (tested against real Go, not proved from fmt's source: count such statements apart). THE CARD IS WHAT COUNTS. Prove the row's statement (the work); the ties are given (YtilpjhceemaplaaGreatDoorTie.lean); close each card by the builder's one call (the guide's Derived/Test/ToyasCard.lean, 'card_holds'). Laid BY PROGRAM, IN A SANDBOX (cutbox-door.mjs). By AI agents, Wed Nov 11 2026. No macro, syntax, notation, axiom, sorry.
-/
import Derived.Test.YtilpjhceemaplaaGreatDoorRows
import GoSem.ClaimSeven
namespace Go.Proofs.YtilpjhceemaplaaGreatDoor
namespace Rows

/-- THE TIED CARD OF 'hornlaw.Asks'. -/
def asksCard : Claim7 := { stood := { row := asksRow, standIns := [], harness := (true, "500c0948ce3b4b4f607c4d0f1a8567f7f3be9e8bfbb3e5a26dbe174a9b74fe48"), looks := true }, kinds := [], alts := [], laidByText := true, laidKinds := [.data, .data, .data, .data, .handle, .sentinel, .sentinel, .data, .data, .data, .pinned], laidTests := true, laidLooks := .later }
def AsksCardSaid : Prop := Claim7.holds Tryz.pinned (.plain (OpenSpec.ofChange asksSpec)) asksCard

/-- THE SECOND FORM's CARD OF 'hornlaw.Asks'. -/
def asksUptoCard : Claim7 := { stood := { row := asksUptoRow, standIns := [], harness := (true, "500c0948ce3b4b4f607c4d0f1a8567f7f3be9e8bfbb3e5a26dbe174a9b74fe48"), looks := true }, kinds := [], alts := [], laidByText := true, laidKinds := [.data, .data, .data, .data, .handle, .sentinel, .sentinel, .data, .data, .data, .pinned], laidTests := true, laidLooks := .later }
def AsksUptoCardSaid : Prop := Claim7.holds Tryz.pinned (.plain (OpenSpec.upto asksSpec)) asksUptoCard
end Rows
end Go.Proofs.YtilpjhceemaplaaGreatDoor

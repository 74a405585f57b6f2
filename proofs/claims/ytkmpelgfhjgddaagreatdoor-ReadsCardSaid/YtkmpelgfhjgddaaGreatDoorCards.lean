/-
  DERIVED. GIVEN WITH THE SEED: THE CARDS: each row of YtkmpelgfhjgddaaGreatDoorRows.lean that lists a variable, with what it lists TIED to the program's text (the seventh form; the later family's looks); each row that meets fmt, with fmt's text TOLD by the authors' own Lean function (tested against real Go, not proved from fmt's source: count such statements apart). THE CARD IS WHAT COUNTS. Prove the row's statement (the work); the ties are given (YtkmpelgfhjgddaaGreatDoorTie.lean); close each card by the builder's one call (the guide's Derived/Test/ToyasCard.lean, 'card_holds'). Laid BY PROGRAM, IN A SANDBOX (cutbox-door.mjs). By AI agents, Wed Nov 11 2026. No macro, syntax, notation, axiom, sorry.
-/
import Derived.Test.YtkmpelgfhjgddaaGreatDoorRows
import GoSem.ClaimSeven
namespace Go.Proofs.YtkmpelgfhjgddaaGreatDoor
namespace Rows

/-- THE TIED CARD OF 'hornlaw.Loads'. -/
def loadsCard : Claim7 := { stood := { row := loadsRow, standIns := [], harness := (true, "d62f0eed13dfbf11fc30bc7b25877884bf9adf96b28145ec7fce9fc72a38e71b"), looks := true }, kinds := [], alts := [], laidByText := true, laidKinds := [.data, .data, .data, .data, .handle, .sentinel, .sentinel, .data, .data, .data, .pinned], laidTests := true, laidLooks := .later }
def LoadsCardSaid : Prop := Claim7.holds Tryz.pinned (.plain (OpenSpec.ofChange loadsSpec)) loadsCard

/-- THE TIED CARD OF 'hornlaw.Reads'. -/
def readsCard : Claim7 := { stood := { row := readsRow, standIns := [], harness := (true, "d62f0eed13dfbf11fc30bc7b25877884bf9adf96b28145ec7fce9fc72a38e71b"), looks := true }, kinds := [], alts := [], laidByText := true, laidKinds := [.data, .data, .data, .data, .handle, .sentinel, .sentinel, .data, .data, .pinned], laidTests := true, laidLooks := .later }
def ReadsCardSaid : Prop := Claim7.holds Tryz.pinned (.plain (OpenSpec.ofChange readsSpec)) readsCard

/-- THE SECOND FORM's CARD OF 'hornlaw.Loads'. -/
def loadsUptoCard : Claim7 := { stood := { row := loadsUptoRow, standIns := [], harness := (true, "d62f0eed13dfbf11fc30bc7b25877884bf9adf96b28145ec7fce9fc72a38e71b"), looks := true }, kinds := [], alts := [], laidByText := true, laidKinds := [.data, .data, .data, .data, .handle, .sentinel, .sentinel, .data, .data, .data, .pinned], laidTests := true, laidLooks := .later }
def LoadsUptoCardSaid : Prop := Claim7.holds Tryz.pinned (.plain (OpenSpec.upto loadsSpec)) loadsUptoCard

/-- THE SECOND FORM's CARD OF 'hornlaw.Reads'. -/
def readsUptoCard : Claim7 := { stood := { row := readsUptoRow, standIns := [], harness := (true, "d62f0eed13dfbf11fc30bc7b25877884bf9adf96b28145ec7fce9fc72a38e71b"), looks := true }, kinds := [], alts := [], laidByText := true, laidKinds := [.data, .data, .data, .data, .handle, .sentinel, .sentinel, .data, .data, .pinned], laidTests := true, laidLooks := .later }
def ReadsUptoCardSaid : Prop := Claim7.holds Tryz.pinned (.plain (OpenSpec.upto readsSpec)) readsUptoCard
end Rows
end Go.Proofs.YtkmpelgfhjgddaaGreatDoor

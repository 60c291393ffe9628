/-
  DERIVED. GIVEN WITH THE SEED: THE CARDS: each row of YtmikcgefgodipaaGreatDoorRows.lean that lists a variable, with what it lists TIED to the program's text (the seventh form; the later family's looks); each row that meets fmt, with fmt's text TOLD by the authors' own Lean function (tested against real Go, not proved from fmt's source: count such statements apart). THE CARD IS WHAT COUNTS. Prove the row's statement (the work); the ties are given (YtmikcgefgodipaaGreatDoorTie.lean); close each card by the builder's one call (the guide's Derived/Test/ToyasCard.lean, 'card_holds'). Laid BY PROGRAM, IN A SANDBOX (cutbox-door.mjs). By AI agents, Wed Nov 11 2026. No macro, syntax, notation, axiom, sorry.
-/
import Derived.Test.YtmikcgefgodipaaGreatDoorRows
import GoSem.ClaimSeven
namespace Go.Proofs.YtmikcgefgodipaaGreatDoor
namespace Rows

/-- THE TIED CARD OF 'jalousielaw32.DeskLong'. -/
def deskLongCard : Claim7 := { stood := { row := deskLongRow, standIns := [], harness := (true, "80a35d8c72c3f528a867cd75f4020c5f6acd7cdeb81edde57d66f3ab2530a479"), looks := true }, kinds := [], alts := [], laidByText := true, laidKinds := [.data, .pinned, .data, .sentinel, .sentinel, .data, .data, .data, .data, .handle], laidTests := true, laidLooks := .later }
def DeskLongCardSaid : Prop := Claim7.holds Tryz.pinned (.plain (OpenSpec.ofChange deskLongSpec)) deskLongCard

/-- THE SECOND FORM's CARD OF 'jalousielaw32.DeskLong'. -/
def deskLongUptoCard : Claim7 := { stood := { row := deskLongUptoRow, standIns := [], harness := (true, "80a35d8c72c3f528a867cd75f4020c5f6acd7cdeb81edde57d66f3ab2530a479"), looks := true }, kinds := [], alts := [], laidByText := true, laidKinds := [.data, .pinned, .data, .sentinel, .sentinel, .data, .data, .data, .data, .handle], laidTests := true, laidLooks := .later }
def DeskLongUptoCardSaid : Prop := Claim7.holds Tryz.pinned (.plain (OpenSpec.upto deskLongSpec)) deskLongUptoCard
end Rows
end Go.Proofs.YtmikcgefgodipaaGreatDoor

/-
  DERIVED. GIVEN WITH THE SEED: THE CARDS: each row of YtcflmdimeemkcaaGreatDoorRows.lean that lists a variable, with what it lists TIED to the program's text (the seventh form; the later family's looks); each row that meets fmt, with fmt's text TOLD by the authors' own Lean function (tested against real Go, not proved from fmt's source: count such statements apart). THE CARD IS WHAT COUNTS. Prove the row's statement (the work); the ties are given (YtcflmdimeemkcaaGreatDoorTie.lean); close each card by the builder's one call (the guide's Derived/Test/ToyasCard.lean, 'card_holds'). Laid BY PROGRAM, IN A SANDBOX (cutbox-door.mjs). By AI agents, Wed Nov 11 2026. No macro, syntax, notation, axiom, sorry.
-/
import Derived.Test.YtcflmdimeemkcaaGreatDoorRows
import GoSem.ClaimSeven
namespace Go.Proofs.YtcflmdimeemkcaaGreatDoor
namespace Rows

/-- THE TIED CARD OF 'jalousielaw32.DeskKnown'. -/
def deskKnownCard : Claim7 := { stood := { row := deskKnownRow, standIns := [], harness := (true, "43859799f6c532f270b4e4d741b7fe706e4eb7f3022bc3a0134164a27961b0b4"), looks := true }, kinds := [], alts := [], laidByText := true, laidKinds := [.data, .pinned, .data, .sentinel, .sentinel, .data, .data, .data, .data, .handle], laidTests := true, laidLooks := .later }
def DeskKnownCardSaid : Prop := Claim7.holds Tryz.pinned (.plain (OpenSpec.ofChange deskKnownSpec)) deskKnownCard

/-- THE SECOND FORM's CARD OF 'jalousielaw32.DeskKnown'. -/
def deskKnownUptoCard : Claim7 := { stood := { row := deskKnownUptoRow, standIns := [], harness := (true, "43859799f6c532f270b4e4d741b7fe706e4eb7f3022bc3a0134164a27961b0b4"), looks := true }, kinds := [], alts := [], laidByText := true, laidKinds := [.data, .pinned, .data, .sentinel, .sentinel, .data, .data, .data, .data, .handle], laidTests := true, laidLooks := .later }
def DeskKnownUptoCardSaid : Prop := Claim7.holds Tryz.pinned (.plain (OpenSpec.upto deskKnownSpec)) deskKnownUptoCard
end Rows
end Go.Proofs.YtcflmdimeemkcaaGreatDoor

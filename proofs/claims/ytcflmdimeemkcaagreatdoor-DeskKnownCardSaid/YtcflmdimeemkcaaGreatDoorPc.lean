/-
  DeskKnown's tied card: the chapter's examples, and others, answer as they stand there. Condition: the ten listed package variables read as the program's text lays them (the card's own cell 'laid').
-/
import Derived.Test.YtcflmdimeemkcaaGreatDoorPb
import Derived.Test.YtcflmdimeemkcaaGreatDoorTe
import Derived.Test.YtcflmdimeemkcaaGreatDoorCards
set_option autoImplicit true
set_option relaxedAutoImplicit true
set_option linter.unusedVariables false
set_option linter.unusedSimpArgs false
set_option linter.unusedSectionVars false
section
namespace Go.Proofs.YtcflmdimeemkcaaGreatDoor
open Go
set_option maxRecDepth 100000
/-- Of a script that is too long there is no answer: the tied card of DeskKnown. -/
theorem deskKnown_card : Rows.DeskKnownCardSaid :=
  Claim7.holds_tied_plain_at .later [] [.data, .pinned, .data, .sentinel, .sentinel, .data, .data, .data, .data, .handle] true (true, "43859799f6c532f270b4e4d741b7fe706e4eb7f3022bc3a0134164a27961b0b4") true
    deskKnown_holds (fun _ h => by cases h) card_wf (fun _ h => by cases h) deskKnown_row_tie rfl ⟨rfl, rfl⟩ card_main rfl
    (fun f fn hf hfn => by
      obtain rfl : f = 3 := Option.some.inj (card_fn.symm.trans hf) |>.symm
      obtain rfl : fn = Tryz.f3 := (Option.some.inj (Tryz.func3.symm.trans hfn)).symm
      exact ⟨card_looks, fun j t ht => by
        rw [Tryz.params3] at ht
        simp at ht⟩)
    card_goes
#print axioms deskKnown_card
end Go.Proofs.YtcflmdimeemkcaaGreatDoor
end

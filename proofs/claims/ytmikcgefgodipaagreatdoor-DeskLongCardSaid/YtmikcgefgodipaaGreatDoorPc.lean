/-
  DeskLong's tied card: of any line, desk.Run of the script that is too long answers nothing and the law is true. Condition: the ten listed package variables read as the program's text lays them (the card's own cell 'laid').
-/
import Derived.Test.YtmikcgefgodipaaGreatDoorPb
import Derived.Test.YtmikcgefgodipaaGreatDoorTe
import Derived.Test.YtmikcgefgodipaaGreatDoorCards
set_option autoImplicit true
set_option relaxedAutoImplicit true
set_option linter.unusedVariables false
set_option linter.unusedSimpArgs false
set_option linter.unusedSectionVars false
section
namespace Go.Proofs.YtmikcgefgodipaaGreatDoor
open Go
set_option maxRecDepth 100000
/-- Of a script that is too long there is no answer: the tied card of DeskLong. -/
theorem deskLong_card : Rows.DeskLongCardSaid :=
  Claim7.holds_tied_plain_at .later [] [.data, .pinned, .data, .sentinel, .sentinel, .data, .data, .data, .data, .handle] true (true, "80a35d8c72c3f528a867cd75f4020c5f6acd7cdeb81edde57d66f3ab2530a479") true
    deskLong_holds (fun _ h => by cases h) card_wf (fun _ h => by cases h) deskLong_row_tie rfl ⟨rfl, rfl⟩ card_main rfl
    (fun f fn hf hfn => by
      obtain rfl : f = 3 := Option.some.inj (card_fn.symm.trans hf) |>.symm
      obtain rfl : fn = Tryz.f3 := (Option.some.inj (Tryz.func3.symm.trans hfn)).symm
      exact ⟨card_looks, fun j t ht => by
        rw [Tryz.params3] at ht
        have hm : t ∈ [9] := by simpa using Array.mem_of_getElem? ht
        simpa using List.all_eq_true.1 card_stand t hm⟩)
    card_goes
#print axioms deskLong_card
end Go.Proofs.YtmikcgefgodipaaGreatDoor
end

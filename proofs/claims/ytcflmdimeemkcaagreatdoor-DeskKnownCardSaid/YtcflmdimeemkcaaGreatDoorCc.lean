/-
  A part of the proof of the card of DeskKnown (the whole is said in the last text). No condition of its own beyond those that its theorems state.
-/
import Derived.Test.YtcflmdimeemkcaaGreatDoorLa
import Derived.Test.YtcflmdimeemkcaaGreatDoorCa
set_option autoImplicit true
set_option relaxedAutoImplicit true
set_option linter.unusedVariables false
set_option linter.unusedSimpArgs false
set_option linter.unusedSectionVars false
section
namespace Go.Proofs.YtcflmdimeemkcaaGreatDoor
open Go.Ab
set_option maxRecDepth 100000
theorem ty0 : ((List.range 100).all fun i => rowFine Tryz.pinned.checked.prog (0 + i)) = true := by kernel_rfl
theorem ty100 : ((List.range 100).all fun i => rowFine Tryz.pinned.checked.prog (100 + i)) = true := by kernel_rfl
theorem ty200 : ((List.range 100).all fun i => rowFine Tryz.pinned.checked.prog (200 + i)) = true := by kernel_rfl
theorem ty300 : ((List.range 100).all fun i => rowFine Tryz.pinned.checked.prog (300 + i)) = true := by kernel_rfl
end Go.Proofs.YtcflmdimeemkcaaGreatDoor
end

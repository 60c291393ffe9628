/-
  A part of the proof of the card of DeskKnown (the whole is said in the last text). No condition of its own beyond those that its theorems state.
-/
import Derived.Test.YtcflmdimeemkcaaGreatDoorLa
import Derived.Test.YtcflmdimeemkcaaGreatDoorCa
set_option autoImplicit true
set_option relaxedAutoImplicit true
set_option linter.unusedVariables false
set_option linter.unusedSimpArgs false
set_option linter.unusedSectionVars false
section
namespace Go.Proofs.YtcflmdimeemkcaaGreatDoor
open Go.Ab
set_option maxRecDepth 100000
theorem ty400 : ((List.range 100).all fun i => rowFine Tryz.pinned.checked.prog (400 + i)) = true := by kernel_rfl
theorem ty500 : ((List.range 100).all fun i => rowFine Tryz.pinned.checked.prog (500 + i)) = true := by kernel_rfl
theorem ty600 : ((List.range 100).all fun i => rowFine Tryz.pinned.checked.prog (600 + i)) = true := by kernel_rfl
theorem ty700 : ((List.range 83).all fun i => rowFine Tryz.pinned.checked.prog (700 + i)) = true := by kernel_rfl
end Go.Proofs.YtcflmdimeemkcaaGreatDoor
end

/-
  A part of the proof of the card of DeskKnown (the whole is said in the last text). No condition of its own beyond those that its theorems state.
-/
import Derived.Test.YtcflmdimeemkcaaGreatDoorLa
set_option autoImplicit true
set_option relaxedAutoImplicit true
set_option linter.unusedVariables false
set_option linter.unusedSimpArgs false
set_option linter.unusedSectionVars false
section
namespace Go.Proofs.YtcflmdimeemkcaaGreatDoor
open Go.Ab
set_option maxRecDepth 100000
theorem wa2 : ∀ os args, (DataW.laidRun Tryz.prog (laidMem os args) 8 (part2.map (·.1))).map (·.1) = some part2 := fun _ _ => by kernel_rfl
theorem wb2 : ∀ os args, (DataW.laidRun Tryz.prog (laidMem os args) 8 (part2.map (·.1))).map (fun x => nodupB (x.2.map MemPlace.codeOf)) = some true := fun _ _ => by kernel_rfl
theorem wc2 : ∀ os args, (DataW.laidRun Tryz.prog (laidMem os args) 8 (part2.map (·.1))).map (fun x => laidRowsB Tryz.prog (laidMem os args) x.2) = some true := fun _ _ => by kernel_rfl
theorem wd2 : ∀ os args, (DataW.laidRun Tryz.prog (laidMem os args) 8 (part2.map (·.1))).map (fun x => x.2.all fun p => ([1]).contains p.block) = some true := fun _ _ => by kernel_rfl
end Go.Proofs.YtcflmdimeemkcaaGreatDoor
end

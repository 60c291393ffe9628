/-
  A part of the proof of the card of DeskKnown (the whole is said in the last text). No condition of its own beyond those that its theorems state.
-/
import Derived.Test.YtcflmdimeemkcaaGreatDoorLa
set_option autoImplicit true
set_option relaxedAutoImplicit true
set_option linter.unusedVariables false
set_option linter.unusedSimpArgs false
set_option linter.unusedSectionVars false
section
namespace Go.Proofs.YtcflmdimeemkcaaGreatDoor
open Go.Ab
set_option maxRecDepth 100000
theorem wl3 : ∀ os args, (Rows.deskKnownRow.laid.filter fun x => x.2.handleName?.isSome && x.2.funcsIn?.isNone).all (handleAtB Tryz.prog (laidMem os args)) = true := fun _ _ => by kernel_rfl
theorem wl4 : ∀ os args, funcsRun Tryz.prog (laidMem os args) 8 ((funcsListed Rows.deskKnownRow.laid).map (·.1)) = some ((funcsListed Rows.deskKnownRow.laid).map (·.2.funcsOut)) := fun _ _ => by kernel_rfl
theorem ws1 : ∀ os args, ((laidWorld os).forCall (fun _ _ => 0) ⟨#[], args, []⟩).variablesRefB Tryz.prog = true := fun _ _ => by kernel_rfl
theorem ws2 : ∀ os args, (((laidWorld os).forCall (fun _ _ => 0) ⟨#[], args, []⟩).heap.toList.drop Tryz.prog.globals.size).take ((begin Tryz.prog (fun _ _ => 0) default).world.heap.size - Tryz.prog.globals.size) =
      (begin Tryz.prog (fun _ _ => 0) default).world.heap.toList.drop Tryz.prog.globals.size := fun _ _ => by kernel_rfl
end Go.Proofs.YtcflmdimeemkcaaGreatDoor
end

/-
  A part of the proof of the card of DeskKnown (the whole is said in the last text). No condition of its own beyond those that its theorems state.
-/
import Derived.Test.YtcflmdimeemkcaaGreatDoorPa
import Derived.SevenTiedAt
set_option autoImplicit true
set_option relaxedAutoImplicit true
set_option linter.unusedVariables false
set_option linter.unusedSimpArgs false
set_option linter.unusedSectionVars false
section
namespace Go.Proofs.YtcflmdimeemkcaaGreatDoor
open Go Go.Ab
set_option maxRecDepth 100000
theorem card_wf : Rows.deskKnownRow.wfByText (OpenSpec.ofChange Rows.deskKnownSpec) = true := by kernel_rfl
theorem card_main : Tryz.pinned.checked.prog.mainIs = some (true, "43859799f6c532f270b4e4d741b7fe706e4eb7f3022bc3a0134164a27961b0b4".toList) := by kernel_rfl
theorem card_looks : true = Tryz.pinned.checked.prog.looks [] := by kernel_rfl
theorem goes1 : ((Tryz.pinned.checked.prog.closure 3).any fun g => (Tryz.pinned.checked.prog.funcs[g]?).any Func.goes) = false := by
  rw [clos_eq]
  kernel_rfl
theorem goes2 : Tryz.pinned.checked.prog.funcs.any Func.goes = false := by kernel_rfl
theorem goes3 : Tryz.pinned.checked.prog.goes 3 = false := by
  unfold Program.goes
  rw [goes1, goes2, Bool.and_false, Bool.or_false]
theorem card_goes : false = Rows.deskKnownRow.goesBy Tryz.pinned.checked.prog := by
  have hst : Rows.deskKnownRow.start = .entering := rfl
  unfold OpenClaim.goesBy Program.goesAt Program.goesFrom
  rw [hst, fname, Option.any_some, goes3]
  rfl
theorem card_fn : Tryz.pinned.checked.prog.funcNamed "jalousie/jalousielaw32.DeskKnown" = some 3 := by kernel_rfl
end Go.Proofs.YtcflmdimeemkcaaGreatDoor
end

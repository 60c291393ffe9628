/-
  A part of the proof of the card of DeskKnown (the whole is said in the last text). No condition of its own beyond those that its theorems state.
-/
import Derived.Test.YtcflmdimeemkcaaGreatDoorCb
import Derived.Test.YtcflmdimeemkcaaGreatDoorCc
import Derived.Test.YtcflmdimeemkcaaGreatDoorCd
import Derived.Test.YtcflmdimeemkcaaGreatDoorCe
set_option autoImplicit true
set_option relaxedAutoImplicit true
set_option linter.unusedVariables false
set_option linter.unusedSimpArgs false
set_option linter.unusedSectionVars false
section
namespace Go.Proofs.YtcflmdimeemkcaaGreatDoor
open Go.Ab
set_option maxRecDepth 100000
theorem nty : Tryz.pinned.checked.prog.types.size = 783 := by kernel_rfl
theorem gty : Tryz.pinned.checked.prog.globals.all (fun g => decide (g.type < Tryz.pinned.checked.prog.types.size)) = true := by kernel_rfl
theorem fty : Tryz.pinned.checked.prog.funcs.all (fun f => f.params.all fun t => decide (t < Tryz.pinned.checked.prog.types.size)) = true := by kernel_rfl
theorem jf1 : laidOutB Tryz.pinned.checked.prog = true := by
  unfold laidOutB
  rw [gty, fty, Bool.and_true, Bool.and_true]
  refine range_all fun i hi => ?_
  rw [nty] at hi
  by_cases h0 : i < 100
  · exact piece ty0 i (by omega) h0
  by_cases h100 : i < 200
  · exact piece ty100 i (by omega) h100
  by_cases h200 : i < 300
  · exact piece ty200 i (by omega) h200
  by_cases h300 : i < 400
  · exact piece ty300 i (by omega) h300
  by_cases h400 : i < 500
  · exact piece ty400 i (by omega) h400
  by_cases h500 : i < 600
  · exact piece ty500 i (by omega) h500
  by_cases h600 : i < 700
  · exact piece ty600 i (by omega) h600
  by_cases h700 : i < 783
  · exact piece ty700 i (by omega) h700
  exact absurd hi (by omega)
theorem jf9 : (Rows.deskKnownRow.inPlace == Tryz.pinned.checked.prog.inPlace 3) = true := by
  unfold Program.inPlace
  rw [clos_eq]
  kernel_rfl
theorem unf : Tryz.pinned.checked.prog.unfollowed 3 = true := by
  unfold Program.unfollowed
  rw [clos_eq]
  kernel_rfl
theorem jf10 : (Rows.deskKnownRow.unfollowed == Tryz.pinned.checked.prog.unfollowed 3) = true := by rw [unf]; rfl
theorem jf11 : (Rows.deskKnownRow.recurses == Tryz.pinned.checked.prog.recurses 3) = true := by
  unfold Program.recurses
  rw [unf]
  rfl
theorem jf12 : (Rows.deskKnownRow.named == Tryz.pinned.checked.prog.varsNamed 3) = true := by
  unfold Program.varsNamed
  rw [clos_eq]
  kernel_rfl
end Go.Proofs.YtcflmdimeemkcaaGreatDoor
end

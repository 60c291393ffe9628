/-
  A part of the proof of the card of DeskKnown (the whole is said in the last text). No condition of its own beyond those that its theorems state.
-/
import Derived.Test.YtcflmdimeemkcaaGreatDoorRa
import Derived.KernelRfl
set_option autoImplicit true
set_option relaxedAutoImplicit true
set_option linter.unusedVariables false
set_option linter.unusedSimpArgs false
set_option linter.unusedSectionVars false
section
namespace Go.Ab
set_option maxRecDepth 1000000
theorem run4_ok (te : Nat → TypeId) (q : TypeId → TypeId → TypeId → TypeId → TypeId → TypeId → TypeId → Bool) : start0 te (fun h0 => fCall T0 300 (.fn 4) [.string ⟨⟨sc4⟩⟩] h0 (runK rs4 (fun h => endK q (.bool true) h))) = (q (te 1) (te 2) (te 4) (te 5) (te 8) (te 9) (te 10)) := by kernel_rfl
end Go.Ab
end

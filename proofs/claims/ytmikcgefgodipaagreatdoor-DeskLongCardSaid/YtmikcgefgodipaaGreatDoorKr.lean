/-
  The kernel runs the worked-out code of wakes: it ends true, and the tables are as they were. For every choice of the tables' type numbers.
-/
import Derived.Test.YtmikcgefgodipaaGreatDoorKb
import Derived.KernelRfl
set_option autoImplicit true
set_option relaxedAutoImplicit true
set_option linter.unusedVariables false
set_option linter.unusedSimpArgs false
set_option linter.unusedSectionVars false
section
namespace Go.Ab
set_option maxRecDepth 1000000
theorem run_ok (te : Nat → TypeId) (q : TypeId → TypeId → TypeId → TypeId → TypeId → TypeId → TypeId → Bool) : start0 te (fun h0 => fCall T0 300 (.fn 4) [] h0 (endK q)) = q (te 1) (te 2) (te 4) (te 5) (te 8) (te 9) (te 10) := by kernel_rfl
end Go.Ab
end

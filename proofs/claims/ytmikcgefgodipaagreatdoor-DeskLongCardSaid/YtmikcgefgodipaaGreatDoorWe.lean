/-
  A part of the proof of the card of DeskLong (the whole is said in the last text). No condition of its own beyond those that its theorems state.
-/
import Derived.Test.YtmikcgefgodipaaGreatDoorWa
import Derived.KernelRfl
set_option autoImplicit true
set_option relaxedAutoImplicit true
set_option linter.unusedVariables false
set_option linter.unusedSimpArgs false
set_option linter.unusedSectionVars false
section
namespace Go.Ab
theorem wf6 : FnIs 6 fi6 := ⟨Go.Proofs.Tryz.f6, Go.Proofs.Tryz.func6, by kernel_rfl, by kernel_rfl⟩
theorem wf10 : FnIs 10 fi10 := ⟨Go.Proofs.Tryz.f10, Go.Proofs.Tryz.func10, by kernel_rfl, by kernel_rfl⟩
theorem wf14 : FnIs 14 fi14 := ⟨Go.Proofs.Tryz.f14, Go.Proofs.Tryz.func14, by kernel_rfl, by kernel_rfl⟩
theorem wf19 : FnIs 19 fi19 := ⟨Go.Proofs.Tryz.f19, Go.Proofs.Tryz.func19, by kernel_rfl, by kernel_rfl⟩
theorem wf23 : FnIs 23 fi23 := ⟨Go.Proofs.Tryz.f23, Go.Proofs.Tryz.func23, by kernel_rfl, by kernel_rfl⟩
theorem wf28 : FnIs 28 fi28 := ⟨Go.Proofs.Tryz.f28, Go.Proofs.Tryz.func28, by kernel_rfl, by kernel_rfl⟩
theorem wf36 : FnIs 36 fi36 := ⟨Go.Proofs.Tryz.f36, Go.Proofs.Tryz.func36, by kernel_rfl, by kernel_rfl⟩
theorem wf40 : FnIs 40 fi40 := ⟨Go.Proofs.Tryz.f40, Go.Proofs.Tryz.func40, by kernel_rfl, by kernel_rfl⟩
theorem wf45 : FnIs 45 fi45 := ⟨Go.Proofs.Tryz.f45, Go.Proofs.Tryz.func45, by kernel_rfl, by kernel_rfl⟩
theorem wf49 : FnIs 49 fi49 := ⟨Go.Proofs.Tryz.f49, Go.Proofs.Tryz.func49, by kernel_rfl, by kernel_rfl⟩
theorem wf61 : FnIs 61 fi61 := ⟨Go.Proofs.Tryz.f61, Go.Proofs.Tryz.func61, by kernel_rfl, by kernel_rfl⟩
theorem wf68 : FnIs 68 fi68 := ⟨Go.Proofs.Tryz.f68, Go.Proofs.Tryz.func68, by kernel_rfl, by kernel_rfl⟩
theorem wf73 : FnIs 73 fi73 := ⟨Go.Proofs.Tryz.f73, Go.Proofs.Tryz.func73, by kernel_rfl, by kernel_rfl⟩
theorem wf77 : FnIs 77 fi77 := ⟨Go.Proofs.Tryz.f77, Go.Proofs.Tryz.func77, by kernel_rfl, by kernel_rfl⟩
theorem wf81 : FnIs 81 fi81 := ⟨Go.Proofs.Tryz.f81, Go.Proofs.Tryz.func81, by kernel_rfl, by kernel_rfl⟩
theorem wf89 : FnIs 89 fi89 := ⟨Go.Proofs.Tryz.f89, Go.Proofs.Tryz.func89, by kernel_rfl, by kernel_rfl⟩
theorem wf97 : FnIs 97 fi97 := ⟨Go.Proofs.Tryz.f97, Go.Proofs.Tryz.func97, by kernel_rfl, by kernel_rfl⟩
theorem wf105 : FnIs 105 fi105 := ⟨Go.Proofs.Tryz.f105, Go.Proofs.Tryz.func105, by kernel_rfl, by kernel_rfl⟩
theorem wf110 : FnIs 110 fi110 := ⟨Go.Proofs.Tryz.f110, Go.Proofs.Tryz.func110, by kernel_rfl, by kernel_rfl⟩
theorem wf126 : FnIs 126 fi126 := ⟨Go.Proofs.Tryz.f126, Go.Proofs.Tryz.func126, by kernel_rfl, by kernel_rfl⟩
theorem wf133 : FnIs 133 fi133 := ⟨Go.Proofs.Tryz.f133, Go.Proofs.Tryz.func133, by kernel_rfl, by kernel_rfl⟩
theorem wf144 : FnIs 144 fi144 := ⟨Go.Proofs.Tryz.f144, Go.Proofs.Tryz.func144, by kernel_rfl, by kernel_rfl⟩
theorem wf149 : FnIs 149 fi149 := ⟨Go.Proofs.Tryz.f149, Go.Proofs.Tryz.func149, by kernel_rfl, by kernel_rfl⟩
theorem wf156 : FnIs 156 fi156 := ⟨Go.Proofs.Tryz.f156, Go.Proofs.Tryz.func156, by kernel_rfl, by kernel_rfl⟩
theorem wf174 : FnIs 174 fi174 := ⟨Go.Proofs.Tryz.f174, Go.Proofs.Tryz.func174, by kernel_rfl, by kernel_rfl⟩
theorem wf202 : FnIs 202 fi202 := ⟨Go.Proofs.Tryz.f202, Go.Proofs.Tryz.func202, by kernel_rfl, by kernel_rfl⟩
theorem wf223 : FnIs 223 fi223 := ⟨Go.Proofs.Tryz.f223, Go.Proofs.Tryz.func223, by kernel_rfl, by kernel_rfl⟩
theorem wf247 : FnIs 247 fi247 := ⟨Go.Proofs.Tryz.f247, Go.Proofs.Tryz.func247, by kernel_rfl, by kernel_rfl⟩
theorem wf258 : FnIs 258 fi258 := ⟨Go.Proofs.Tryz.f258, Go.Proofs.Tryz.func258, by kernel_rfl, by kernel_rfl⟩
theorem wf264 : FnIs 264 fi264 := ⟨Go.Proofs.Tryz.f264, Go.Proofs.Tryz.func264, by kernel_rfl, by kernel_rfl⟩
theorem wf268 : FnIs 268 fi268 := ⟨Go.Proofs.Tryz.f268, Go.Proofs.Tryz.func268, by kernel_rfl, by kernel_rfl⟩
theorem wf276 : FnIs 276 fi276 := ⟨Go.Proofs.Tryz.f276, Go.Proofs.Tryz.func276, by kernel_rfl, by kernel_rfl⟩
theorem wf289 : FnIs 289 fi289 := ⟨Go.Proofs.Tryz.f289, Go.Proofs.Tryz.func289, by kernel_rfl, by kernel_rfl⟩
theorem wf297 : FnIs 297 fi297 := ⟨Go.Proofs.Tryz.f297, Go.Proofs.Tryz.func297, by kernel_rfl, by kernel_rfl⟩
theorem wf302 : FnIs 302 fi302 := ⟨Go.Proofs.Tryz.f302, Go.Proofs.Tryz.func302, by kernel_rfl, by kernel_rfl⟩
theorem wf313 : FnIs 313 fi313 := ⟨Go.Proofs.Tryz.f313, Go.Proofs.Tryz.func313, by kernel_rfl, by kernel_rfl⟩
theorem wf334 : FnIs 334 fi334 := ⟨Go.Proofs.Tryz.f334, Go.Proofs.Tryz.func334, by kernel_rfl, by kernel_rfl⟩
theorem wf357 : FnIs 357 fi357 := ⟨Go.Proofs.Tryz.f357, Go.Proofs.Tryz.func357, by kernel_rfl, by kernel_rfl⟩
theorem wf382 : FnIs 382 fi382 := ⟨Go.Proofs.Tryz.f382, Go.Proofs.Tryz.func382, by kernel_rfl, by kernel_rfl⟩
theorem wf405 : FnIs 405 fi405 := ⟨Go.Proofs.Tryz.f405, Go.Proofs.Tryz.func405, by kernel_rfl, by kernel_rfl⟩
theorem wf410 : FnIs 410 fi410 := ⟨Go.Proofs.Tryz.f410, Go.Proofs.Tryz.func410, by kernel_rfl, by kernel_rfl⟩
theorem wf418 : FnIs 418 fi418 := ⟨Go.Proofs.Tryz.f418, Go.Proofs.Tryz.func418, by kernel_rfl, by kernel_rfl⟩
theorem wf444 : FnIs 444 fi444 := ⟨Go.Proofs.Tryz.f444, Go.Proofs.Tryz.func444, by kernel_rfl, by kernel_rfl⟩
theorem wf448 : FnIs 448 fi448 := ⟨Go.Proofs.Tryz.f448, Go.Proofs.Tryz.func448, by kernel_rfl, by kernel_rfl⟩
theorem wf469 : FnIs 469 fi469 := ⟨Go.Proofs.Tryz.f469, Go.Proofs.Tryz.func469, by kernel_rfl, by kernel_rfl⟩
theorem wf476 : FnIs 476 fi476 := ⟨Go.Proofs.Tryz.f476, Go.Proofs.Tryz.func476, by kernel_rfl, by kernel_rfl⟩
theorem wf489 : FnIs 489 fi489 := ⟨Go.Proofs.Tryz.f489, Go.Proofs.Tryz.func489, by kernel_rfl, by kernel_rfl⟩
theorem wf499 : FnIs 499 fi499 := ⟨Go.Proofs.Tryz.f499, Go.Proofs.Tryz.func499, by kernel_rfl, by kernel_rfl⟩
theorem wf521 : FnIs 521 fi521 := ⟨Go.Proofs.Tryz.f521, Go.Proofs.Tryz.func521, by kernel_rfl, by kernel_rfl⟩
theorem wf525 : FnIs 525 fi525 := ⟨Go.Proofs.Tryz.f525, Go.Proofs.Tryz.func525, by kernel_rfl, by kernel_rfl⟩
theorem wf531 : FnIs 531 fi531 := ⟨Go.Proofs.Tryz.f531, Go.Proofs.Tryz.func531, by kernel_rfl, by kernel_rfl⟩
theorem wf535 : FnIs 535 fi535 := ⟨Go.Proofs.Tryz.f535, Go.Proofs.Tryz.func535, by kernel_rfl, by kernel_rfl⟩
theorem wf556 : FnIs 556 fi556 := ⟨Go.Proofs.Tryz.f556, Go.Proofs.Tryz.func556, by kernel_rfl, by kernel_rfl⟩
theorem wf565 : FnIs 565 fi565 := ⟨Go.Proofs.Tryz.f565, Go.Proofs.Tryz.func565, by kernel_rfl, by kernel_rfl⟩
theorem wf570 : FnIs 570 fi570 := ⟨Go.Proofs.Tryz.f570, Go.Proofs.Tryz.func570, by kernel_rfl, by kernel_rfl⟩
theorem wf582 : FnIs 582 fi582 := ⟨Go.Proofs.Tryz.f582, Go.Proofs.Tryz.func582, by kernel_rfl, by kernel_rfl⟩
theorem wf592 : FnIs 592 fi592 := ⟨Go.Proofs.Tryz.f592, Go.Proofs.Tryz.func592, by kernel_rfl, by kernel_rfl⟩
theorem wf598 : FnIs 598 fi598 := ⟨Go.Proofs.Tryz.f598, Go.Proofs.Tryz.func598, by kernel_rfl, by kernel_rfl⟩
theorem wf611 : FnIs 611 fi611 := ⟨Go.Proofs.Tryz.f611, Go.Proofs.Tryz.func611, by kernel_rfl, by kernel_rfl⟩
theorem wf618 : FnIs 618 fi618 := ⟨Go.Proofs.Tryz.f618, Go.Proofs.Tryz.func618, by kernel_rfl, by kernel_rfl⟩
theorem wf623 : FnIs 623 fi623 := ⟨Go.Proofs.Tryz.f623, Go.Proofs.Tryz.func623, by kernel_rfl, by kernel_rfl⟩
end Go.Ab
end

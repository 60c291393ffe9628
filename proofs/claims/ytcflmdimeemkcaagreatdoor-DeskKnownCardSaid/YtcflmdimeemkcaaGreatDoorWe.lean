/-
  A part of the proof of the card of DeskKnown (the whole is said in the last text). No condition of its own beyond those that its theorems state.
-/
import Derived.Test.YtcflmdimeemkcaaGreatDoorWa
import Derived.KernelRfl
set_option autoImplicit true
set_option relaxedAutoImplicit true
set_option linter.unusedVariables false
set_option linter.unusedSimpArgs false
set_option linter.unusedSectionVars false
section
namespace Go.Ab
open Go.Proofs
theorem wf6 : FnIs 6 fi6 := ⟨Tryz.f6, Tryz.func6, by kernel_rfl, by kernel_rfl⟩
theorem wf10 : FnIs 10 fi10 := ⟨Tryz.f10, Tryz.func10, by kernel_rfl, by kernel_rfl⟩
theorem wf14 : FnIs 14 fi14 := ⟨Tryz.f14, Tryz.func14, by kernel_rfl, by kernel_rfl⟩
theorem wf19 : FnIs 19 fi19 := ⟨Tryz.f19, Tryz.func19, by kernel_rfl, by kernel_rfl⟩
theorem wf23 : FnIs 23 fi23 := ⟨Tryz.f23, Tryz.func23, by kernel_rfl, by kernel_rfl⟩
theorem wf28 : FnIs 28 fi28 := ⟨Tryz.f28, Tryz.func28, by kernel_rfl, by kernel_rfl⟩
theorem wf36 : FnIs 36 fi36 := ⟨Tryz.f36, Tryz.func36, by kernel_rfl, by kernel_rfl⟩
theorem wf40 : FnIs 40 fi40 := ⟨Tryz.f40, Tryz.func40, by kernel_rfl, by kernel_rfl⟩
theorem wf45 : FnIs 45 fi45 := ⟨Tryz.f45, Tryz.func45, by kernel_rfl, by kernel_rfl⟩
theorem wf49 : FnIs 49 fi49 := ⟨Tryz.f49, Tryz.func49, by kernel_rfl, by kernel_rfl⟩
theorem wf53 : FnIs 53 fi53 := ⟨Tryz.f53, Tryz.func53, by kernel_rfl, by kernel_rfl⟩
theorem wf60 : FnIs 60 fi60 := ⟨Tryz.f60, Tryz.func60, by kernel_rfl, by kernel_rfl⟩
theorem wf67 : FnIs 67 fi67 := ⟨Tryz.f67, Tryz.func67, by kernel_rfl, by kernel_rfl⟩
theorem wf71 : FnIs 71 fi71 := ⟨Tryz.f71, Tryz.func71, by kernel_rfl, by kernel_rfl⟩
theorem wf75 : FnIs 75 fi75 := ⟨Tryz.f75, Tryz.func75, by kernel_rfl, by kernel_rfl⟩
theorem wf79 : FnIs 79 fi79 := ⟨Tryz.f79, Tryz.func79, by kernel_rfl, by kernel_rfl⟩
theorem wf83 : FnIs 83 fi83 := ⟨Tryz.f83, Tryz.func83, by kernel_rfl, by kernel_rfl⟩
theorem wf88 : FnIs 88 fi88 := ⟨Tryz.f88, Tryz.func88, by kernel_rfl, by kernel_rfl⟩
theorem wf92 : FnIs 92 fi92 := ⟨Tryz.f92, Tryz.func92, by kernel_rfl, by kernel_rfl⟩
theorem wf96 : FnIs 96 fi96 := ⟨Tryz.f96, Tryz.func96, by kernel_rfl, by kernel_rfl⟩
theorem wf104 : FnIs 104 fi104 := ⟨Tryz.f104, Tryz.func104, by kernel_rfl, by kernel_rfl⟩
theorem wf108 : FnIs 108 fi108 := ⟨Tryz.f108, Tryz.func108, by kernel_rfl, by kernel_rfl⟩
theorem wf112 : FnIs 112 fi112 := ⟨Tryz.f112, Tryz.func112, by kernel_rfl, by kernel_rfl⟩
theorem wf117 : FnIs 117 fi117 := ⟨Tryz.f117, Tryz.func117, by kernel_rfl, by kernel_rfl⟩
theorem wf122 : FnIs 122 fi122 := ⟨Tryz.f122, Tryz.func122, by kernel_rfl, by kernel_rfl⟩
theorem wf129 : FnIs 129 fi129 := ⟨Tryz.f129, Tryz.func129, by kernel_rfl, by kernel_rfl⟩
theorem wf133 : FnIs 133 fi133 := ⟨Tryz.f133, Tryz.func133, by kernel_rfl, by kernel_rfl⟩
theorem wf140 : FnIs 140 fi140 := ⟨Tryz.f140, Tryz.func140, by kernel_rfl, by kernel_rfl⟩
theorem wf144 : FnIs 144 fi144 := ⟨Tryz.f144, Tryz.func144, by kernel_rfl, by kernel_rfl⟩
theorem wf149 : FnIs 149 fi149 := ⟨Tryz.f149, Tryz.func149, by kernel_rfl, by kernel_rfl⟩
theorem wf156 : FnIs 156 fi156 := ⟨Tryz.f156, Tryz.func156, by kernel_rfl, by kernel_rfl⟩
theorem wf162 : FnIs 162 fi162 := ⟨Tryz.f162, Tryz.func162, by kernel_rfl, by kernel_rfl⟩
theorem wf191 : FnIs 191 fi191 := ⟨Tryz.f191, Tryz.func191, by kernel_rfl, by kernel_rfl⟩
theorem wf208 : FnIs 208 fi208 := ⟨Tryz.f208, Tryz.func208, by kernel_rfl, by kernel_rfl⟩
theorem wf216 : FnIs 216 fi216 := ⟨Tryz.f216, Tryz.func216, by kernel_rfl, by kernel_rfl⟩
theorem wf230 : FnIs 230 fi230 := ⟨Tryz.f230, Tryz.func230, by kernel_rfl, by kernel_rfl⟩
theorem wf235 : FnIs 235 fi235 := ⟨Tryz.f235, Tryz.func235, by kernel_rfl, by kernel_rfl⟩
theorem wf241 : FnIs 241 fi241 := ⟨Tryz.f241, Tryz.func241, by kernel_rfl, by kernel_rfl⟩
theorem wf248 : FnIs 248 fi248 := ⟨Tryz.f248, Tryz.func248, by kernel_rfl, by kernel_rfl⟩
theorem wf257 : FnIs 257 fi257 := ⟨Tryz.f257, Tryz.func257, by kernel_rfl, by kernel_rfl⟩
theorem wf261 : FnIs 261 fi261 := ⟨Tryz.f261, Tryz.func261, by kernel_rfl, by kernel_rfl⟩
theorem wf266 : FnIs 266 fi266 := ⟨Tryz.f266, Tryz.func266, by kernel_rfl, by kernel_rfl⟩
theorem wf271 : FnIs 271 fi271 := ⟨Tryz.f271, Tryz.func271, by kernel_rfl, by kernel_rfl⟩
theorem wf277 : FnIs 277 fi277 := ⟨Tryz.f277, Tryz.func277, by kernel_rfl, by kernel_rfl⟩
theorem wf285 : FnIs 285 fi285 := ⟨Tryz.f285, Tryz.func285, by kernel_rfl, by kernel_rfl⟩
theorem wf289 : FnIs 289 fi289 := ⟨Tryz.f289, Tryz.func289, by kernel_rfl, by kernel_rfl⟩
theorem wf297 : FnIs 297 fi297 := ⟨Tryz.f297, Tryz.func297, by kernel_rfl, by kernel_rfl⟩
theorem wf302 : FnIs 302 fi302 := ⟨Tryz.f302, Tryz.func302, by kernel_rfl, by kernel_rfl⟩
theorem wf313 : FnIs 313 fi313 := ⟨Tryz.f313, Tryz.func313, by kernel_rfl, by kernel_rfl⟩
theorem wf334 : FnIs 334 fi334 := ⟨Tryz.f334, Tryz.func334, by kernel_rfl, by kernel_rfl⟩
theorem wf349 : FnIs 349 fi349 := ⟨Tryz.f349, Tryz.func349, by kernel_rfl, by kernel_rfl⟩
theorem wf354 : FnIs 354 fi354 := ⟨Tryz.f354, Tryz.func354, by kernel_rfl, by kernel_rfl⟩
theorem wf365 : FnIs 365 fi365 := ⟨Tryz.f365, Tryz.func365, by kernel_rfl, by kernel_rfl⟩
theorem wf378 : FnIs 378 fi378 := ⟨Tryz.f378, Tryz.func378, by kernel_rfl, by kernel_rfl⟩
theorem wf385 : FnIs 385 fi385 := ⟨Tryz.f385, Tryz.func385, by kernel_rfl, by kernel_rfl⟩
theorem wf400 : FnIs 400 fi400 := ⟨Tryz.f400, Tryz.func400, by kernel_rfl, by kernel_rfl⟩
theorem wf405 : FnIs 405 fi405 := ⟨Tryz.f405, Tryz.func405, by kernel_rfl, by kernel_rfl⟩
theorem wf409 : FnIs 409 fi409 := ⟨Tryz.f409, Tryz.func409, by kernel_rfl, by kernel_rfl⟩
theorem wf417 : FnIs 417 fi417 := ⟨Tryz.f417, Tryz.func417, by kernel_rfl, by kernel_rfl⟩
theorem wf423 : FnIs 423 fi423 := ⟨Tryz.f423, Tryz.func423, by kernel_rfl, by kernel_rfl⟩
theorem wf445 : FnIs 445 fi445 := ⟨Tryz.f445, Tryz.func445, by kernel_rfl, by kernel_rfl⟩
theorem wf449 : FnIs 449 fi449 := ⟨Tryz.f449, Tryz.func449, by kernel_rfl, by kernel_rfl⟩
theorem wf470 : FnIs 470 fi470 := ⟨Tryz.f470, Tryz.func470, by kernel_rfl, by kernel_rfl⟩
theorem wf476 : FnIs 476 fi476 := ⟨Tryz.f476, Tryz.func476, by kernel_rfl, by kernel_rfl⟩
theorem wf488 : FnIs 488 fi488 := ⟨Tryz.f488, Tryz.func488, by kernel_rfl, by kernel_rfl⟩
theorem wf498 : FnIs 498 fi498 := ⟨Tryz.f498, Tryz.func498, by kernel_rfl, by kernel_rfl⟩
theorem wf520 : FnIs 520 fi520 := ⟨Tryz.f520, Tryz.func520, by kernel_rfl, by kernel_rfl⟩
theorem wf524 : FnIs 524 fi524 := ⟨Tryz.f524, Tryz.func524, by kernel_rfl, by kernel_rfl⟩
theorem wf528 : FnIs 528 fi528 := ⟨Tryz.f528, Tryz.func528, by kernel_rfl, by kernel_rfl⟩
theorem wf532 : FnIs 532 fi532 := ⟨Tryz.f532, Tryz.func532, by kernel_rfl, by kernel_rfl⟩
theorem wf544 : FnIs 544 fi544 := ⟨Tryz.f544, Tryz.func544, by kernel_rfl, by kernel_rfl⟩
theorem wf548 : FnIs 548 fi548 := ⟨Tryz.f548, Tryz.func548, by kernel_rfl, by kernel_rfl⟩
theorem wf559 : FnIs 559 fi559 := ⟨Tryz.f559, Tryz.func559, by kernel_rfl, by kernel_rfl⟩
theorem wf569 : FnIs 569 fi569 := ⟨Tryz.f569, Tryz.func569, by kernel_rfl, by kernel_rfl⟩
theorem wf573 : FnIs 573 fi573 := ⟨Tryz.f573, Tryz.func573, by kernel_rfl, by kernel_rfl⟩
theorem wf585 : FnIs 585 fi585 := ⟨Tryz.f585, Tryz.func585, by kernel_rfl, by kernel_rfl⟩
theorem wf594 : FnIs 594 fi594 := ⟨Tryz.f594, Tryz.func594, by kernel_rfl, by kernel_rfl⟩
theorem wf601 : FnIs 601 fi601 := ⟨Tryz.f601, Tryz.func601, by kernel_rfl, by kernel_rfl⟩
theorem wf615 : FnIs 615 fi615 := ⟨Tryz.f615, Tryz.func615, by kernel_rfl, by kernel_rfl⟩
theorem wf619 : FnIs 619 fi619 := ⟨Tryz.f619, Tryz.func619, by kernel_rfl, by kernel_rfl⟩
theorem wf631 : FnIs 631 fi631 := ⟨Tryz.f631, Tryz.func631, by kernel_rfl, by kernel_rfl⟩
end Go.Ab
end

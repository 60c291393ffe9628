/-
  A part of the proof of the card of DeskLong (the whole is said in the last text). No condition of its own beyond those that its theorems state.
-/
import Derived.Test.YtmikcgefgodipaaGreatDoorWa
import Derived.KernelRfl
set_option autoImplicit true
set_option relaxedAutoImplicit true
set_option linter.unusedVariables false
set_option linter.unusedSimpArgs false
set_option linter.unusedSectionVars false
section
namespace Go.Ab
theorem wf5 : FnIs 5 fi5 := ⟨Go.Proofs.Tryz.f5, Go.Proofs.Tryz.func5, by kernel_rfl, by kernel_rfl⟩
theorem wf9 : FnIs 9 fi9 := ⟨Go.Proofs.Tryz.f9, Go.Proofs.Tryz.func9, by kernel_rfl, by kernel_rfl⟩
theorem wf13 : FnIs 13 fi13 := ⟨Go.Proofs.Tryz.f13, Go.Proofs.Tryz.func13, by kernel_rfl, by kernel_rfl⟩
theorem wf17 : FnIs 17 fi17 := ⟨Go.Proofs.Tryz.f17, Go.Proofs.Tryz.func17, by kernel_rfl, by kernel_rfl⟩
theorem wf22 : FnIs 22 fi22 := ⟨Go.Proofs.Tryz.f22, Go.Proofs.Tryz.func22, by kernel_rfl, by kernel_rfl⟩
theorem wf27 : FnIs 27 fi27 := ⟨Go.Proofs.Tryz.f27, Go.Proofs.Tryz.func27, by kernel_rfl, by kernel_rfl⟩
theorem wf35 : FnIs 35 fi35 := ⟨Go.Proofs.Tryz.f35, Go.Proofs.Tryz.func35, by kernel_rfl, by kernel_rfl⟩
theorem wf39 : FnIs 39 fi39 := ⟨Go.Proofs.Tryz.f39, Go.Proofs.Tryz.func39, by kernel_rfl, by kernel_rfl⟩
theorem wf44 : FnIs 44 fi44 := ⟨Go.Proofs.Tryz.f44, Go.Proofs.Tryz.func44, by kernel_rfl, by kernel_rfl⟩
theorem wf48 : FnIs 48 fi48 := ⟨Go.Proofs.Tryz.f48, Go.Proofs.Tryz.func48, by kernel_rfl, by kernel_rfl⟩
theorem wf60 : FnIs 60 fi60 := ⟨Go.Proofs.Tryz.f60, Go.Proofs.Tryz.func60, by kernel_rfl, by kernel_rfl⟩
theorem wf67 : FnIs 67 fi67 := ⟨Go.Proofs.Tryz.f67, Go.Proofs.Tryz.func67, by kernel_rfl, by kernel_rfl⟩
theorem wf72 : FnIs 72 fi72 := ⟨Go.Proofs.Tryz.f72, Go.Proofs.Tryz.func72, by kernel_rfl, by kernel_rfl⟩
theorem wf76 : FnIs 76 fi76 := ⟨Go.Proofs.Tryz.f76, Go.Proofs.Tryz.func76, by kernel_rfl, by kernel_rfl⟩
theorem wf80 : FnIs 80 fi80 := ⟨Go.Proofs.Tryz.f80, Go.Proofs.Tryz.func80, by kernel_rfl, by kernel_rfl⟩
theorem wf88 : FnIs 88 fi88 := ⟨Go.Proofs.Tryz.f88, Go.Proofs.Tryz.func88, by kernel_rfl, by kernel_rfl⟩
theorem wf95 : FnIs 95 fi95 := ⟨Go.Proofs.Tryz.f95, Go.Proofs.Tryz.func95, by kernel_rfl, by kernel_rfl⟩
theorem wf104 : FnIs 104 fi104 := ⟨Go.Proofs.Tryz.f104, Go.Proofs.Tryz.func104, by kernel_rfl, by kernel_rfl⟩
theorem wf109 : FnIs 109 fi109 := ⟨Go.Proofs.Tryz.f109, Go.Proofs.Tryz.func109, by kernel_rfl, by kernel_rfl⟩
theorem wf115 : FnIs 115 fi115 := ⟨Go.Proofs.Tryz.f115, Go.Proofs.Tryz.func115, by kernel_rfl, by kernel_rfl⟩
theorem wf129 : FnIs 129 fi129 := ⟨Go.Proofs.Tryz.f129, Go.Proofs.Tryz.func129, by kernel_rfl, by kernel_rfl⟩
theorem wf143 : FnIs 143 fi143 := ⟨Go.Proofs.Tryz.f143, Go.Proofs.Tryz.func143, by kernel_rfl, by kernel_rfl⟩
theorem wf148 : FnIs 148 fi148 := ⟨Go.Proofs.Tryz.f148, Go.Proofs.Tryz.func148, by kernel_rfl, by kernel_rfl⟩
theorem wf153 : FnIs 153 fi153 := ⟨Go.Proofs.Tryz.f153, Go.Proofs.Tryz.func153, by kernel_rfl, by kernel_rfl⟩
theorem wf169 : FnIs 169 fi169 := ⟨Go.Proofs.Tryz.f169, Go.Proofs.Tryz.func169, by kernel_rfl, by kernel_rfl⟩
theorem wf193 : FnIs 193 fi193 := ⟨Go.Proofs.Tryz.f193, Go.Proofs.Tryz.func193, by kernel_rfl, by kernel_rfl⟩
theorem wf221 : FnIs 221 fi221 := ⟨Go.Proofs.Tryz.f221, Go.Proofs.Tryz.func221, by kernel_rfl, by kernel_rfl⟩
theorem wf235 : FnIs 235 fi235 := ⟨Go.Proofs.Tryz.f235, Go.Proofs.Tryz.func235, by kernel_rfl, by kernel_rfl⟩
theorem wf257 : FnIs 257 fi257 := ⟨Go.Proofs.Tryz.f257, Go.Proofs.Tryz.func257, by kernel_rfl, by kernel_rfl⟩
theorem wf263 : FnIs 263 fi263 := ⟨Go.Proofs.Tryz.f263, Go.Proofs.Tryz.func263, by kernel_rfl, by kernel_rfl⟩
theorem wf267 : FnIs 267 fi267 := ⟨Go.Proofs.Tryz.f267, Go.Proofs.Tryz.func267, by kernel_rfl, by kernel_rfl⟩
theorem wf272 : FnIs 272 fi272 := ⟨Go.Proofs.Tryz.f272, Go.Proofs.Tryz.func272, by kernel_rfl, by kernel_rfl⟩
theorem wf288 : FnIs 288 fi288 := ⟨Go.Proofs.Tryz.f288, Go.Proofs.Tryz.func288, by kernel_rfl, by kernel_rfl⟩
theorem wf292 : FnIs 292 fi292 := ⟨Go.Proofs.Tryz.f292, Go.Proofs.Tryz.func292, by kernel_rfl, by kernel_rfl⟩
theorem wf301 : FnIs 301 fi301 := ⟨Go.Proofs.Tryz.f301, Go.Proofs.Tryz.func301, by kernel_rfl, by kernel_rfl⟩
theorem wf306 : FnIs 306 fi306 := ⟨Go.Proofs.Tryz.f306, Go.Proofs.Tryz.func306, by kernel_rfl, by kernel_rfl⟩
theorem wf331 : FnIs 331 fi331 := ⟨Go.Proofs.Tryz.f331, Go.Proofs.Tryz.func331, by kernel_rfl, by kernel_rfl⟩
theorem wf356 : FnIs 356 fi356 := ⟨Go.Proofs.Tryz.f356, Go.Proofs.Tryz.func356, by kernel_rfl, by kernel_rfl⟩
theorem wf379 : FnIs 379 fi379 := ⟨Go.Proofs.Tryz.f379, Go.Proofs.Tryz.func379, by kernel_rfl, by kernel_rfl⟩
theorem wf401 : FnIs 401 fi401 := ⟨Go.Proofs.Tryz.f401, Go.Proofs.Tryz.func401, by kernel_rfl, by kernel_rfl⟩
theorem wf408 : FnIs 408 fi408 := ⟨Go.Proofs.Tryz.f408, Go.Proofs.Tryz.func408, by kernel_rfl, by kernel_rfl⟩
theorem wf417 : FnIs 417 fi417 := ⟨Go.Proofs.Tryz.f417, Go.Proofs.Tryz.func417, by kernel_rfl, by kernel_rfl⟩
theorem wf423 : FnIs 423 fi423 := ⟨Go.Proofs.Tryz.f423, Go.Proofs.Tryz.func423, by kernel_rfl, by kernel_rfl⟩
theorem wf447 : FnIs 447 fi447 := ⟨Go.Proofs.Tryz.f447, Go.Proofs.Tryz.func447, by kernel_rfl, by kernel_rfl⟩
theorem wf454 : FnIs 454 fi454 := ⟨Go.Proofs.Tryz.f454, Go.Proofs.Tryz.func454, by kernel_rfl, by kernel_rfl⟩
theorem wf475 : FnIs 475 fi475 := ⟨Go.Proofs.Tryz.f475, Go.Proofs.Tryz.func475, by kernel_rfl, by kernel_rfl⟩
theorem wf488 : FnIs 488 fi488 := ⟨Go.Proofs.Tryz.f488, Go.Proofs.Tryz.func488, by kernel_rfl, by kernel_rfl⟩
theorem wf498 : FnIs 498 fi498 := ⟨Go.Proofs.Tryz.f498, Go.Proofs.Tryz.func498, by kernel_rfl, by kernel_rfl⟩
theorem wf520 : FnIs 520 fi520 := ⟨Go.Proofs.Tryz.f520, Go.Proofs.Tryz.func520, by kernel_rfl, by kernel_rfl⟩
theorem wf524 : FnIs 524 fi524 := ⟨Go.Proofs.Tryz.f524, Go.Proofs.Tryz.func524, by kernel_rfl, by kernel_rfl⟩
theorem wf530 : FnIs 530 fi530 := ⟨Go.Proofs.Tryz.f530, Go.Proofs.Tryz.func530, by kernel_rfl, by kernel_rfl⟩
theorem wf534 : FnIs 534 fi534 := ⟨Go.Proofs.Tryz.f534, Go.Proofs.Tryz.func534, by kernel_rfl, by kernel_rfl⟩
theorem wf548 : FnIs 548 fi548 := ⟨Go.Proofs.Tryz.f548, Go.Proofs.Tryz.func548, by kernel_rfl, by kernel_rfl⟩
theorem wf559 : FnIs 559 fi559 := ⟨Go.Proofs.Tryz.f559, Go.Proofs.Tryz.func559, by kernel_rfl, by kernel_rfl⟩
theorem wf569 : FnIs 569 fi569 := ⟨Go.Proofs.Tryz.f569, Go.Proofs.Tryz.func569, by kernel_rfl, by kernel_rfl⟩
theorem wf573 : FnIs 573 fi573 := ⟨Go.Proofs.Tryz.f573, Go.Proofs.Tryz.func573, by kernel_rfl, by kernel_rfl⟩
theorem wf591 : FnIs 591 fi591 := ⟨Go.Proofs.Tryz.f591, Go.Proofs.Tryz.func591, by kernel_rfl, by kernel_rfl⟩
theorem wf596 : FnIs 596 fi596 := ⟨Go.Proofs.Tryz.f596, Go.Proofs.Tryz.func596, by kernel_rfl, by kernel_rfl⟩
theorem wf610 : FnIs 610 fi610 := ⟨Go.Proofs.Tryz.f610, Go.Proofs.Tryz.func610, by kernel_rfl, by kernel_rfl⟩
theorem wf617 : FnIs 617 fi617 := ⟨Go.Proofs.Tryz.f617, Go.Proofs.Tryz.func617, by kernel_rfl, by kernel_rfl⟩
theorem wf621 : FnIs 621 fi621 := ⟨Go.Proofs.Tryz.f621, Go.Proofs.Tryz.func621, by kernel_rfl, by kernel_rfl⟩
end Go.Ab
end

/-
  A part of the proof of the card of DeskKnown (the whole is said in the last text). No condition of its own beyond those that its theorems state.
-/
import Derived.Test.YtcflmdimeemkcaaGreatDoorWa
import Derived.KernelRfl
set_option autoImplicit true
set_option relaxedAutoImplicit true
set_option linter.unusedVariables false
set_option linter.unusedSimpArgs false
set_option linter.unusedSectionVars false
section
namespace Go.Ab
open Go.Proofs
theorem wf4 : FnIs 4 fi4 := ⟨Tryz.f4, Tryz.func4, by kernel_rfl, by kernel_rfl⟩
theorem wf8 : FnIs 8 fi8 := ⟨Tryz.f8, Tryz.func8, by kernel_rfl, by kernel_rfl⟩
theorem wf12 : FnIs 12 fi12 := ⟨Tryz.f12, Tryz.func12, by kernel_rfl, by kernel_rfl⟩
theorem wf16 : FnIs 16 fi16 := ⟨Tryz.f16, Tryz.func16, by kernel_rfl, by kernel_rfl⟩
theorem wf21 : FnIs 21 fi21 := ⟨Tryz.f21, Tryz.func21, by kernel_rfl, by kernel_rfl⟩
theorem wf26 : FnIs 26 fi26 := ⟨Tryz.f26, Tryz.func26, by kernel_rfl, by kernel_rfl⟩
theorem wf30 : FnIs 30 fi30 := ⟨Tryz.f30, Tryz.func30, by kernel_rfl, by kernel_rfl⟩
theorem wf38 : FnIs 38 fi38 := ⟨Tryz.f38, Tryz.func38, by kernel_rfl, by kernel_rfl⟩
theorem wf43 : FnIs 43 fi43 := ⟨Tryz.f43, Tryz.func43, by kernel_rfl, by kernel_rfl⟩
theorem wf47 : FnIs 47 fi47 := ⟨Tryz.f47, Tryz.func47, by kernel_rfl, by kernel_rfl⟩
theorem wf51 : FnIs 51 fi51 := ⟨Tryz.f51, Tryz.func51, by kernel_rfl, by kernel_rfl⟩
theorem wf55 : FnIs 55 fi55 := ⟨Tryz.f55, Tryz.func55, by kernel_rfl, by kernel_rfl⟩
theorem wf62 : FnIs 62 fi62 := ⟨Tryz.f62, Tryz.func62, by kernel_rfl, by kernel_rfl⟩
theorem wf69 : FnIs 69 fi69 := ⟨Tryz.f69, Tryz.func69, by kernel_rfl, by kernel_rfl⟩
theorem wf73 : FnIs 73 fi73 := ⟨Tryz.f73, Tryz.func73, by kernel_rfl, by kernel_rfl⟩
theorem wf77 : FnIs 77 fi77 := ⟨Tryz.f77, Tryz.func77, by kernel_rfl, by kernel_rfl⟩
theorem wf81 : FnIs 81 fi81 := ⟨Tryz.f81, Tryz.func81, by kernel_rfl, by kernel_rfl⟩
theorem wf86 : FnIs 86 fi86 := ⟨Tryz.f86, Tryz.func86, by kernel_rfl, by kernel_rfl⟩
theorem wf90 : FnIs 90 fi90 := ⟨Tryz.f90, Tryz.func90, by kernel_rfl, by kernel_rfl⟩
theorem wf94 : FnIs 94 fi94 := ⟨Tryz.f94, Tryz.func94, by kernel_rfl, by kernel_rfl⟩
theorem wf102 : FnIs 102 fi102 := ⟨Tryz.f102, Tryz.func102, by kernel_rfl, by kernel_rfl⟩
theorem wf106 : FnIs 106 fi106 := ⟨Tryz.f106, Tryz.func106, by kernel_rfl, by kernel_rfl⟩
theorem wf110 : FnIs 110 fi110 := ⟨Tryz.f110, Tryz.func110, by kernel_rfl, by kernel_rfl⟩
theorem wf115 : FnIs 115 fi115 := ⟨Tryz.f115, Tryz.func115, by kernel_rfl, by kernel_rfl⟩
theorem wf119 : FnIs 119 fi119 := ⟨Tryz.f119, Tryz.func119, by kernel_rfl, by kernel_rfl⟩
theorem wf127 : FnIs 127 fi127 := ⟨Tryz.f127, Tryz.func127, by kernel_rfl, by kernel_rfl⟩
theorem wf131 : FnIs 131 fi131 := ⟨Tryz.f131, Tryz.func131, by kernel_rfl, by kernel_rfl⟩
theorem wf135 : FnIs 135 fi135 := ⟨Tryz.f135, Tryz.func135, by kernel_rfl, by kernel_rfl⟩
theorem wf142 : FnIs 142 fi142 := ⟨Tryz.f142, Tryz.func142, by kernel_rfl, by kernel_rfl⟩
theorem wf147 : FnIs 147 fi147 := ⟨Tryz.f147, Tryz.func147, by kernel_rfl, by kernel_rfl⟩
theorem wf151 : FnIs 151 fi151 := ⟨Tryz.f151, Tryz.func151, by kernel_rfl, by kernel_rfl⟩
theorem wf159 : FnIs 159 fi159 := ⟨Tryz.f159, Tryz.func159, by kernel_rfl, by kernel_rfl⟩
theorem wf174 : FnIs 174 fi174 := ⟨Tryz.f174, Tryz.func174, by kernel_rfl, by kernel_rfl⟩
theorem wf202 : FnIs 202 fi202 := ⟨Tryz.f202, Tryz.func202, by kernel_rfl, by kernel_rfl⟩
theorem wf214 : FnIs 214 fi214 := ⟨Tryz.f214, Tryz.func214, by kernel_rfl, by kernel_rfl⟩
theorem wf221 : FnIs 221 fi221 := ⟨Tryz.f221, Tryz.func221, by kernel_rfl, by kernel_rfl⟩
theorem wf233 : FnIs 233 fi233 := ⟨Tryz.f233, Tryz.func233, by kernel_rfl, by kernel_rfl⟩
theorem wf237 : FnIs 237 fi237 := ⟨Tryz.f237, Tryz.func237, by kernel_rfl, by kernel_rfl⟩
theorem wf244 : FnIs 244 fi244 := ⟨Tryz.f244, Tryz.func244, by kernel_rfl, by kernel_rfl⟩
theorem wf253 : FnIs 253 fi253 := ⟨Tryz.f253, Tryz.func253, by kernel_rfl, by kernel_rfl⟩
theorem wf259 : FnIs 259 fi259 := ⟨Tryz.f259, Tryz.func259, by kernel_rfl, by kernel_rfl⟩
theorem wf264 : FnIs 264 fi264 := ⟨Tryz.f264, Tryz.func264, by kernel_rfl, by kernel_rfl⟩
theorem wf268 : FnIs 268 fi268 := ⟨Tryz.f268, Tryz.func268, by kernel_rfl, by kernel_rfl⟩
theorem wf275 : FnIs 275 fi275 := ⟨Tryz.f275, Tryz.func275, by kernel_rfl, by kernel_rfl⟩
theorem wf282 : FnIs 282 fi282 := ⟨Tryz.f282, Tryz.func282, by kernel_rfl, by kernel_rfl⟩
theorem wf287 : FnIs 287 fi287 := ⟨Tryz.f287, Tryz.func287, by kernel_rfl, by kernel_rfl⟩
theorem wf291 : FnIs 291 fi291 := ⟨Tryz.f291, Tryz.func291, by kernel_rfl, by kernel_rfl⟩
theorem wf300 : FnIs 300 fi300 := ⟨Tryz.f300, Tryz.func300, by kernel_rfl, by kernel_rfl⟩
theorem wf304 : FnIs 304 fi304 := ⟨Tryz.f304, Tryz.func304, by kernel_rfl, by kernel_rfl⟩
theorem wf323 : FnIs 323 fi323 := ⟨Tryz.f323, Tryz.func323, by kernel_rfl, by kernel_rfl⟩
theorem wf347 : FnIs 347 fi347 := ⟨Tryz.f347, Tryz.func347, by kernel_rfl, by kernel_rfl⟩
theorem wf351 : FnIs 351 fi351 := ⟨Tryz.f351, Tryz.func351, by kernel_rfl, by kernel_rfl⟩
theorem wf357 : FnIs 357 fi357 := ⟨Tryz.f357, Tryz.func357, by kernel_rfl, by kernel_rfl⟩
theorem wf368 : FnIs 368 fi368 := ⟨Tryz.f368, Tryz.func368, by kernel_rfl, by kernel_rfl⟩
theorem wf381 : FnIs 381 fi381 := ⟨Tryz.f381, Tryz.func381, by kernel_rfl, by kernel_rfl⟩
theorem wf398 : FnIs 398 fi398 := ⟨Tryz.f398, Tryz.func398, by kernel_rfl, by kernel_rfl⟩
theorem wf402 : FnIs 402 fi402 := ⟨Tryz.f402, Tryz.func402, by kernel_rfl, by kernel_rfl⟩
theorem wf407 : FnIs 407 fi407 := ⟨Tryz.f407, Tryz.func407, by kernel_rfl, by kernel_rfl⟩
theorem wf412 : FnIs 412 fi412 := ⟨Tryz.f412, Tryz.func412, by kernel_rfl, by kernel_rfl⟩
theorem wf419 : FnIs 419 fi419 := ⟨Tryz.f419, Tryz.func419, by kernel_rfl, by kernel_rfl⟩
theorem wf436 : FnIs 436 fi436 := ⟨Tryz.f436, Tryz.func436, by kernel_rfl, by kernel_rfl⟩
theorem wf447 : FnIs 447 fi447 := ⟨Tryz.f447, Tryz.func447, by kernel_rfl, by kernel_rfl⟩
theorem wf454 : FnIs 454 fi454 := ⟨Tryz.f454, Tryz.func454, by kernel_rfl, by kernel_rfl⟩
theorem wf474 : FnIs 474 fi474 := ⟨Tryz.f474, Tryz.func474, by kernel_rfl, by kernel_rfl⟩
theorem wf480 : FnIs 480 fi480 := ⟨Tryz.f480, Tryz.func480, by kernel_rfl, by kernel_rfl⟩
theorem wf490 : FnIs 490 fi490 := ⟨Tryz.f490, Tryz.func490, by kernel_rfl, by kernel_rfl⟩
theorem wf511 : FnIs 511 fi511 := ⟨Tryz.f511, Tryz.func511, by kernel_rfl, by kernel_rfl⟩
theorem wf522 : FnIs 522 fi522 := ⟨Tryz.f522, Tryz.func522, by kernel_rfl, by kernel_rfl⟩
theorem wf526 : FnIs 526 fi526 := ⟨Tryz.f526, Tryz.func526, by kernel_rfl, by kernel_rfl⟩
theorem wf530 : FnIs 530 fi530 := ⟨Tryz.f530, Tryz.func530, by kernel_rfl, by kernel_rfl⟩
theorem wf534 : FnIs 534 fi534 := ⟨Tryz.f534, Tryz.func534, by kernel_rfl, by kernel_rfl⟩
theorem wf546 : FnIs 546 fi546 := ⟨Tryz.f546, Tryz.func546, by kernel_rfl, by kernel_rfl⟩
theorem wf557 : FnIs 557 fi557 := ⟨Tryz.f557, Tryz.func557, by kernel_rfl, by kernel_rfl⟩
theorem wf566 : FnIs 566 fi566 := ⟨Tryz.f566, Tryz.func566, by kernel_rfl, by kernel_rfl⟩
theorem wf571 : FnIs 571 fi571 := ⟨Tryz.f571, Tryz.func571, by kernel_rfl, by kernel_rfl⟩
theorem wf582 : FnIs 582 fi582 := ⟨Tryz.f582, Tryz.func582, by kernel_rfl, by kernel_rfl⟩
theorem wf592 : FnIs 592 fi592 := ⟨Tryz.f592, Tryz.func592, by kernel_rfl, by kernel_rfl⟩
theorem wf598 : FnIs 598 fi598 := ⟨Tryz.f598, Tryz.func598, by kernel_rfl, by kernel_rfl⟩
theorem wf610 : FnIs 610 fi610 := ⟨Tryz.f610, Tryz.func610, by kernel_rfl, by kernel_rfl⟩
theorem wf617 : FnIs 617 fi617 := ⟨Tryz.f617, Tryz.func617, by kernel_rfl, by kernel_rfl⟩
theorem wf621 : FnIs 621 fi621 := ⟨Tryz.f621, Tryz.func621, by kernel_rfl, by kernel_rfl⟩
end Go.Ab
end

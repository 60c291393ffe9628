/-
  A part of the proof of the card of DeskLong (the whole is said in the last text). No condition of its own beyond those that its theorems state.
-/
import Derived.Test.YtmikcgefgodipaaGreatDoorWa
import Derived.KernelRfl
set_option autoImplicit true
set_option relaxedAutoImplicit true
set_option linter.unusedVariables false
set_option linter.unusedSimpArgs false
set_option linter.unusedSectionVars false
section
namespace Go.Ab
theorem wf4 : FnIs 4 fi4 := ⟨Go.Proofs.Tryz.f4, Go.Proofs.Tryz.func4, by kernel_rfl, by kernel_rfl⟩
theorem wf8 : FnIs 8 fi8 := ⟨Go.Proofs.Tryz.f8, Go.Proofs.Tryz.func8, by kernel_rfl, by kernel_rfl⟩
theorem wf12 : FnIs 12 fi12 := ⟨Go.Proofs.Tryz.f12, Go.Proofs.Tryz.func12, by kernel_rfl, by kernel_rfl⟩
theorem wf16 : FnIs 16 fi16 := ⟨Go.Proofs.Tryz.f16, Go.Proofs.Tryz.func16, by kernel_rfl, by kernel_rfl⟩
theorem wf21 : FnIs 21 fi21 := ⟨Go.Proofs.Tryz.f21, Go.Proofs.Tryz.func21, by kernel_rfl, by kernel_rfl⟩
theorem wf26 : FnIs 26 fi26 := ⟨Go.Proofs.Tryz.f26, Go.Proofs.Tryz.func26, by kernel_rfl, by kernel_rfl⟩
theorem wf30 : FnIs 30 fi30 := ⟨Go.Proofs.Tryz.f30, Go.Proofs.Tryz.func30, by kernel_rfl, by kernel_rfl⟩
theorem wf38 : FnIs 38 fi38 := ⟨Go.Proofs.Tryz.f38, Go.Proofs.Tryz.func38, by kernel_rfl, by kernel_rfl⟩
theorem wf43 : FnIs 43 fi43 := ⟨Go.Proofs.Tryz.f43, Go.Proofs.Tryz.func43, by kernel_rfl, by kernel_rfl⟩
theorem wf47 : FnIs 47 fi47 := ⟨Go.Proofs.Tryz.f47, Go.Proofs.Tryz.func47, by kernel_rfl, by kernel_rfl⟩
theorem wf59 : FnIs 59 fi59 := ⟨Go.Proofs.Tryz.f59, Go.Proofs.Tryz.func59, by kernel_rfl, by kernel_rfl⟩
theorem wf63 : FnIs 63 fi63 := ⟨Go.Proofs.Tryz.f63, Go.Proofs.Tryz.func63, by kernel_rfl, by kernel_rfl⟩
theorem wf71 : FnIs 71 fi71 := ⟨Go.Proofs.Tryz.f71, Go.Proofs.Tryz.func71, by kernel_rfl, by kernel_rfl⟩
theorem wf75 : FnIs 75 fi75 := ⟨Go.Proofs.Tryz.f75, Go.Proofs.Tryz.func75, by kernel_rfl, by kernel_rfl⟩
theorem wf79 : FnIs 79 fi79 := ⟨Go.Proofs.Tryz.f79, Go.Proofs.Tryz.func79, by kernel_rfl, by kernel_rfl⟩
theorem wf86 : FnIs 86 fi86 := ⟨Go.Proofs.Tryz.f86, Go.Proofs.Tryz.func86, by kernel_rfl, by kernel_rfl⟩
theorem wf93 : FnIs 93 fi93 := ⟨Go.Proofs.Tryz.f93, Go.Proofs.Tryz.func93, by kernel_rfl, by kernel_rfl⟩
theorem wf103 : FnIs 103 fi103 := ⟨Go.Proofs.Tryz.f103, Go.Proofs.Tryz.func103, by kernel_rfl, by kernel_rfl⟩
theorem wf108 : FnIs 108 fi108 := ⟨Go.Proofs.Tryz.f108, Go.Proofs.Tryz.func108, by kernel_rfl, by kernel_rfl⟩
theorem wf112 : FnIs 112 fi112 := ⟨Go.Proofs.Tryz.f112, Go.Proofs.Tryz.func112, by kernel_rfl, by kernel_rfl⟩
theorem wf128 : FnIs 128 fi128 := ⟨Go.Proofs.Tryz.f128, Go.Proofs.Tryz.func128, by kernel_rfl, by kernel_rfl⟩
theorem wf142 : FnIs 142 fi142 := ⟨Go.Proofs.Tryz.f142, Go.Proofs.Tryz.func142, by kernel_rfl, by kernel_rfl⟩
theorem wf147 : FnIs 147 fi147 := ⟨Go.Proofs.Tryz.f147, Go.Proofs.Tryz.func147, by kernel_rfl, by kernel_rfl⟩
theorem wf151 : FnIs 151 fi151 := ⟨Go.Proofs.Tryz.f151, Go.Proofs.Tryz.func151, by kernel_rfl, by kernel_rfl⟩
theorem wf162 : FnIs 162 fi162 := ⟨Go.Proofs.Tryz.f162, Go.Proofs.Tryz.func162, by kernel_rfl, by kernel_rfl⟩
theorem wf191 : FnIs 191 fi191 := ⟨Go.Proofs.Tryz.f191, Go.Proofs.Tryz.func191, by kernel_rfl, by kernel_rfl⟩
theorem wf216 : FnIs 216 fi216 := ⟨Go.Proofs.Tryz.f216, Go.Proofs.Tryz.func216, by kernel_rfl, by kernel_rfl⟩
theorem wf231 : FnIs 231 fi231 := ⟨Go.Proofs.Tryz.f231, Go.Proofs.Tryz.func231, by kernel_rfl, by kernel_rfl⟩
theorem wf256 : FnIs 256 fi256 := ⟨Go.Proofs.Tryz.f256, Go.Proofs.Tryz.func256, by kernel_rfl, by kernel_rfl⟩
theorem wf261 : FnIs 261 fi261 := ⟨Go.Proofs.Tryz.f261, Go.Proofs.Tryz.func261, by kernel_rfl, by kernel_rfl⟩
theorem wf266 : FnIs 266 fi266 := ⟨Go.Proofs.Tryz.f266, Go.Proofs.Tryz.func266, by kernel_rfl, by kernel_rfl⟩
theorem wf271 : FnIs 271 fi271 := ⟨Go.Proofs.Tryz.f271, Go.Proofs.Tryz.func271, by kernel_rfl, by kernel_rfl⟩
theorem wf287 : FnIs 287 fi287 := ⟨Go.Proofs.Tryz.f287, Go.Proofs.Tryz.func287, by kernel_rfl, by kernel_rfl⟩
theorem wf291 : FnIs 291 fi291 := ⟨Go.Proofs.Tryz.f291, Go.Proofs.Tryz.func291, by kernel_rfl, by kernel_rfl⟩
theorem wf300 : FnIs 300 fi300 := ⟨Go.Proofs.Tryz.f300, Go.Proofs.Tryz.func300, by kernel_rfl, by kernel_rfl⟩
theorem wf304 : FnIs 304 fi304 := ⟨Go.Proofs.Tryz.f304, Go.Proofs.Tryz.func304, by kernel_rfl, by kernel_rfl⟩
theorem wf323 : FnIs 323 fi323 := ⟨Go.Proofs.Tryz.f323, Go.Proofs.Tryz.func323, by kernel_rfl, by kernel_rfl⟩
theorem wf353 : FnIs 353 fi353 := ⟨Go.Proofs.Tryz.f353, Go.Proofs.Tryz.func353, by kernel_rfl, by kernel_rfl⟩
theorem wf378 : FnIs 378 fi378 := ⟨Go.Proofs.Tryz.f378, Go.Proofs.Tryz.func378, by kernel_rfl, by kernel_rfl⟩
theorem wf400 : FnIs 400 fi400 := ⟨Go.Proofs.Tryz.f400, Go.Proofs.Tryz.func400, by kernel_rfl, by kernel_rfl⟩
theorem wf407 : FnIs 407 fi407 := ⟨Go.Proofs.Tryz.f407, Go.Proofs.Tryz.func407, by kernel_rfl, by kernel_rfl⟩
theorem wf413 : FnIs 413 fi413 := ⟨Go.Proofs.Tryz.f413, Go.Proofs.Tryz.func413, by kernel_rfl, by kernel_rfl⟩
theorem wf421 : FnIs 421 fi421 := ⟨Go.Proofs.Tryz.f421, Go.Proofs.Tryz.func421, by kernel_rfl, by kernel_rfl⟩
theorem wf446 : FnIs 446 fi446 := ⟨Go.Proofs.Tryz.f446, Go.Proofs.Tryz.func446, by kernel_rfl, by kernel_rfl⟩
theorem wf453 : FnIs 453 fi453 := ⟨Go.Proofs.Tryz.f453, Go.Proofs.Tryz.func453, by kernel_rfl, by kernel_rfl⟩
theorem wf471 : FnIs 471 fi471 := ⟨Go.Proofs.Tryz.f471, Go.Proofs.Tryz.func471, by kernel_rfl, by kernel_rfl⟩
theorem wf483 : FnIs 483 fi483 := ⟨Go.Proofs.Tryz.f483, Go.Proofs.Tryz.func483, by kernel_rfl, by kernel_rfl⟩
theorem wf497 : FnIs 497 fi497 := ⟨Go.Proofs.Tryz.f497, Go.Proofs.Tryz.func497, by kernel_rfl, by kernel_rfl⟩
theorem wf518 : FnIs 518 fi518 := ⟨Go.Proofs.Tryz.f518, Go.Proofs.Tryz.func518, by kernel_rfl, by kernel_rfl⟩
theorem wf523 : FnIs 523 fi523 := ⟨Go.Proofs.Tryz.f523, Go.Proofs.Tryz.func523, by kernel_rfl, by kernel_rfl⟩
theorem wf529 : FnIs 529 fi529 := ⟨Go.Proofs.Tryz.f529, Go.Proofs.Tryz.func529, by kernel_rfl, by kernel_rfl⟩
theorem wf533 : FnIs 533 fi533 := ⟨Go.Proofs.Tryz.f533, Go.Proofs.Tryz.func533, by kernel_rfl, by kernel_rfl⟩
theorem wf547 : FnIs 547 fi547 := ⟨Go.Proofs.Tryz.f547, Go.Proofs.Tryz.func547, by kernel_rfl, by kernel_rfl⟩
theorem wf558 : FnIs 558 fi558 := ⟨Go.Proofs.Tryz.f558, Go.Proofs.Tryz.func558, by kernel_rfl, by kernel_rfl⟩
theorem wf567 : FnIs 567 fi567 := ⟨Go.Proofs.Tryz.f567, Go.Proofs.Tryz.func567, by kernel_rfl, by kernel_rfl⟩
theorem wf572 : FnIs 572 fi572 := ⟨Go.Proofs.Tryz.f572, Go.Proofs.Tryz.func572, by kernel_rfl, by kernel_rfl⟩
theorem wf585 : FnIs 585 fi585 := ⟨Go.Proofs.Tryz.f585, Go.Proofs.Tryz.func585, by kernel_rfl, by kernel_rfl⟩
theorem wf594 : FnIs 594 fi594 := ⟨Go.Proofs.Tryz.f594, Go.Proofs.Tryz.func594, by kernel_rfl, by kernel_rfl⟩
theorem wf608 : FnIs 608 fi608 := ⟨Go.Proofs.Tryz.f608, Go.Proofs.Tryz.func608, by kernel_rfl, by kernel_rfl⟩
theorem wf616 : FnIs 616 fi616 := ⟨Go.Proofs.Tryz.f616, Go.Proofs.Tryz.func616, by kernel_rfl, by kernel_rfl⟩
theorem wf620 : FnIs 620 fi620 := ⟨Go.Proofs.Tryz.f620, Go.Proofs.Tryz.func620, by kernel_rfl, by kernel_rfl⟩
theorem wf632 : FnIs 632 fi632 := ⟨Go.Proofs.Tryz.f632, Go.Proofs.Tryz.func632, by kernel_rfl, by kernel_rfl⟩
end Go.Ab
end

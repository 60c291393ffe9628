/-
  A part of the proof of the card of DeskKnown (the whole is said in the last text). No condition of its own beyond those that its theorems state.
-/
import Derived.Test.YtcflmdimeemkcaaGreatDoorWa
import Derived.KernelRfl
set_option autoImplicit true
set_option relaxedAutoImplicit true
set_option linter.unusedVariables false
set_option linter.unusedSimpArgs false
set_option linter.unusedSectionVars false
section
namespace Go.Ab
open Go.Proofs
theorem wf3 : FnIs 3 fi3 := ⟨Tryz.f3, Tryz.func3, by kernel_rfl, by kernel_rfl⟩
theorem wf7 : FnIs 7 fi7 := ⟨Tryz.f7, Tryz.func7, by kernel_rfl, by kernel_rfl⟩
theorem wf11 : FnIs 11 fi11 := ⟨Tryz.f11, Tryz.func11, by kernel_rfl, by kernel_rfl⟩
theorem wf15 : FnIs 15 fi15 := ⟨Tryz.f15, Tryz.func15, by kernel_rfl, by kernel_rfl⟩
theorem wf20 : FnIs 20 fi20 := ⟨Tryz.f20, Tryz.func20, by kernel_rfl, by kernel_rfl⟩
theorem wf25 : FnIs 25 fi25 := ⟨Tryz.f25, Tryz.func25, by kernel_rfl, by kernel_rfl⟩
theorem wf29 : FnIs 29 fi29 := ⟨Tryz.f29, Tryz.func29, by kernel_rfl, by kernel_rfl⟩
theorem wf37 : FnIs 37 fi37 := ⟨Tryz.f37, Tryz.func37, by kernel_rfl, by kernel_rfl⟩
theorem wf42 : FnIs 42 fi42 := ⟨Tryz.f42, Tryz.func42, by kernel_rfl, by kernel_rfl⟩
theorem wf46 : FnIs 46 fi46 := ⟨Tryz.f46, Tryz.func46, by kernel_rfl, by kernel_rfl⟩
theorem wf50 : FnIs 50 fi50 := ⟨Tryz.f50, Tryz.func50, by kernel_rfl, by kernel_rfl⟩
theorem wf54 : FnIs 54 fi54 := ⟨Tryz.f54, Tryz.func54, by kernel_rfl, by kernel_rfl⟩
theorem wf61 : FnIs 61 fi61 := ⟨Tryz.f61, Tryz.func61, by kernel_rfl, by kernel_rfl⟩
theorem wf68 : FnIs 68 fi68 := ⟨Tryz.f68, Tryz.func68, by kernel_rfl, by kernel_rfl⟩
theorem wf72 : FnIs 72 fi72 := ⟨Tryz.f72, Tryz.func72, by kernel_rfl, by kernel_rfl⟩
theorem wf76 : FnIs 76 fi76 := ⟨Tryz.f76, Tryz.func76, by kernel_rfl, by kernel_rfl⟩
theorem wf80 : FnIs 80 fi80 := ⟨Tryz.f80, Tryz.func80, by kernel_rfl, by kernel_rfl⟩
theorem wf84 : FnIs 84 fi84 := ⟨Tryz.f84, Tryz.func84, by kernel_rfl, by kernel_rfl⟩
theorem wf89 : FnIs 89 fi89 := ⟨Tryz.f89, Tryz.func89, by kernel_rfl, by kernel_rfl⟩
theorem wf93 : FnIs 93 fi93 := ⟨Tryz.f93, Tryz.func93, by kernel_rfl, by kernel_rfl⟩
theorem wf97 : FnIs 97 fi97 := ⟨Tryz.f97, Tryz.func97, by kernel_rfl, by kernel_rfl⟩
theorem wf105 : FnIs 105 fi105 := ⟨Tryz.f105, Tryz.func105, by kernel_rfl, by kernel_rfl⟩
theorem wf109 : FnIs 109 fi109 := ⟨Tryz.f109, Tryz.func109, by kernel_rfl, by kernel_rfl⟩
theorem wf114 : FnIs 114 fi114 := ⟨Tryz.f114, Tryz.func114, by kernel_rfl, by kernel_rfl⟩
theorem wf118 : FnIs 118 fi118 := ⟨Tryz.f118, Tryz.func118, by kernel_rfl, by kernel_rfl⟩
theorem wf126 : FnIs 126 fi126 := ⟨Tryz.f126, Tryz.func126, by kernel_rfl, by kernel_rfl⟩
theorem wf130 : FnIs 130 fi130 := ⟨Tryz.f130, Tryz.func130, by kernel_rfl, by kernel_rfl⟩
theorem wf134 : FnIs 134 fi134 := ⟨Tryz.f134, Tryz.func134, by kernel_rfl, by kernel_rfl⟩
theorem wf141 : FnIs 141 fi141 := ⟨Tryz.f141, Tryz.func141, by kernel_rfl, by kernel_rfl⟩
theorem wf145 : FnIs 145 fi145 := ⟨Tryz.f145, Tryz.func145, by kernel_rfl, by kernel_rfl⟩
theorem wf150 : FnIs 150 fi150 := ⟨Tryz.f150, Tryz.func150, by kernel_rfl, by kernel_rfl⟩
theorem wf158 : FnIs 158 fi158 := ⟨Tryz.f158, Tryz.func158, by kernel_rfl, by kernel_rfl⟩
theorem wf169 : FnIs 169 fi169 := ⟨Tryz.f169, Tryz.func169, by kernel_rfl, by kernel_rfl⟩
theorem wf193 : FnIs 193 fi193 := ⟨Tryz.f193, Tryz.func193, by kernel_rfl, by kernel_rfl⟩
theorem wf213 : FnIs 213 fi213 := ⟨Tryz.f213, Tryz.func213, by kernel_rfl, by kernel_rfl⟩
theorem wf217 : FnIs 217 fi217 := ⟨Tryz.f217, Tryz.func217, by kernel_rfl, by kernel_rfl⟩
theorem wf231 : FnIs 231 fi231 := ⟨Tryz.f231, Tryz.func231, by kernel_rfl, by kernel_rfl⟩
theorem wf236 : FnIs 236 fi236 := ⟨Tryz.f236, Tryz.func236, by kernel_rfl, by kernel_rfl⟩
theorem wf243 : FnIs 243 fi243 := ⟨Tryz.f243, Tryz.func243, by kernel_rfl, by kernel_rfl⟩
theorem wf252 : FnIs 252 fi252 := ⟨Tryz.f252, Tryz.func252, by kernel_rfl, by kernel_rfl⟩
theorem wf258 : FnIs 258 fi258 := ⟨Tryz.f258, Tryz.func258, by kernel_rfl, by kernel_rfl⟩
theorem wf263 : FnIs 263 fi263 := ⟨Tryz.f263, Tryz.func263, by kernel_rfl, by kernel_rfl⟩
theorem wf267 : FnIs 267 fi267 := ⟨Tryz.f267, Tryz.func267, by kernel_rfl, by kernel_rfl⟩
theorem wf272 : FnIs 272 fi272 := ⟨Tryz.f272, Tryz.func272, by kernel_rfl, by kernel_rfl⟩
theorem wf281 : FnIs 281 fi281 := ⟨Tryz.f281, Tryz.func281, by kernel_rfl, by kernel_rfl⟩
theorem wf286 : FnIs 286 fi286 := ⟨Tryz.f286, Tryz.func286, by kernel_rfl, by kernel_rfl⟩
theorem wf290 : FnIs 290 fi290 := ⟨Tryz.f290, Tryz.func290, by kernel_rfl, by kernel_rfl⟩
theorem wf299 : FnIs 299 fi299 := ⟨Tryz.f299, Tryz.func299, by kernel_rfl, by kernel_rfl⟩
theorem wf303 : FnIs 303 fi303 := ⟨Tryz.f303, Tryz.func303, by kernel_rfl, by kernel_rfl⟩
theorem wf314 : FnIs 314 fi314 := ⟨Tryz.f314, Tryz.func314, by kernel_rfl, by kernel_rfl⟩
theorem wf343 : FnIs 343 fi343 := ⟨Tryz.f343, Tryz.func343, by kernel_rfl, by kernel_rfl⟩
theorem wf350 : FnIs 350 fi350 := ⟨Tryz.f350, Tryz.func350, by kernel_rfl, by kernel_rfl⟩
theorem wf356 : FnIs 356 fi356 := ⟨Tryz.f356, Tryz.func356, by kernel_rfl, by kernel_rfl⟩
theorem wf366 : FnIs 366 fi366 := ⟨Tryz.f366, Tryz.func366, by kernel_rfl, by kernel_rfl⟩
theorem wf379 : FnIs 379 fi379 := ⟨Tryz.f379, Tryz.func379, by kernel_rfl, by kernel_rfl⟩
theorem wf392 : FnIs 392 fi392 := ⟨Tryz.f392, Tryz.func392, by kernel_rfl, by kernel_rfl⟩
theorem wf401 : FnIs 401 fi401 := ⟨Tryz.f401, Tryz.func401, by kernel_rfl, by kernel_rfl⟩
theorem wf406 : FnIs 406 fi406 := ⟨Tryz.f406, Tryz.func406, by kernel_rfl, by kernel_rfl⟩
theorem wf410 : FnIs 410 fi410 := ⟨Tryz.f410, Tryz.func410, by kernel_rfl, by kernel_rfl⟩
theorem wf418 : FnIs 418 fi418 := ⟨Tryz.f418, Tryz.func418, by kernel_rfl, by kernel_rfl⟩
theorem wf427 : FnIs 427 fi427 := ⟨Tryz.f427, Tryz.func427, by kernel_rfl, by kernel_rfl⟩
theorem wf446 : FnIs 446 fi446 := ⟨Tryz.f446, Tryz.func446, by kernel_rfl, by kernel_rfl⟩
theorem wf453 : FnIs 453 fi453 := ⟨Tryz.f453, Tryz.func453, by kernel_rfl, by kernel_rfl⟩
theorem wf471 : FnIs 471 fi471 := ⟨Tryz.f471, Tryz.func471, by kernel_rfl, by kernel_rfl⟩
theorem wf477 : FnIs 477 fi477 := ⟨Tryz.f477, Tryz.func477, by kernel_rfl, by kernel_rfl⟩
theorem wf489 : FnIs 489 fi489 := ⟨Tryz.f489, Tryz.func489, by kernel_rfl, by kernel_rfl⟩
theorem wf499 : FnIs 499 fi499 := ⟨Tryz.f499, Tryz.func499, by kernel_rfl, by kernel_rfl⟩
theorem wf521 : FnIs 521 fi521 := ⟨Tryz.f521, Tryz.func521, by kernel_rfl, by kernel_rfl⟩
theorem wf525 : FnIs 525 fi525 := ⟨Tryz.f525, Tryz.func525, by kernel_rfl, by kernel_rfl⟩
theorem wf529 : FnIs 529 fi529 := ⟨Tryz.f529, Tryz.func529, by kernel_rfl, by kernel_rfl⟩
theorem wf533 : FnIs 533 fi533 := ⟨Tryz.f533, Tryz.func533, by kernel_rfl, by kernel_rfl⟩
theorem wf545 : FnIs 545 fi545 := ⟨Tryz.f545, Tryz.func545, by kernel_rfl, by kernel_rfl⟩
theorem wf556 : FnIs 556 fi556 := ⟨Tryz.f556, Tryz.func556, by kernel_rfl, by kernel_rfl⟩
theorem wf565 : FnIs 565 fi565 := ⟨Tryz.f565, Tryz.func565, by kernel_rfl, by kernel_rfl⟩
theorem wf570 : FnIs 570 fi570 := ⟨Tryz.f570, Tryz.func570, by kernel_rfl, by kernel_rfl⟩
theorem wf574 : FnIs 574 fi574 := ⟨Tryz.f574, Tryz.func574, by kernel_rfl, by kernel_rfl⟩
theorem wf591 : FnIs 591 fi591 := ⟨Tryz.f591, Tryz.func591, by kernel_rfl, by kernel_rfl⟩
theorem wf596 : FnIs 596 fi596 := ⟨Tryz.f596, Tryz.func596, by kernel_rfl, by kernel_rfl⟩
theorem wf608 : FnIs 608 fi608 := ⟨Tryz.f608, Tryz.func608, by kernel_rfl, by kernel_rfl⟩
theorem wf616 : FnIs 616 fi616 := ⟨Tryz.f616, Tryz.func616, by kernel_rfl, by kernel_rfl⟩
theorem wf620 : FnIs 620 fi620 := ⟨Tryz.f620, Tryz.func620, by kernel_rfl, by kernel_rfl⟩
theorem wf632 : FnIs 632 fi632 := ⟨Tryz.f632, Tryz.func632, by kernel_rfl, by kernel_rfl⟩
end Go.Ab
end

/-
  A part of the proof of the card of DeskLong (the whole is said in the last text). No condition of its own beyond those that its theorems state.
-/
import Derived.Test.YtmikcgefgodipaaGreatDoorWa
import Derived.KernelRfl
set_option autoImplicit true
set_option relaxedAutoImplicit true
set_option linter.unusedVariables false
set_option linter.unusedSimpArgs false
set_option linter.unusedSectionVars false
section
namespace Go.Ab
theorem wf3 : FnIs 3 fi3 := ⟨Go.Proofs.Tryz.f3, Go.Proofs.Tryz.func3, by kernel_rfl, by kernel_rfl⟩
theorem wf7 : FnIs 7 fi7 := ⟨Go.Proofs.Tryz.f7, Go.Proofs.Tryz.func7, by kernel_rfl, by kernel_rfl⟩
theorem wf11 : FnIs 11 fi11 := ⟨Go.Proofs.Tryz.f11, Go.Proofs.Tryz.func11, by kernel_rfl, by kernel_rfl⟩
theorem wf15 : FnIs 15 fi15 := ⟨Go.Proofs.Tryz.f15, Go.Proofs.Tryz.func15, by kernel_rfl, by kernel_rfl⟩
theorem wf20 : FnIs 20 fi20 := ⟨Go.Proofs.Tryz.f20, Go.Proofs.Tryz.func20, by kernel_rfl, by kernel_rfl⟩
theorem wf25 : FnIs 25 fi25 := ⟨Go.Proofs.Tryz.f25, Go.Proofs.Tryz.func25, by kernel_rfl, by kernel_rfl⟩
theorem wf29 : FnIs 29 fi29 := ⟨Go.Proofs.Tryz.f29, Go.Proofs.Tryz.func29, by kernel_rfl, by kernel_rfl⟩
theorem wf37 : FnIs 37 fi37 := ⟨Go.Proofs.Tryz.f37, Go.Proofs.Tryz.func37, by kernel_rfl, by kernel_rfl⟩
theorem wf42 : FnIs 42 fi42 := ⟨Go.Proofs.Tryz.f42, Go.Proofs.Tryz.func42, by kernel_rfl, by kernel_rfl⟩
theorem wf46 : FnIs 46 fi46 := ⟨Go.Proofs.Tryz.f46, Go.Proofs.Tryz.func46, by kernel_rfl, by kernel_rfl⟩
theorem wf50 : FnIs 50 fi50 := ⟨Go.Proofs.Tryz.f50, Go.Proofs.Tryz.func50, by kernel_rfl, by kernel_rfl⟩
theorem wf62 : FnIs 62 fi62 := ⟨Go.Proofs.Tryz.f62, Go.Proofs.Tryz.func62, by kernel_rfl, by kernel_rfl⟩
theorem wf70 : FnIs 70 fi70 := ⟨Go.Proofs.Tryz.f70, Go.Proofs.Tryz.func70, by kernel_rfl, by kernel_rfl⟩
theorem wf74 : FnIs 74 fi74 := ⟨Go.Proofs.Tryz.f74, Go.Proofs.Tryz.func74, by kernel_rfl, by kernel_rfl⟩
theorem wf78 : FnIs 78 fi78 := ⟨Go.Proofs.Tryz.f78, Go.Proofs.Tryz.func78, by kernel_rfl, by kernel_rfl⟩
theorem wf82 : FnIs 82 fi82 := ⟨Go.Proofs.Tryz.f82, Go.Proofs.Tryz.func82, by kernel_rfl, by kernel_rfl⟩
theorem wf90 : FnIs 90 fi90 := ⟨Go.Proofs.Tryz.f90, Go.Proofs.Tryz.func90, by kernel_rfl, by kernel_rfl⟩
theorem wf102 : FnIs 102 fi102 := ⟨Go.Proofs.Tryz.f102, Go.Proofs.Tryz.func102, by kernel_rfl, by kernel_rfl⟩
theorem wf107 : FnIs 107 fi107 := ⟨Go.Proofs.Tryz.f107, Go.Proofs.Tryz.func107, by kernel_rfl, by kernel_rfl⟩
theorem wf111 : FnIs 111 fi111 := ⟨Go.Proofs.Tryz.f111, Go.Proofs.Tryz.func111, by kernel_rfl, by kernel_rfl⟩
theorem wf127 : FnIs 127 fi127 := ⟨Go.Proofs.Tryz.f127, Go.Proofs.Tryz.func127, by kernel_rfl, by kernel_rfl⟩
theorem wf141 : FnIs 141 fi141 := ⟨Go.Proofs.Tryz.f141, Go.Proofs.Tryz.func141, by kernel_rfl, by kernel_rfl⟩
theorem wf145 : FnIs 145 fi145 := ⟨Go.Proofs.Tryz.f145, Go.Proofs.Tryz.func145, by kernel_rfl, by kernel_rfl⟩
theorem wf150 : FnIs 150 fi150 := ⟨Go.Proofs.Tryz.f150, Go.Proofs.Tryz.func150, by kernel_rfl, by kernel_rfl⟩
theorem wf159 : FnIs 159 fi159 := ⟨Go.Proofs.Tryz.f159, Go.Proofs.Tryz.func159, by kernel_rfl, by kernel_rfl⟩
theorem wf178 : FnIs 178 fi178 := ⟨Go.Proofs.Tryz.f178, Go.Proofs.Tryz.func178, by kernel_rfl, by kernel_rfl⟩
theorem wf215 : FnIs 215 fi215 := ⟨Go.Proofs.Tryz.f215, Go.Proofs.Tryz.func215, by kernel_rfl, by kernel_rfl⟩
theorem wf230 : FnIs 230 fi230 := ⟨Go.Proofs.Tryz.f230, Go.Proofs.Tryz.func230, by kernel_rfl, by kernel_rfl⟩
theorem wf253 : FnIs 253 fi253 := ⟨Go.Proofs.Tryz.f253, Go.Proofs.Tryz.func253, by kernel_rfl, by kernel_rfl⟩
theorem wf259 : FnIs 259 fi259 := ⟨Go.Proofs.Tryz.f259, Go.Proofs.Tryz.func259, by kernel_rfl, by kernel_rfl⟩
theorem wf265 : FnIs 265 fi265 := ⟨Go.Proofs.Tryz.f265, Go.Proofs.Tryz.func265, by kernel_rfl, by kernel_rfl⟩
theorem wf270 : FnIs 270 fi270 := ⟨Go.Proofs.Tryz.f270, Go.Proofs.Tryz.func270, by kernel_rfl, by kernel_rfl⟩
theorem wf282 : FnIs 282 fi282 := ⟨Go.Proofs.Tryz.f282, Go.Proofs.Tryz.func282, by kernel_rfl, by kernel_rfl⟩
theorem wf290 : FnIs 290 fi290 := ⟨Go.Proofs.Tryz.f290, Go.Proofs.Tryz.func290, by kernel_rfl, by kernel_rfl⟩
theorem wf299 : FnIs 299 fi299 := ⟨Go.Proofs.Tryz.f299, Go.Proofs.Tryz.func299, by kernel_rfl, by kernel_rfl⟩
theorem wf303 : FnIs 303 fi303 := ⟨Go.Proofs.Tryz.f303, Go.Proofs.Tryz.func303, by kernel_rfl, by kernel_rfl⟩
theorem wf314 : FnIs 314 fi314 := ⟨Go.Proofs.Tryz.f314, Go.Proofs.Tryz.func314, by kernel_rfl, by kernel_rfl⟩
theorem wf351 : FnIs 351 fi351 := ⟨Go.Proofs.Tryz.f351, Go.Proofs.Tryz.func351, by kernel_rfl, by kernel_rfl⟩
theorem wf374 : FnIs 374 fi374 := ⟨Go.Proofs.Tryz.f374, Go.Proofs.Tryz.func374, by kernel_rfl, by kernel_rfl⟩
theorem wf392 : FnIs 392 fi392 := ⟨Go.Proofs.Tryz.f392, Go.Proofs.Tryz.func392, by kernel_rfl, by kernel_rfl⟩
theorem wf406 : FnIs 406 fi406 := ⟨Go.Proofs.Tryz.f406, Go.Proofs.Tryz.func406, by kernel_rfl, by kernel_rfl⟩
theorem wf412 : FnIs 412 fi412 := ⟨Go.Proofs.Tryz.f412, Go.Proofs.Tryz.func412, by kernel_rfl, by kernel_rfl⟩
theorem wf419 : FnIs 419 fi419 := ⟨Go.Proofs.Tryz.f419, Go.Proofs.Tryz.func419, by kernel_rfl, by kernel_rfl⟩
theorem wf445 : FnIs 445 fi445 := ⟨Go.Proofs.Tryz.f445, Go.Proofs.Tryz.func445, by kernel_rfl, by kernel_rfl⟩
theorem wf449 : FnIs 449 fi449 := ⟨Go.Proofs.Tryz.f449, Go.Proofs.Tryz.func449, by kernel_rfl, by kernel_rfl⟩
theorem wf470 : FnIs 470 fi470 := ⟨Go.Proofs.Tryz.f470, Go.Proofs.Tryz.func470, by kernel_rfl, by kernel_rfl⟩
theorem wf477 : FnIs 477 fi477 := ⟨Go.Proofs.Tryz.f477, Go.Proofs.Tryz.func477, by kernel_rfl, by kernel_rfl⟩
theorem wf490 : FnIs 490 fi490 := ⟨Go.Proofs.Tryz.f490, Go.Proofs.Tryz.func490, by kernel_rfl, by kernel_rfl⟩
theorem wf511 : FnIs 511 fi511 := ⟨Go.Proofs.Tryz.f511, Go.Proofs.Tryz.func511, by kernel_rfl, by kernel_rfl⟩
theorem wf522 : FnIs 522 fi522 := ⟨Go.Proofs.Tryz.f522, Go.Proofs.Tryz.func522, by kernel_rfl, by kernel_rfl⟩
theorem wf526 : FnIs 526 fi526 := ⟨Go.Proofs.Tryz.f526, Go.Proofs.Tryz.func526, by kernel_rfl, by kernel_rfl⟩
theorem wf532 : FnIs 532 fi532 := ⟨Go.Proofs.Tryz.f532, Go.Proofs.Tryz.func532, by kernel_rfl, by kernel_rfl⟩
theorem wf546 : FnIs 546 fi546 := ⟨Go.Proofs.Tryz.f546, Go.Proofs.Tryz.func546, by kernel_rfl, by kernel_rfl⟩
theorem wf557 : FnIs 557 fi557 := ⟨Go.Proofs.Tryz.f557, Go.Proofs.Tryz.func557, by kernel_rfl, by kernel_rfl⟩
theorem wf566 : FnIs 566 fi566 := ⟨Go.Proofs.Tryz.f566, Go.Proofs.Tryz.func566, by kernel_rfl, by kernel_rfl⟩
theorem wf571 : FnIs 571 fi571 := ⟨Go.Proofs.Tryz.f571, Go.Proofs.Tryz.func571, by kernel_rfl, by kernel_rfl⟩
theorem wf584 : FnIs 584 fi584 := ⟨Go.Proofs.Tryz.f584, Go.Proofs.Tryz.func584, by kernel_rfl, by kernel_rfl⟩
theorem wf593 : FnIs 593 fi593 := ⟨Go.Proofs.Tryz.f593, Go.Proofs.Tryz.func593, by kernel_rfl, by kernel_rfl⟩
theorem wf599 : FnIs 599 fi599 := ⟨Go.Proofs.Tryz.f599, Go.Proofs.Tryz.func599, by kernel_rfl, by kernel_rfl⟩
theorem wf615 : FnIs 615 fi615 := ⟨Go.Proofs.Tryz.f615, Go.Proofs.Tryz.func615, by kernel_rfl, by kernel_rfl⟩
theorem wf619 : FnIs 619 fi619 := ⟨Go.Proofs.Tryz.f619, Go.Proofs.Tryz.func619, by kernel_rfl, by kernel_rfl⟩
theorem wf631 : FnIs 631 fi631 := ⟨Go.Proofs.Tryz.f631, Go.Proofs.Tryz.func631, by kernel_rfl, by kernel_rfl⟩
end Go.Ab
end

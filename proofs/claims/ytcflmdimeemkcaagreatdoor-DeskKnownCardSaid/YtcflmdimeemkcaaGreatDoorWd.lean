/-
  A part of the proof of the card of DeskKnown (the whole is said in the last text). No condition of its own beyond those that its theorems state.
-/
import Derived.Test.YtcflmdimeemkcaaGreatDoorWa
import Derived.KernelRfl
set_option autoImplicit true
set_option relaxedAutoImplicit true
set_option linter.unusedVariables false
set_option linter.unusedSimpArgs false
set_option linter.unusedSectionVars false
section
namespace Go.Ab
open Go.Proofs
theorem wf5 : FnIs 5 fi5 := ⟨Tryz.f5, Tryz.func5, by kernel_rfl, by kernel_rfl⟩
theorem wf9 : FnIs 9 fi9 := ⟨Tryz.f9, Tryz.func9, by kernel_rfl, by kernel_rfl⟩
theorem wf13 : FnIs 13 fi13 := ⟨Tryz.f13, Tryz.func13, by kernel_rfl, by kernel_rfl⟩
theorem wf17 : FnIs 17 fi17 := ⟨Tryz.f17, Tryz.func17, by kernel_rfl, by kernel_rfl⟩
theorem wf22 : FnIs 22 fi22 := ⟨Tryz.f22, Tryz.func22, by kernel_rfl, by kernel_rfl⟩
theorem wf27 : FnIs 27 fi27 := ⟨Tryz.f27, Tryz.func27, by kernel_rfl, by kernel_rfl⟩
theorem wf35 : FnIs 35 fi35 := ⟨Tryz.f35, Tryz.func35, by kernel_rfl, by kernel_rfl⟩
theorem wf39 : FnIs 39 fi39 := ⟨Tryz.f39, Tryz.func39, by kernel_rfl, by kernel_rfl⟩
theorem wf44 : FnIs 44 fi44 := ⟨Tryz.f44, Tryz.func44, by kernel_rfl, by kernel_rfl⟩
theorem wf48 : FnIs 48 fi48 := ⟨Tryz.f48, Tryz.func48, by kernel_rfl, by kernel_rfl⟩
theorem wf52 : FnIs 52 fi52 := ⟨Tryz.f52, Tryz.func52, by kernel_rfl, by kernel_rfl⟩
theorem wf59 : FnIs 59 fi59 := ⟨Tryz.f59, Tryz.func59, by kernel_rfl, by kernel_rfl⟩
theorem wf63 : FnIs 63 fi63 := ⟨Tryz.f63, Tryz.func63, by kernel_rfl, by kernel_rfl⟩
theorem wf70 : FnIs 70 fi70 := ⟨Tryz.f70, Tryz.func70, by kernel_rfl, by kernel_rfl⟩
theorem wf74 : FnIs 74 fi74 := ⟨Tryz.f74, Tryz.func74, by kernel_rfl, by kernel_rfl⟩
theorem wf78 : FnIs 78 fi78 := ⟨Tryz.f78, Tryz.func78, by kernel_rfl, by kernel_rfl⟩
theorem wf82 : FnIs 82 fi82 := ⟨Tryz.f82, Tryz.func82, by kernel_rfl, by kernel_rfl⟩
theorem wf87 : FnIs 87 fi87 := ⟨Tryz.f87, Tryz.func87, by kernel_rfl, by kernel_rfl⟩
theorem wf91 : FnIs 91 fi91 := ⟨Tryz.f91, Tryz.func91, by kernel_rfl, by kernel_rfl⟩
theorem wf95 : FnIs 95 fi95 := ⟨Tryz.f95, Tryz.func95, by kernel_rfl, by kernel_rfl⟩
theorem wf103 : FnIs 103 fi103 := ⟨Tryz.f103, Tryz.func103, by kernel_rfl, by kernel_rfl⟩
theorem wf107 : FnIs 107 fi107 := ⟨Tryz.f107, Tryz.func107, by kernel_rfl, by kernel_rfl⟩
theorem wf111 : FnIs 111 fi111 := ⟨Tryz.f111, Tryz.func111, by kernel_rfl, by kernel_rfl⟩
theorem wf116 : FnIs 116 fi116 := ⟨Tryz.f116, Tryz.func116, by kernel_rfl, by kernel_rfl⟩
theorem wf120 : FnIs 120 fi120 := ⟨Tryz.f120, Tryz.func120, by kernel_rfl, by kernel_rfl⟩
theorem wf128 : FnIs 128 fi128 := ⟨Tryz.f128, Tryz.func128, by kernel_rfl, by kernel_rfl⟩
theorem wf132 : FnIs 132 fi132 := ⟨Tryz.f132, Tryz.func132, by kernel_rfl, by kernel_rfl⟩
theorem wf139 : FnIs 139 fi139 := ⟨Tryz.f139, Tryz.func139, by kernel_rfl, by kernel_rfl⟩
theorem wf143 : FnIs 143 fi143 := ⟨Tryz.f143, Tryz.func143, by kernel_rfl, by kernel_rfl⟩
theorem wf148 : FnIs 148 fi148 := ⟨Tryz.f148, Tryz.func148, by kernel_rfl, by kernel_rfl⟩
theorem wf153 : FnIs 153 fi153 := ⟨Tryz.f153, Tryz.func153, by kernel_rfl, by kernel_rfl⟩
theorem wf160 : FnIs 160 fi160 := ⟨Tryz.f160, Tryz.func160, by kernel_rfl, by kernel_rfl⟩
theorem wf178 : FnIs 178 fi178 := ⟨Tryz.f178, Tryz.func178, by kernel_rfl, by kernel_rfl⟩
theorem wf204 : FnIs 204 fi204 := ⟨Tryz.f204, Tryz.func204, by kernel_rfl, by kernel_rfl⟩
theorem wf215 : FnIs 215 fi215 := ⟨Tryz.f215, Tryz.func215, by kernel_rfl, by kernel_rfl⟩
theorem wf223 : FnIs 223 fi223 := ⟨Tryz.f223, Tryz.func223, by kernel_rfl, by kernel_rfl⟩
theorem wf234 : FnIs 234 fi234 := ⟨Tryz.f234, Tryz.func234, by kernel_rfl, by kernel_rfl⟩
theorem wf239 : FnIs 239 fi239 := ⟨Tryz.f239, Tryz.func239, by kernel_rfl, by kernel_rfl⟩
theorem wf247 : FnIs 247 fi247 := ⟨Tryz.f247, Tryz.func247, by kernel_rfl, by kernel_rfl⟩
theorem wf256 : FnIs 256 fi256 := ⟨Tryz.f256, Tryz.func256, by kernel_rfl, by kernel_rfl⟩
theorem wf260 : FnIs 260 fi260 := ⟨Tryz.f260, Tryz.func260, by kernel_rfl, by kernel_rfl⟩
theorem wf265 : FnIs 265 fi265 := ⟨Tryz.f265, Tryz.func265, by kernel_rfl, by kernel_rfl⟩
theorem wf270 : FnIs 270 fi270 := ⟨Tryz.f270, Tryz.func270, by kernel_rfl, by kernel_rfl⟩
theorem wf276 : FnIs 276 fi276 := ⟨Tryz.f276, Tryz.func276, by kernel_rfl, by kernel_rfl⟩
theorem wf284 : FnIs 284 fi284 := ⟨Tryz.f284, Tryz.func284, by kernel_rfl, by kernel_rfl⟩
theorem wf288 : FnIs 288 fi288 := ⟨Tryz.f288, Tryz.func288, by kernel_rfl, by kernel_rfl⟩
theorem wf292 : FnIs 292 fi292 := ⟨Tryz.f292, Tryz.func292, by kernel_rfl, by kernel_rfl⟩
theorem wf301 : FnIs 301 fi301 := ⟨Tryz.f301, Tryz.func301, by kernel_rfl, by kernel_rfl⟩
theorem wf306 : FnIs 306 fi306 := ⟨Tryz.f306, Tryz.func306, by kernel_rfl, by kernel_rfl⟩
theorem wf331 : FnIs 331 fi331 := ⟨Tryz.f331, Tryz.func331, by kernel_rfl, by kernel_rfl⟩
theorem wf348 : FnIs 348 fi348 := ⟨Tryz.f348, Tryz.func348, by kernel_rfl, by kernel_rfl⟩
theorem wf353 : FnIs 353 fi353 := ⟨Tryz.f353, Tryz.func353, by kernel_rfl, by kernel_rfl⟩
theorem wf363 : FnIs 363 fi363 := ⟨Tryz.f363, Tryz.func363, by kernel_rfl, by kernel_rfl⟩
theorem wf374 : FnIs 374 fi374 := ⟨Tryz.f374, Tryz.func374, by kernel_rfl, by kernel_rfl⟩
theorem wf382 : FnIs 382 fi382 := ⟨Tryz.f382, Tryz.func382, by kernel_rfl, by kernel_rfl⟩
theorem wf399 : FnIs 399 fi399 := ⟨Tryz.f399, Tryz.func399, by kernel_rfl, by kernel_rfl⟩
theorem wf404 : FnIs 404 fi404 := ⟨Tryz.f404, Tryz.func404, by kernel_rfl, by kernel_rfl⟩
theorem wf408 : FnIs 408 fi408 := ⟨Tryz.f408, Tryz.func408, by kernel_rfl, by kernel_rfl⟩
theorem wf413 : FnIs 413 fi413 := ⟨Tryz.f413, Tryz.func413, by kernel_rfl, by kernel_rfl⟩
theorem wf421 : FnIs 421 fi421 := ⟨Tryz.f421, Tryz.func421, by kernel_rfl, by kernel_rfl⟩
theorem wf444 : FnIs 444 fi444 := ⟨Tryz.f444, Tryz.func444, by kernel_rfl, by kernel_rfl⟩
theorem wf448 : FnIs 448 fi448 := ⟨Tryz.f448, Tryz.func448, by kernel_rfl, by kernel_rfl⟩
theorem wf469 : FnIs 469 fi469 := ⟨Tryz.f469, Tryz.func469, by kernel_rfl, by kernel_rfl⟩
theorem wf475 : FnIs 475 fi475 := ⟨Tryz.f475, Tryz.func475, by kernel_rfl, by kernel_rfl⟩
theorem wf483 : FnIs 483 fi483 := ⟨Tryz.f483, Tryz.func483, by kernel_rfl, by kernel_rfl⟩
theorem wf497 : FnIs 497 fi497 := ⟨Tryz.f497, Tryz.func497, by kernel_rfl, by kernel_rfl⟩
theorem wf518 : FnIs 518 fi518 := ⟨Tryz.f518, Tryz.func518, by kernel_rfl, by kernel_rfl⟩
theorem wf523 : FnIs 523 fi523 := ⟨Tryz.f523, Tryz.func523, by kernel_rfl, by kernel_rfl⟩
theorem wf527 : FnIs 527 fi527 := ⟨Tryz.f527, Tryz.func527, by kernel_rfl, by kernel_rfl⟩
theorem wf531 : FnIs 531 fi531 := ⟨Tryz.f531, Tryz.func531, by kernel_rfl, by kernel_rfl⟩
theorem wf535 : FnIs 535 fi535 := ⟨Tryz.f535, Tryz.func535, by kernel_rfl, by kernel_rfl⟩
theorem wf547 : FnIs 547 fi547 := ⟨Tryz.f547, Tryz.func547, by kernel_rfl, by kernel_rfl⟩
theorem wf558 : FnIs 558 fi558 := ⟨Tryz.f558, Tryz.func558, by kernel_rfl, by kernel_rfl⟩
theorem wf567 : FnIs 567 fi567 := ⟨Tryz.f567, Tryz.func567, by kernel_rfl, by kernel_rfl⟩
theorem wf572 : FnIs 572 fi572 := ⟨Tryz.f572, Tryz.func572, by kernel_rfl, by kernel_rfl⟩
theorem wf584 : FnIs 584 fi584 := ⟨Tryz.f584, Tryz.func584, by kernel_rfl, by kernel_rfl⟩
theorem wf593 : FnIs 593 fi593 := ⟨Tryz.f593, Tryz.func593, by kernel_rfl, by kernel_rfl⟩
theorem wf599 : FnIs 599 fi599 := ⟨Tryz.f599, Tryz.func599, by kernel_rfl, by kernel_rfl⟩
theorem wf611 : FnIs 611 fi611 := ⟨Tryz.f611, Tryz.func611, by kernel_rfl, by kernel_rfl⟩
theorem wf618 : FnIs 618 fi618 := ⟨Tryz.f618, Tryz.func618, by kernel_rfl, by kernel_rfl⟩
theorem wf623 : FnIs 623 fi623 := ⟨Tryz.f623, Tryz.func623, by kernel_rfl, by kernel_rfl⟩
end Go.Ab
end

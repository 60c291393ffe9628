/-
  A part of the proof of the card of DeskKnown (the whole is said in the last text). No condition of its own beyond those that its theorems state.
-/
import Derived.Test.YtcflmdimeemkcaaGreatDoorLb
import Derived.Test.YtcflmdimeemkcaaGreatDoorLc
import Derived.Test.YtcflmdimeemkcaaGreatDoorLd
import Derived.Test.YtcflmdimeemkcaaGreatDoorLe
import Derived.Test.YtcflmdimeemkcaaGreatDoorCg
import Derived.ChangeMaps5
set_option autoImplicit true
set_option relaxedAutoImplicit true
set_option linter.unusedVariables false
set_option linter.unusedSimpArgs false
set_option linter.unusedSectionVars false
section
namespace Go.Proofs.YtcflmdimeemkcaaGreatDoor
open Go.ChangeShapes Go.WideShapes Go.ChangeAt Go.WideMaps Go.WideElems Go.RowKit Go.Ab Go.Lib
set_option maxRecDepth 100000
theorem own : ownKnob Tryz.prog.godebug = none := by kernel_rfl
theorem laid_met (os : Os) (args : Array Value) : laidMetH Tryz.prog Rows.deskKnownRow.laid (laidMem os args) :=
  laidMetH_of_parts3 (fuel := 8) (by
    have h := ((LaidIn.of_run (P := Tryz.prog) (w := laidMem os args) [4] 8 (wa1 os args) (wb1 os args) (wc1 os args) (wd1 os args)).append (LaidIn.of_run [1] 8 (wa2 os args) (wb2 os args) (wc2 os args) (wd2 os args)) (by decide)).append
      (LaidIn.of_run [2, 6, 7, 5, 9, 8, 10, 11, 12, 13, 14, 15, 16, 17, 18] 8 (wa3 os args) (wb3 os args) (wc3 os args) (wd3 os args)) (by decide)
    have e : (Rows.deskKnownRow.laid.filter fun x => x.2.handleName?.isNone) = part1 ++ part2 ++ part3 := laidD_eq
    rw [e]; exact h.met) (wl3 os args) (wl4 os args)
theorem kept_but {W W' : World} (h : Kept W W') (may : MemPlace → Prop) : W.keptBut W' may :=
  have r := World.keptBut_refl W may
  ⟨h.1.trans r.1, h.2.1.trans r.2.1, fun i hi => by rw [h.2.2.2 i hi]; exact r.2.2 i hi⟩
theorem law_lifted (os : Os) (started : os.Started) (H : Type) (enc : TypeId × Value → H) :
    ReturnsInHanded {} Tryz.checked os 3 .any (fun w args => (Rows.deskKnownSpec.pre enc Tryz.prog Tryz.f3 [] false w args ∧ laidMetH Tryz.prog Rows.deskKnownRow.laid w) ∧ sizedMet enc Tryz.prog Tryz.f3 (OpenSpec.ofChange Rows.deskKnownSpec) false w args)
      (Rows.deskKnownSpec.post enc Tryz.prog Tryz.f3 false true false false) := by
  refine returnsInHanded_of_change_and (C := Tryz.checked) (X := fun w _ => laidMetH Tryz.prog Rows.deskKnownRow.laid w) (fun _ _ _ hh h => h.of_heap hh) own started (by kernel_rfl) Tryz.func3
    (ChangeSpec.witness_shaped (enc := enc) (C := Tryz.checked) (os := os) (X := fun w _ => laidMetH Tryz.prog Rows.deskKnownRow.laid w) false (laidWorld os) #[] 8 rfl (World.shaped_of_RefB (ws1 os _) (ws2 os _)) (by kernel_rfl) (by kernel_rfl) (by kernel_rfl) (laid_met os _)) ?_
  intro W base args ds gs before hval0 hW _ _ hL _
  have hval : ∀ (j : Nat) t v, Tryz.f3.params[j]? = some t → args[j]? = some v → Value.okWide Tryz.prog W .any base t v := hval0
  have hW' := hW
  obtain ⟨p, q, hA0, hV, rfl, hfz, hnd⟩ := hW
  have hA : DataW.TrodAll enc Tryz.prog W 0 (fun _ => true) true Tryz.f3.params.toList args.toList ds p := hA0
  rw [Tryz.params3] at hA hval
  obtain ⟨ha, rfl, rfl⟩ := trodAll_nil hA
  have ha' : args = #[] := Array.ext' (by simpa using ha)
  subst ha'
  obtain ⟨rfl, rfl⟩ := trodVars_none hV
  clear hA0 hval0
  have e1 : Rows.deskKnownSpec.fn H ([] ++ []) = { results := [.lit (.bool true)], args := [] } := by simp [Rows.deskKnownSpec]
  refine (known_calls (laid0_of hL)).mono fun e W' ⟨he, hk⟩ => ?_
  subst he
  refine ⟨_, rfl, _, _, _, [], [], [], hW', ?_, ?_, ?_, kept_but hk _, fun h => ?_⟩
  · rw [e1]; exact trodAll_mk1 (shut_bool Tryz.underlying4 true)
  · rw [e1, Tryz.params3]; simp [DataW.TrodAll]
  · rw [e1]; rfl
  · cases h
theorem fname : Tryz.pinned.checked.prog.funcNamed Rows.deskKnownRow.func = some 3 := by kernel_rfl
theorem noInit : Tryz.checked.prog.inits.idxOf? 3 = none := by kernel_rfl
theorem deskKnown_holds : Rows.DeskKnownSaid :=
  OpenClaim.holds_of_wide 3 Tryz.f3 rfl rfl rfl rfl rfl rfl rfl ⟨rfl, rfl, rfl, rfl, rfl⟩ rfl rfl rfl rfl rfl fname Tryz.func3 facts
    (of_decide_eq_true (by kernel_rfl)) (by unfold Func.isWrapper; first | (rw [if_pos (by decide +kernel)]; kernel_rfl) | (rw [if_neg (by decide +kernel)]; exact ⟨rfl, rfl⟩))
    (fun os started H enc _ => law_lifted os started H enc)
#print axioms deskKnown_holds
end Go.Proofs.YtcflmdimeemkcaaGreatDoor
end

/-
  A part of the proof of the card of DeskKnown (the whole is said in the last text). No condition of its own beyond those that its theorems state.
-/
import Derived.Test.YtcflmdimeemkcaaGreatDoorProg
import Derived.Shelf.Spec.SlicesInsert
import Derived.WalkKit
import Derived.Lib.Overlaps
set_option autoImplicit true
set_option relaxedAutoImplicit true
set_option linter.unusedVariables false
set_option linter.unusedSimpArgs false
set_option linter.unusedSectionVars false
section
namespace Go.Proofs.YtcflmdimeemkcaaGreatDoor
open Go.Shelf Go.RowKit Go.Lib
set_option maxHeartbeats 4000000 in
set_option maxRecDepth 100000 in
/-- slices.Insert of one at the front of one, there is room: in place -/
theorem ins_shift (b off c vb voff vc : Nat) (w w1 w2 : World) (v1 v2 : Value) (hc2 : 2 ≤ c)
    (hov : ∀ lb cb, (callFunc 273 #[.slice (some ⟨vb, voff, none⟩) 1 vc, .slice (some ⟨b, off + 2, none⟩) lb cb]).run Tryz.prog w = .ok (.value (.bool false)) w)
    (hcp1 : ∀ ty, (Builtin.copy_ #[309, 309] ty #[.slice (some ⟨b, off + 2, none⟩) 1 (c - 1), .slice (some ⟨b, off, none⟩) 2 c]).run Tryz.prog w.drew = .ok v1 w1)
    (hcp2 : ∀ ty, (Builtin.copy_ #[309, 309] ty #[.slice (some ⟨b, off, none⟩) 2 c, .slice (some ⟨vb, voff, none⟩) 1 vc]).run Tryz.prog w1 = .ok v2 w2) :
    Calls Tryz.prog 131 #[.slice (some ⟨b, off, none⟩) 1 c, .int .i64 0, .slice (some ⟨vb, voff, none⟩) 1 vc] w fun e w' =>
      e = .returned (.slice (some ⟨b, off, none⟩) 2 c) ∧ w' = w2 := by
  have u309 := run_underlying Tryz.underlying309 (P := Tryz.prog)
  have hz3 : ¬ ((c : Int) < 2) := by omega
  have hz4 : ¬ (c < 2) := by omega
  have hb2 : ¬ (c = 1) := by omega
  have hb3 : ¬ (c = 0) := by omega
  have hw1 : IntKind.i64.wrap 1 = 1 := by rw [IntKind.wrap_i64]; omega
  have htn : (1 : Int).toNat = 1 := rfl
  have hle1 : (0 : Int) ≤ 1 := by omega
  have hle2 : (1 : Int) ≤ 2 := by omega
  have mixed : Tryz.prog.follows .mixedOrders = true := by kernel_rfl
  go_enter Tryz.func131, Tryz.ntmps131
  go_wp2_with (simp only [hov])
  go_region_law_o (refine step_copy_runI rfl _ _ 309 309 rfl _ _ (by simp [Act.eval, Act.put]) (by simp [Act.eval, Act.put]) (hcp1 _) ?_)
  go_wp2_with (at_builtin; refine wpList_copy_runI _ rfl _ _ 309 309 rfl _ _ rfl rfl (hcp2 _) ?_)
  go_ret
  exact ⟨rfl, rfl⟩
end Go.Proofs.YtcflmdimeemkcaaGreatDoor
end

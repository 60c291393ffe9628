/-
  A part of the proof of the card of DeskLong (the whole is said in the last text). No condition of its own beyond those that its theorems state.
-/
import Derived.Test.YtmikcgefgodipaaGreatDoorProg
import Derived.WalkKit
import Derived.Test.YtmikcgefgodipaaGreatDoorJa
import Derived.Laws.Concat
set_option autoImplicit true
set_option relaxedAutoImplicit true
set_option linter.unusedVariables false
set_option linter.unusedSimpArgs false
set_option linter.unusedSectionVars false
section
namespace Go.Proofs.YtmikcgefgodipaaGreatDoor
open Go.RowKit

/-- desk.Run of a script that is too long. -/
theorem run_long (s : ByteArray) (w : World) (hs : 65536 < s.size) : Calls Tryz.prog 5 #[.string s] w fun e w' => e = .returned (.tuple #[.slice none 0 0, .int .i64 3]) ∧ w' = w := by
  go_enter Tryz.func5, Tryz.ntmps5
  go_wp2
  go_ret2
  exact ⟨rfl, rfl⟩
end Go.Proofs.YtmikcgefgodipaaGreatDoor
end
section
namespace Go.Proofs.YtmikcgefgodipaaGreatDoor
open Go.RowKit Go.Ab

def szOf : Value → Nat
  | .string b => b.size
  | _ => 0
def Kept (W W' : World) : Prop := W'.os = W.os ∧ W'.output = W.output ∧ W.heap.size ≤ W'.heap.size ∧ ∀ r, r < W.heap.size → W'.heap[r]? = W.heap[r]?

set_option maxHeartbeats 4000000 in
set_option maxRecDepth 1000000 in
theorem desk_great (s : ByteArray) (W : World) (h : Laid0 W) (hs : 300 < s.size) : Calls Tryz.prog 3 #[.string s] W fun e W' => e = .returned (.bool true) ∧ Kept W W' := by
  go_enter Tryz.func3, Tryz.ntmps3
  go_wp2_with (first | (go_at_call 4; refine (wakes_calls h).mono ?_; rintro e w' ⟨rfl, hk⟩))
  go_ret
  exact ⟨rfl, hk⟩

set_option maxHeartbeats 4000000 in
set_option maxRecDepth 1000000 in
theorem desk_small (s : ByteArray) (W : World) (h : Laid0 W) (hs : s.size ≤ 300) : Calls Tryz.prog 3 #[.string s] W fun e W' => e = .returned (.bool true) ∧ Kept W W' := by
  go_enter Tryz.func3, Tryz.ntmps3
  go_wp2
  go_loop [3] (fun r => ∃ b : ByteArray, r = .string b ∧ b.size ≤ 200000) (fun r => 65537 - szOf r)
  case atStart => exact ⟨_, rfl, by decide⟩
  case round =>
    obtain ⟨b, rfl, hb⟩ := hrel
    have hsh : (ByteArray.mk #[35]).size = 1 := rfl
    have h1 := run_string_add_sum (P := Tryz.prog) W b ⟨#[35]⟩ (by omega)
    have z1 : (b ++ ByteArray.mk #[35]).size = b.size + 1 := by rw [ByteArray.size_append]; rfl
    have h2 := run_string_add_sum (P := Tryz.prog) W (b ++ ⟨#[35]⟩) s (by omega)
    have z2 : (b ++ ByteArray.mk #[35] ++ s).size = b.size + 1 + s.size := by rw [ByteArray.size_append, z1]
    have h3 := run_string_add_sum (P := Tryz.prog) W (b ++ ⟨#[35]⟩ ++ s) b (by omega)
    have z3 : (b ++ ByteArray.mk #[35] ++ s ++ b).size = b.size + 1 + s.size + b.size := by rw [ByteArray.size_append, z2]
    go_wp2_with (first | (go_at_call 5; refine (run_long b _ (by omega)).mono ?_; rintro e w' ⟨rfl, rfl⟩) | (go_at_call 4; refine (wakes_calls h).mono ?_; rintro e w' ⟨rfl, hk⟩))
    · refine ⟨⟨_, rfl, by rw [z3]; omega⟩, ?_⟩
      show 65537 - (b ++ ByteArray.mk #[35] ++ s ++ b).size < 65537 - b.size
      rw [z3]; omega
    · go_ret
      exact ⟨rfl, hk⟩

theorem desk_calls (s : ByteArray) (W : World) (h : Laid0 W) : Calls Tryz.prog 3 #[.string s] W fun e W' => e = .returned (.bool true) ∧ Kept W W' := by
  by_cases hs : 300 < s.size
  · exact desk_great s W h hs
  · exact desk_small s W h (by omega)
end Go.Proofs.YtmikcgefgodipaaGreatDoor
end

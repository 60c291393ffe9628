/-
  A part of the proof of the card of DeskKnown (the whole is said in the last text). No condition of its own beyond those that its theorems state.
-/
import Derived.Test.YtcflmdimeemkcaaGreatDoorRa
import Derived.KernelRfl
set_option autoImplicit true
set_option relaxedAutoImplicit true
set_option linter.unusedVariables false
set_option linter.unusedSimpArgs false
set_option linter.unusedSectionVars false
section
namespace Go.Ab
set_option maxRecDepth 100000
/-! ### DeskKnown itself: what desk.Run answers is known -/
noncomputable def outK (rs : List Value) (h : Hp) (k : KV) : Bool :=
  Bool.rec (putChunks (rs.map fun v => [v]) 0 .lf (fun t => h.newC ⟨t, rs.length, 1, 9, none⟩ (fun n h' => k (.tuple ⟨[.slice (some ⟨n, 0, none⟩) rs.length (Nat.mul 2 rs.length), .int .i64 (.ofNat 0)]⟩) h')))
    (k (.tuple ⟨[.slice none 0 0, .int .i64 (.ofNat 0)]⟩) h) (Nat.beq rs.length 0)
noncomputable def xRun (args : List Value) (h : Hp) (k : KV) : Bool := match args with
  | [.string ⟨⟨l⟩⟩] => Bool.rec (Bool.rec (Bool.rec (Bool.rec (Bool.rec (ff 370) (outK rs4 h k) (bytesEq l sc4)) (outK rs3 h k) (bytesEq l sc3)) (outK rs2 h k) (bytesEq l sc2)) (outK rs1 h k) (bytesEq l sc1)) (outK rs0 h k) (bytesEq l sc0)
  | _ => ff 371
noncomputable def ext2 : Nat → Option (List Value → Hp → KV → Bool) := fun f => Bool.rec none (some xRun) (Nat.beq f 4)
noncomputable def fiT2 (f : Nat) : Option FI := Bool.rec (Bool.rec (Bool.rec none (some fi6) (Nat.beq f 6)) (some fi5) (Nat.beq f 5)) (some fi3) (Nat.beq f 3)
noncomputable def T2 : Tab := ⟨ext2, fiT2⟩
noncomputable def hE : Hp := ⟨.nil, .lf, .lf, yb, 0, 0⟩
noncomputable def endB : KV := fun v _ => vBool v (fun b => b) (ff 372)
end Go.Ab
end
section
namespace Go.Ab
set_option maxRecDepth 1000000
theorem known_ok : fCall T2 60 (.fn 3) [] hE endB = true := by kernel_rfl
end Go.Ab
end

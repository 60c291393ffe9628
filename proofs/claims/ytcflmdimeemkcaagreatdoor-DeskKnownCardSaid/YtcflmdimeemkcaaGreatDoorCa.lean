/-
  A part of the proof of the card of DeskKnown (the whole is said in the last text). No condition of its own beyond those that its theorems state.
-/
import GoSem.ClaimDataLaid
import GoSem.ClaimJoined
set_option autoImplicit true
set_option relaxedAutoImplicit true
set_option linter.unusedVariables false
set_option linter.unusedSimpArgs false
set_option linter.unusedSectionVars false
section
namespace Go.Ab
/-! ### closed facts of a great program, reckoned in a form that the kernel bears -/
noncomputable def forceN (n : Nat) (k : Nat → List Nat) : List Nat := Nat.rec (k 0) (fun m _ => k (Nat.succ m)) n
theorem forceN_eq (n : Nat) (k : Nat → List Nat) : forceN n k = k n := by cases n <;> rfl
noncomputable def mrun (nx : Nat → List Nat) : Nat → List Nat → List Nat → Nat → List Nat :=
  Nat.rec (fun _ seen _ => seen.reverse) (fun _ ih todo seen mask => List.rec seen.reverse (fun f todo _ => Bool.rec (forceN (Nat.lor mask (Nat.shiftLeft 1 f)) (fun m => ih (nx f ++ todo) (f :: seen) m)) (ih todo seen mask) (Nat.beq (Nat.land (Nat.shiftRight mask f) 1) 1)) todo)
theorem bit_eq (m f : Nat) : Nat.beq (Nat.land (Nat.shiftRight m f) 1) 1 = m.testBit f := by
  rw [Nat.testBit]
  have h : Nat.land (Nat.shiftRight m f) 1 = (m >>> f) &&& 1 := rfl
  rw [h, Nat.and_comm]
  have h1 : 1 &&& (m >>> f) = (m >>> f) % 2 := by rw [Nat.and_comm, Nat.and_one_is_mod]
  rw [h1]
  rcases Nat.mod_two_eq_zero_or_one (m >>> f) with h2 | h2 <;> rw [h2] <;> rfl
theorem closureVia_mask {P : Program} : ∀ (n : Nat) (todo seen : List Nat) (mask : Nat), (∀ x, seen.contains x = mask.testBit x) → P.closureVia n todo seen = mrun (fun f => (P.funcs[f]?).elim [] P.leadsTo) n todo seen mask
  | 0, _, _, _, _ => by rw [Program.closureVia]; rfl
  | n + 1, [], seen, _, _ => by show P.closureVia (n + 1) [] seen = seen.reverse; simp [Program.closureVia]
  | n + 1, f :: todo, seen, mask, h => by
    rw [Program.closureVia]
    show _ = (Bool.rec (forceN (Nat.lor mask (Nat.shiftLeft 1 f)) (fun m => mrun _ n ((P.funcs[f]?).elim [] P.leadsTo ++ todo) (f :: seen) m)) (mrun _ n todo seen mask) (Nat.beq (Nat.land (Nat.shiftRight mask f) 1) 1) : List Nat)
    rw [bit_eq, ← h f]
    cases hc : seen.contains f with
    | true => rw [if_pos rfl]; exact closureVia_mask n todo seen mask h
    | false =>
      rw [if_neg (by simp)]
      show _ = forceN (Nat.lor mask (Nat.shiftLeft 1 f)) _
      rw [forceN_eq]
      refine closureVia_mask n _ _ _ fun x => ?_
      have h1 : Nat.lor mask (Nat.shiftLeft 1 f) = mask ||| (1 <<< f) := rfl
      rw [h1, Nat.testBit_or, ← h x, Nat.one_shiftLeft, Nat.testBit_two_pow]
      rw [List.contains_cons, Bool.or_comm]
      congr 1
      rw [Bool.eq_iff_iff, beq_iff_eq, decide_eq_true_eq]
      exact eq_comm
theorem closure_by {P : Program} {f : Nat} {L : List Nat} (h : mrun (fun f => (P.funcs[f]?).elim [] P.leadsTo) (1 + (P.funcs.toList.map fun g => (P.leadsTo g).length + 1).sum) [f] [] 0 = L) : P.closure f = L := by
  unfold Program.closure
  rw [closureVia_mask _ _ _ 0 (by intro x; rw [Nat.zero_testBit]; rfl), h]
/-- all below a bound, a piece at a time -/
theorem range_all {p : Nat → Bool} {n : Nat} (h : ∀ i, i < n → p i = true) : (List.range n).all p = true := by
  rw [List.all_eq_true]; intro x hx; exact h x (List.mem_range.1 hx)
theorem piece {p : Nat → Bool} {a m : Nat} (h : ((List.range m).all fun i => p (a + i)) = true) : ∀ i, a ≤ i → i < a + m → p i = true := by
  intro i h1 h2
  have := List.all_eq_true.1 h (i - a) (List.mem_range.2 (by omega))
  rw [show a + (i - a) = i by omega] at this
  exact this
end Go.Ab
end

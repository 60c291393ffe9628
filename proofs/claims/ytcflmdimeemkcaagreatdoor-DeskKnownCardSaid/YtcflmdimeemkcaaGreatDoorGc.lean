/-
  A part of the proof of the card of DeskKnown (the whole is said in the last text). No condition of its own beyond those that its theorems state.
-/
import Derived.Test.YtcflmdimeemkcaaGreatDoorGb
import Derived.Laws.Cover3
set_option autoImplicit true
set_option relaxedAutoImplicit true
set_option linter.unusedVariables false
set_option linter.unusedSimpArgs false
set_option linter.unusedSectionVars false
section
namespace Go.Ab
variable {X : Cx} {m m' : M} {h h' : Hp} {w w' : World} {P : Program}
/-! ### whole numbers -/
theorem wrap_neg (B H : Int) (h2 : B = 2 * H) (a : Nat) (ha : (a : Int) + 1 ≤ H) : (-((a : Int) + 1)) % B ≥ H ∧ (-((a : Int) + 1)) % B - B = -((a : Int) + 1) := by
  have h1 : (-((a : Int) + 1)) % B = B - (a + 1) := by
    rw [← Int.add_emod_right, Int.emod_eq_of_lt (by omega) (by omega)]; omega
  rw [h1]; omega
theorem wr_eq (k : IntKind) (n : Int) : wr k n = k.wrap n := by
  cases n with
  | ofNat a =>
    show (Bool.rec (k.wrap (.ofNat a)) (.ofNat a) (Nat.ble (Nat.succ a) (half k)) : Int) = _
    cases hb : Nat.ble (Nat.succ a) (half k) with
    | false => rfl
    | true =>
      have hb := ble_iff.1 hb
      show Int.ofNat a = _
      have e : (Int.ofNat a) = (a : Int) := rfl
      rw [e]
      cases k <;> simp [IntKind.wrap, IntKind.bits, IntKind.signed, half] at hb ⊢ <;> omega
  | negSucc a =>
    show (Bool.rec (k.wrap (.negSucc a)) (Bool.rec (k.wrap (.negSucc a)) (.negSucc a) (Nat.ble (Nat.succ a) (half k))) (sgn k) : Int) = _
    cases hg : sgn k with
    | false => rfl
    | true =>
      cases hb : Nat.ble (Nat.succ a) (half k) with
      | false => rfl
      | true =>
        have hb := ble_iff.1 hb
        show Int.negSucc a = _
        rw [Int.negSucc_eq]
        cases k with
        | i8 =>
          have hb : a + 1 ≤ 128 := hb
          obtain ⟨e1, e2⟩ := wrap_neg (2 ^ 8) (2 ^ (8 - 1)) (by decide) a (by rw [show (2 : Int) ^ (8 - 1) = 128 by decide]; omega)
          have e3 : ∀ n : Int, IntKind.i8.wrap n = if (true && decide (n % 2 ^ 8 ≥ 2 ^ (8 - 1))) = true then n % 2 ^ 8 - 2 ^ 8 else n % 2 ^ 8 := fun n => rfl
          rw [e3, if_pos (by rw [Bool.true_and]; exact decide_eq_true e1), e2]
        | i16 =>
          have hb : a + 1 ≤ 32768 := hb
          obtain ⟨e1, e2⟩ := wrap_neg (2 ^ 16) (2 ^ (16 - 1)) (by decide) a (by rw [show (2 : Int) ^ (16 - 1) = 32768 by decide]; omega)
          have e3 : ∀ n : Int, IntKind.i16.wrap n = if (true && decide (n % 2 ^ 16 ≥ 2 ^ (16 - 1))) = true then n % 2 ^ 16 - 2 ^ 16 else n % 2 ^ 16 := fun n => rfl
          rw [e3, if_pos (by rw [Bool.true_and]; exact decide_eq_true e1), e2]
        | i32 =>
          have hb : a + 1 ≤ 2147483648 := hb
          obtain ⟨e1, e2⟩ := wrap_neg (2 ^ 32) (2 ^ (32 - 1)) (by decide) a (by rw [show (2 : Int) ^ (32 - 1) = 2147483648 by decide]; omega)
          have e3 : ∀ n : Int, IntKind.i32.wrap n = if (true && decide (n % 2 ^ 32 ≥ 2 ^ (32 - 1))) = true then n % 2 ^ 32 - 2 ^ 32 else n % 2 ^ 32 := fun n => rfl
          rw [e3, if_pos (by rw [Bool.true_and]; exact decide_eq_true e1), e2]
        | i64 =>
          have hb : a + 1 ≤ 9223372036854775808 := hb
          obtain ⟨e1, e2⟩ := wrap_neg (2 ^ 64) (2 ^ (64 - 1)) (by decide) a (by rw [show (2 : Int) ^ (64 - 1) = 9223372036854775808 by decide]; omega)
          have e3 : ∀ n : Int, IntKind.i64.wrap n = if (true && decide (n % 2 ^ 64 ≥ 2 ^ (64 - 1))) = true then n % 2 ^ 64 - 2 ^ 64 else n % 2 ^ 64 := fun n => rfl
          rw [e3, if_pos (by rw [Bool.true_and]; exact decide_eq_true e1), e2]
        | _ => cases hg
theorem subN_eq (a b : Nat) : subN a b = (a : Int) - (b : Int) := by
  unfold subN
  cases hb : Nat.ble b a with
  | true => have := ble_iff.1 hb; show Int.ofNat (a - b) = _; rw [Int.ofNat_eq_natCast]; omega
  | false => have := ble_f.1 hb; show Int.negSucc (b - a - 1) = _; rw [Int.negSucc_eq]; omega
theorem iadd_eq (a b : Int) : iadd a b = a + b := by
  cases a with
  | ofNat a =>
    cases b with
    | ofNat b => rfl
    | negSucc b => show subN a (b + 1) = _; rw [subN_eq, Int.negSucc_eq, Int.ofNat_eq_natCast]; omega
  | negSucc a =>
    cases b with
    | ofNat b => show subN b (a + 1) = _; rw [subN_eq, Int.negSucc_eq, Int.ofNat_eq_natCast]; omega
    | negSucc b => show Int.negSucc (a + b + 1) = _; rw [Int.negSucc_eq, Int.negSucc_eq, Int.negSucc_eq]; omega
theorem isub_eq (a b : Int) : isub a b = a - b := by
  cases a with
  | ofNat a =>
    cases b with
    | ofNat b => show subN a b = _; rw [subN_eq]; rfl
    | negSucc b => show Int.ofNat (a + (b + 1)) = _; rw [Int.negSucc_eq, Int.ofNat_eq_natCast, Int.ofNat_eq_natCast]; omega
  | negSucc a =>
    cases b with
    | ofNat b => show Int.negSucc (a + b) = _; rw [Int.negSucc_eq, Int.negSucc_eq, Int.ofNat_eq_natCast]; omega
    | negSucc b => show subN b a = _; rw [subN_eq, Int.negSucc_eq, Int.negSucc_eq]; omega
theorem ilt_eq (a b : Int) : ilt a b = decide (a < b) := by
  cases a with
  | ofNat a =>
    cases b with
    | ofNat b =>
      show Nat.ble (a + 1) b = _
      rw [Bool.eq_iff_iff, ble_iff, decide_eq_true_eq, Int.ofNat_eq_natCast, Int.ofNat_eq_natCast]; omega
    | negSucc b => show false = _; rw [Int.negSucc_eq, Int.ofNat_eq_natCast]; symm; rw [decide_eq_false_iff_not]; omega
  | negSucc a =>
    cases b with
    | ofNat b => show true = _; rw [Int.negSucc_eq, Int.ofNat_eq_natCast]; symm; rw [decide_eq_true_eq]; omega
    | negSucc b =>
      show Nat.ble (b + 1) a = _
      rw [Bool.eq_iff_iff, ble_iff, decide_eq_true_eq, Int.negSucc_eq, Int.negSucc_eq]; omega
theorem bnot_eq (b : Bool) : bnot b = !b := by cases b <;> rfl
theorem ints_inv {x y : Value} {f : IntKind → Int → Int → Bool} {d : Bool} (hh : ints x y f d = true) : (∃ k a b, x = .int k a ∧ y = .int k b ∧ f k a b = true) ∨ d = true := by
  rcases vInt_inv hh with ⟨k, a, rfl, h1⟩ | h1
  · rcases vInt_inv h1 with ⟨j, b, rfl, h2⟩ | h2
    · obtain ⟨h3, h4⟩ := rec_t h2
      have := kN_inj (beq_iff.1 h3); subst this
      exact .inl ⟨k, a, b, rfl, rfl, h4⟩
    · exact ffa h2
  · exact .inr h1
theorem iNat_inv {n : Int} {k : Nat → Bool} (hh : iNat n k = true) : ∃ a : Nat, n = a ∧ k a = true := by
  cases n with
  | ofNat a => exact ⟨a, rfl, hh⟩
  | negSucc a => exact ffa hh
theorem pr_inv {α : Type} {s : Sem α} {k : α → Bool} (hh : pr s k = true) : ∃ a, s = .pure a ∧ k a = true := by
  cases s <;> first | exact ⟨_, rfl, hh⟩ | exact ffa hh
/-- what is reckoned out of two operands -/
def Bin (X : Cx) (P : Program) (op : BinOp) (t : TypeId) (y : Operand) (f : BF) : Prop := ∀ {m : M} {h : Hp} {w : World} {ox : Operand} {x x' z z' : Value} {k : KV}, Sim X m h w → VR m x x' → VR m z z' → f x z h k = true →
  ∃ v', (do eqGuard op t ox y x' z'; binOp op t x' z' : Sem Value).run P w = .ok v' w ∧ ∃ v, VR m v v' ∧ k v h = true
theorem guard_none {op : BinOp} (h1 : op ≠ .eql) (h2 : op ≠ .neq) (t : TypeId) (ox oy : Operand) (a b : Value) (w : World) : (eqGuard op t ox oy a b).run P w = .ok () w := by
  cases op <;> first | exact (h1 rfl).elim | exact (h2 rfl).elim | simp [eqGuard]
theorem bAdd_inv {t : TypeId} {y : Operand} : Bin X P .add t y bAdd := by
  intro m h w ox x x' z z' k hs hx hz hh
  rcases ints_inv hh with ⟨kd, a, b, rfl, rfl, h1⟩ | h1
  case inr => exact ffa h1
  cases hx; cases hz
  refine ⟨.int kd (kd.wrap (a + b)), by simp [guard_none, binOp, Op.intArith], _, .int _ _, ?_⟩
  rw [wr_eq, iadd_eq] at h1; exact h1
theorem bSub_inv {t : TypeId} {y : Operand} : Bin X P .sub t y bSub := by
  intro m h w ox x x' z z' k hs hx hz hh
  rcases ints_inv hh with ⟨kd, a, b, rfl, rfl, h1⟩ | h1
  case inr => exact ffa h1
  cases hx; cases hz
  refine ⟨.int kd (kd.wrap (a - b)), by simp [guard_none, binOp, Op.intArith], _, .int _ _, ?_⟩
  rw [wr_eq, isub_eq] at h1; exact h1
theorem bMul_inv {t : TypeId} {y : Operand} : Bin X P .mul t y bMul := by
  intro m h w ox x x' z z' k hs hx hz hh
  rcases ints_inv hh with ⟨kd, a, b, rfl, rfl, h1⟩ | h1
  case inr => exact ffa h1
  cases hx; cases hz
  refine ⟨.int kd (kd.wrap (a * b)), by simp [guard_none, binOp, Op.intArith], _, .int _ _, ?_⟩
  rw [wr_eq] at h1; exact h1
theorem intDiv_int {op : BinOp} {k : IntKind} {a b : Int} {v : Value} (h : Op.intDiv op k a b = .pure v) : ∃ n, v = .int k n := by
  unfold Op.intDiv at h
  split at h
  · cases h
  · split at h
    · injection h with h; exact ⟨_, h.symm⟩
    · injection h with h; exact ⟨_, h.symm⟩
    · cases h
theorem bDiv_inv {op : BinOp} (ho : op = .quo ∨ op = .rem) {t : TypeId} {y : Operand} : Bin X P op t y (bDiv op) := by
  intro m h w ox x x' z z' k hs hx hz hh
  rcases ints_inv hh with ⟨kd, a, b, rfl, rfl, h1⟩ | h1
  case inr => exact ffa h1
  cases hx; cases hz
  obtain ⟨h2, h3⟩ := rec_f h1
  obtain ⟨v, h4, h5⟩ := pr_inv h3
  obtain ⟨n, rfl⟩ := intDiv_int h4
  refine ⟨.int kd n, ?_, _, .int _ _, h5⟩
  have e : binOp op t (.int kd a) (.int kd b) = Op.intDiv op kd a b := by rcases ho with rfl | rfl <;> simp [binOp]
  have g : (eqGuard op t ox y (.int kd a) (.int kd b)).run P w = .ok () w := by rcases ho with rfl | rfl <;> simp [guard_none]
  simp [g, e, h4, Sem.run]
theorem intBits_int {op : BinOp} {k : IntKind} {a b : Int} {v : Value} (h : Op.intBits op k a b = .pure v) : ∃ n, v = .int k n := by
  unfold Op.intBits at h
  simp only at h
  split at h <;> first | (injection h with h; exact ⟨_, h.symm⟩) | cases h
theorem bBits_inv {op : BinOp} (ho : op = .and ∨ op = .or ∨ op = .xor ∨ op = .andNot) {t : TypeId} {y : Operand} : Bin X P op t y (bBits op) := by
  intro m h w ox x x' z z' k hs hx hz hh
  rcases ints_inv hh with ⟨kd, a, b, rfl, rfl, h1⟩ | h1
  case inr => exact ffa h1
  cases hx; cases hz
  obtain ⟨v, h4, h5⟩ := pr_inv h1
  obtain ⟨n, rfl⟩ := intBits_int h4
  refine ⟨.int kd n, ?_, _, .int _ _, h5⟩
  have e : binOp op t (.int kd a) (.int kd b) = Op.intBits op kd a b := by rcases ho with rfl | rfl | rfl | rfl <;> simp [binOp]
  have g : (eqGuard op t ox y (.int kd a) (.int kd b)).run P w = .ok () w := by rcases ho with rfl | rfl | rfl | rfl <;> simp [guard_none]
  simp [g, e, h4, Sem.run]
theorem shift_int {op : BinOp} {k j : IntKind} {a b : Int} {v : Value} (h : Op.shift op k a j b = .pure v) : ∃ n, v = .int k n := by
  unfold Op.shift at h
  split at h
  · cases h
  · simp only at h
    split at h <;> first | (injection h with h; exact ⟨_, h.symm⟩) | cases h
theorem bShift_inv {op : BinOp} (ho : op = .shl ∨ op = .shr) {t : TypeId} {y : Operand} : Bin X P op t y (bShift op) := by
  intro m h w ox x x' z z' k hs hx hz hh
  rcases vInt_inv hh with ⟨kd, a, rfl, h1⟩ | h1
  case inr => exact ffa h1
  rcases vInt_inv h1 with ⟨j, b, rfl, h1⟩ | h1
  case inr => exact ffa h1
  cases hx; cases hz
  obtain ⟨h2, h3⟩ := rec_f h1
  obtain ⟨v, h4, h5⟩ := pr_inv h3
  obtain ⟨n, rfl⟩ := shift_int h4
  refine ⟨.int kd n, ?_, _, .int _ _, h5⟩
  have e : binOp op t (.int kd a) (.int j b) = Op.shift op kd a j b := by rcases ho with rfl | rfl <;> simp [binOp]
  have g : (eqGuard op t ox y (.int kd a) (.int j b)).run P w = .ok () w := by rcases ho with rfl | rfl <;> simp [guard_none]
  simp [g, e, h4, Sem.run]
theorem bLss_inv {t : TypeId} {y : Operand} : Bin X P .lss t y bLss := by
  intro m h w ox x x' z z' k hs hx hz hh
  rcases ints_inv hh with ⟨kd, a, b, rfl, rfl, h1⟩ | h1
  case inr => exact ffa h1
  cases hx; cases hz
  rw [ilt_eq] at h1
  exact ⟨.bool (decide (a < b)), by simp [guard_none, binOp, Op.intCmp], _, .bool _, h1⟩
theorem bGtr_inv {t : TypeId} {y : Operand} : Bin X P .gtr t y bGtr := by
  intro m h w ox x x' z z' k hs hx hz hh
  rcases ints_inv hh with ⟨kd, a, b, rfl, rfl, h1⟩ | h1
  case inr => exact ffa h1
  cases hx; cases hz
  rw [ilt_eq] at h1
  exact ⟨.bool (decide (b < a)), by simp [guard_none, binOp, Op.intCmp], _, .bool _, h1⟩
theorem bLeq_inv {t : TypeId} {y : Operand} : Bin X P .leq t y bLeq := by
  intro m h w ox x x' z z' k hs hx hz hh
  rcases ints_inv hh with ⟨kd, a, b, rfl, rfl, h1⟩ | h1
  case inr => exact ffa h1
  cases hx; cases hz
  rw [ilt_eq, bnot_eq] at h1
  have : (!decide (b < a)) = decide (a ≤ b) := by
    by_cases hh : b < a
    · simp [hh]
    · simp [hh]; omega
  rw [this] at h1
  exact ⟨.bool (decide (a ≤ b)), by simp [guard_none, binOp, Op.intCmp], _, .bool _, h1⟩
theorem bGeq_inv {t : TypeId} {y : Operand} : Bin X P .geq t y bGeq := by
  intro m h w ox x x' z z' k hs hx hz hh
  rcases ints_inv hh with ⟨kd, a, b, rfl, rfl, h1⟩ | h1
  case inr => exact ffa h1
  cases hx; cases hz
  rw [ilt_eq, bnot_eq] at h1
  have : (!decide (a < b)) = decide (b ≤ a) := by
    by_cases hh : a < b
    · simp [hh]
    · simp [hh]; omega
  rw [this] at h1
  exact ⟨.bool (decide (b ≤ a)), by simp [guard_none, binOp, Op.intCmp], _, .bool _, h1⟩
theorem bCat_inv {t : TypeId} {y : Operand} : Bin X P .add t y bCat := by
  intro m h w ox x x' z z' k hs hx hz hh
  rcases vStr_inv hh with ⟨s, rfl, h1⟩ | h1
  case inr => exact ffa h1
  rcases vStr_inv h1 with ⟨u, rfl, h1⟩ | h1
  case inr => exact ffa h1
  cases hx; cases hz
  obtain ⟨h2, h3⟩ := rec_t h1
  have h2 := ble_iff.1 h2
  have e1 : s.data.toList.length = s.size := rfl
  have e2 : u.data.toList.length = u.size := rfl
  rw [natadd, e1, e2] at h2
  have e3 : (⟨⟨s.data.toList ++ u.data.toList⟩⟩ : ByteArray) = s ++ u := by
    apply ByteArray.ext
    apply Array.ext'
    simp
  rw [e3] at h3
  refine ⟨.string (s ++ u), ?_, _, .string _, h3⟩
  have hm : ¬ (((s.size + u.size : Nat) : Int) > IntKind.i64.max) := by
    simp [IntKind.max, IntKind.bits, IntKind.signed]; omega
  simp only [Sem.run_bind, guard_none (op := .add) (by simp) (by simp), Result.andThen_ok, binOp, Op.stringOp, hm, if_false, Sem.run_pure]
end Go.Ab
end
section
namespace Go.Ab
variable {X : Cx} {m m' : M} {h h' : Hp} {w w' : World} {P : Program}
/-- two operands are held against each other -/
def EqL (X : Cx) (P : Program) (t : TypeId) (y : Operand) (f : Value → Value → Hp → (Bool → Bool) → Bool) : Prop := ∀ {m : M} {h : Hp} {w : World} {ox : Operand} {x x' z z' : Value} {k : Bool → Bool},
  Sim X m h w → VR m x x' → VR m z z' → (∀ v, y = .const v → z' = v) → f x z h k = true →
  ∃ r, k r = true ∧ (∀ op, op = .eql ∨ op = .neq → (eqGuard op t ox y x' z').run P w = .ok () w) ∧ (binOp .eql t x' z').run P w = .ok (.bool r) w ∧ (binOp .neq t x' z').run P w = .ok (.bool (!r)) w
/-- the second operand, where it is a literal -/
def BinC (X : Cx) (P : Program) (op : BinOp) (t : TypeId) (y : Operand) (f : BF) : Prop := ∀ {m : M} {h : Hp} {w : World} {ox : Operand} {x x' z z' : Value} {k : KV}, Sim X m h w → VR m x x' → VR m z z' → (∀ v, y = .const v → z' = v) → f x z h k = true →
  ∃ v', (do eqGuard op t ox y x' z'; binOp op t x' z' : Sem Value).run P w = .ok v' w ∧ ∃ v, VR m v v' ∧ k v h = true
theorem Bin.toC {op : BinOp} {t : TypeId} {y : Operand} {f : BF} (h : Bin X P op t y f) : BinC X P op t y f := fun hs hx hz _ hh => h hs hx hz hh
theorem EqL.eql {t : TypeId} {y : Operand} {f : Value → Value → Hp → (Bool → Bool) → Bool} (hf : EqL X P t y f) : BinC X P .eql t y (bEql f) := by
  intro m h w ox x x' z z' k hs hx hz hc hh
  obtain ⟨r, h1, h2, h3, h4⟩ := hf (ox := ox) hs hx hz hc hh
  exact ⟨.bool r, by rw [Sem.run_bind, h2 .eql (.inl rfl), Result.andThen_ok, h3], _, .bool _, h1⟩
theorem EqL.neq {t : TypeId} {y : Operand} {f : Value → Value → Hp → (Bool → Bool) → Bool} (hf : EqL X P t y f) : BinC X P .neq t y (bNeq f) := by
  intro m h w ox x x' z z' k hs hx hz hc hh
  obtain ⟨r, h1, h2, h3, h4⟩ := hf (ox := ox) hs hx hz hc hh
  rw [bnot_eq] at h1
  exact ⟨.bool (!r), by rw [Sem.run_bind, h2 .neq (.inr rfl), Result.andThen_ok, h4], _, .bool _, h1⟩
theorem guard_plain {op : BinOp} (t : TypeId) (ox oy : Operand) (a b : Value) (w : World) (h1 : a ≠ .nilIface ∨ b ≠ .nilIface) (h2 : ∀ cs, a ≠ .agg cs) : (eqGuard op t ox oy a b).run P w = .ok () w := by
  unfold eqGuard
  split
  · simp only [Bool.not_true, Bool.false_eq_true, if_false]
    split
    · simp at h1
    · exact absurd rfl (h2 _)
    · rfl
  · simp only [Bool.not_true, Bool.false_eq_true, if_false]
    split
    · simp at h1
    · exact absurd rfl (h2 _)
    · rfl
  · rfl
theorem eI_inv {t : TypeId} {y : Operand} : EqL X P t y eI := by
  intro m h w ox x x' z z' k hs hx hz hc hh
  rcases ints_inv hh with ⟨kd, a, b, rfl, rfl, h1⟩ | h1
  case inr => exact ffa h1
  cases hx; cases hz
  rw [ieq_eq] at h1
  exact ⟨_, h1, fun op _ => guard_plain t ox y _ _ w (.inl (by simp)) (by simp), by simp [binOp, Op.intCmp], by simp [binOp, Op.intCmp, bne]⟩
theorem eS_inv {t : TypeId} {y : Operand} : EqL X P t y eS := by
  intro m h w ox x x' z z' k hs hx hz hc hh
  rcases vStr_inv hh with ⟨s, rfl, h1⟩ | h1
  case inr => exact ffa h1
  rcases vStr_inv h1 with ⟨u, rfl, h1⟩ | h1
  case inr => exact ffa h1
  cases hx; cases hz
  have h1 : k (bytesEq s.data.toList u.data.toList) = true := h1
  rw [bytesEq_str, beq_toListBytes] at h1
  exact ⟨_, h1, fun op _ => guard_plain t ox y _ _ w (.inl (by simp)) (by simp), by simp [binOp, Op.stringOp], by simp [binOp, Op.stringOp]⟩
theorem eq_of_run {t : TypeId} {a b : Value} {r : Bool} (h1 : binOp .eql t a b = (do pure (.bool (← Op.equal t a b)))) (h2 : binOp .neq t a b = (do pure (.bool (!(← Op.equal t a b))))) (h3 : (Op.equal t a b).run P w = .ok r w) :
    (binOp .eql t a b).run P w = .ok (.bool r) w ∧ (binOp .neq t a b).run P w = .ok (.bool (!r)) w := by
  rw [h1, h2]
  exact ⟨by simp [h3], by simp [h3]⟩
theorem eB_inv {t : TypeId} {y : Operand} (ht : P.underlying t = some .bool) : EqL X P t y eB := by
  intro m h w ox x x' z z' k hs hx hz hc hh
  rcases vBool_inv hh with ⟨a, rfl, h1⟩ | h1
  case inr => exact ffa h1
  rcases vBool_inv h1 with ⟨b, rfl, h1⟩ | h1
  case inr => exact ffa h1
  cases hx; cases hz
  have h1 : k (Bool.rec (bnot b) b a) = true := h1
  rw [boolEq] at h1
  exact ⟨_, h1, fun op _ => guard_plain t ox y _ _ w (.inl (by simp)) (by simp), eq_of_run (by simp [binOp]) (by simp [binOp]) (run_equal_bool w t a b ht)⟩
theorem eP_inv' {t el : TypeId} {i : TypeInfo} {y : Operand} (ht : P.underlying t = some (.pointer el)) (hi : P.info? el = some i) (hz0 : i.size ≠ 0) : EqL X P t y eP := by
  intro m h w ox x x' z z' k hs hx hz hc hh
  obtain ⟨r, h1, h2⟩ := eP_inv (P := P) hs ht hi hz0 hx hz hh
  rcases vPtrO_inv hh with ⟨a, rfl, h3⟩ | h3
  case inr => exact ffa h3
  rcases vPtrO_inv h3 with ⟨b, rfl, h4⟩ | h4
  case inr => exact ffa h4
  have ea : ∃ a', x' = .pointer a' := by cases hx <;> exact ⟨_, rfl⟩
  have eb : ∃ b', z' = .pointer b' := by cases hz <;> exact ⟨_, rfl⟩
  obtain ⟨a', rfl⟩ := ea
  obtain ⟨b', rfl⟩ := eb
  exact ⟨r, h2, fun op _ => guard_plain t ox y _ _ w (.inl (by simp)) (by simp), eq_of_run (by simp [binOp]) (by simp [binOp]) h1⟩
theorem equalIn_ni0 (d : Nat) {t : TypeId} {ms : Array (String × TypeId)} (ht : P.underlying t = some (.interface ms)) (w : World) : (Op.equalIn (d + 1) t .nilIface .nilIface).run P w = .ok true w := by simp [Op.equalIn, run_underlying ht]
theorem equalIn_ni1 (d : Nat) {t : TypeId} {ms : Array (String × TypeId)} (ht : P.underlying t = some (.interface ms)) (u : TypeId) (v : Value) (w : World) : (Op.equalIn (d + 1) t (.iface u v) .nilIface).run P w = .ok false w := by simp [Op.equalIn, run_underlying ht]
theorem equalIn_nf0 (d : Nat) {t : TypeId} {a b : Array TypeId} {c : Bool} (ht : P.underlying t = some (.func a b c)) (w : World) : (Op.equalIn (d + 1) t .nilFunc .nilFunc).run P w = .ok true w := by simp [Op.equalIn, run_underlying ht]
theorem equalIn_nf1 (d : Nat) {t : TypeId} {a b : Array TypeId} {c : Bool} (ht : P.underlying t = some (.func a b c)) (f : Fn) (x y : Array Value) (w : World) : (Op.equalIn (d + 1) t (.func f x y) .nilFunc).run P w = .ok false w := by simp [Op.equalIn, run_underlying ht]
theorem eNI_inv {t : TypeId} {ms : Array (String × TypeId)} (ht : P.underlying t = some (.interface ms)) : EqL X P t (.const .nilIface) eNI := by
  intro m h w ox x x' z z' k hs hx hz hc hh
  have := hc _ rfl
  subst this
  unfold eNI at hh
  split at hh
  · cases hx
    refine ⟨true, hh, fun op _ => ?_, eq_of_run (by simp [binOp]) (by simp [binOp]) ?_⟩
    · unfold eqGuard; split <;> simp <;> rfl
    · rw [run_equal]; exact equalIn_ni0 _ ht w
  · cases hx
    refine ⟨false, hh, fun op _ => guard_plain t ox _ _ _ w (.inl (by simp)) (by simp), eq_of_run (by simp [binOp]) (by simp [binOp]) ?_⟩
    rw [run_equal]; exact equalIn_ni1 _ ht _ _ w
  · exact ffa hh
theorem eNF_inv {t : TypeId} {a b : Array TypeId} {c : Bool} (ht : P.underlying t = some (.func a b c)) : EqL X P t (.const .nilFunc) eNF := by
  intro m h w ox x x' z z' k hs hx hz hc hh
  have := hc _ rfl
  subst this
  unfold eNF at hh
  split at hh
  · cases hx
    refine ⟨true, hh, fun op _ => guard_plain t ox _ _ _ w (.inl (by simp)) (by simp), eq_of_run (by simp [binOp]) (by simp [binOp]) ?_⟩
    rw [run_equal]; exact equalIn_nf0 _ ht w
  · have : ∃ f a b, x' = .func f a b := by cases hx <;> exact ⟨_, _, _, rfl⟩
    obtain ⟨f, a, b, rfl⟩ := this
    refine ⟨false, hh, fun op _ => guard_plain t ox _ _ _ w (.inl (by simp)) (by simp), eq_of_run (by simp [binOp]) (by simp [binOp]) ?_⟩
    rw [run_equal]; exact equalIn_nf1 _ ht _ _ _ w
  · exact ffa hh
theorem eNS_inv {t e : TypeId} (ht : P.underlying t = some (.slice e)) : EqL X P t (.const (.slice none 0 0)) eNS := by
  intro m h w ox x x' z z' k hs hx hz hc hh
  have := hc _ rfl
  subst this
  rcases vSl_inv hh with ⟨a, n, c, rfl, h1⟩ | h1
  case inr => exact ffa h1
  have : ∃ a' n' c', x' = .slice a' n' c' ∧ k a'.isNone = true := by
    rcases opt2_inv h1 with ⟨rfl, h2⟩ | ⟨a, rfl, h2⟩
    · cases hx; exact ⟨_, _, _, rfl, h2⟩
    · cases hx <;> exact ⟨_, _, _, rfl, h2⟩
  obtain ⟨a', n', c', rfl, h2⟩ := this
  exact ⟨_, h2, fun op _ => guard_plain t ox _ _ _ w (.inl (by simp)) (by simp), eq_of_run (by simp [binOp]) (by simp [binOp]) (run_equal_slice_nil w t e a' n' c' ht)⟩
theorem eNM_inv {t kt e : TypeId} (ht : P.underlying t = some (.map kt e)) : EqL X P t (.const (.map none)) eNM := by
  intro m h w ox x x' z z' k hs hx hz hc hh
  have := hc _ rfl
  subst this
  rcases vMap_inv hh with ⟨a, rfl, h1⟩ | h1
  case inr => exact ffa h1
  have : ∃ a', x' = .map a' ∧ k a'.isNone = true := by
    rcases opt2_inv h1 with ⟨rfl, h2⟩ | ⟨a, rfl, h2⟩
    · cases hx; exact ⟨_, rfl, h2⟩
    · cases hx; exact ⟨_, rfl, h2⟩
  obtain ⟨a', rfl, h2⟩ := this
  exact ⟨_, h2, fun op _ => guard_plain t ox _ _ _ w (.inl (by simp)) (by simp), eq_of_run (by simp [binOp]) (by simp [binOp]) (run_equal_map_nil w t kt e a' ht)⟩
theorem eA_inv {t : TypeId} {ks : List Nat} {y : Operand} (hf : FlatOK P t ks) : EqL X P t y (eA ks) := by
  intro m h w ox x x' z z' k hs hx hz hc hh
  rcases vAgg_inv hh with ⟨a, rfl, h1⟩ | h1
  case inr => exact ffa h1
  rcases vAgg_inv h1 with ⟨b, rfl, h1⟩ | h1
  case inr => exact ffa h1
  obtain ⟨h2, h3⟩ := typed_inv h1
  obtain ⟨h4, h3⟩ := typed_inv h3
  have := (KeyV.ag h2).eq hx; subst this
  have := (KeyV.ag h4).eq hz; subst this
  obtain ⟨r, f1, f2, f3⟩ := eqAgg_inv (P := P) hf h2 (b := b) h3
  exact ⟨r, f3, fun op _ => run_eqGuard_agg w op t ox y a b hf.gd, eq_of_run (by simp [binOp]) (by simp [binOp]) (f2 9800 w)⟩
end Go.Ab
end
section
namespace Go.Ab
variable {X : Cx} {m m' : M} {h h' : Hp} {w w' : World} {P : Program}
/-! ### types -/
def TyOK (P : Program) (ty : Ty) : Prop := ∀ t i, ty t = some i → P.info? t = some i
theorem under_ok {ty : Ty} (hT : TyOK P ty) {t : TypeId} {d : TypeDesc} (h : under ty t = some d) : P.underlying t = some d := by
  unfold under tinfo at h
  split at h
  · rename_i i hi
    have h1 := hT _ _ hi
    split at h
    · rename_i n u hd
      cases hu : ty u with
      | none => rw [hu] at h; cases h
      | some j =>
        rw [hu] at h
        have h2 := hT _ _ hu
        unfold Program.underlying
        rw [h1]
        obtain ⟨d0, b0⟩ := i
        simp only at hd
        subst hd
        simp only [h2]
        exact h
    · rename_i hd
      unfold Program.underlying
      rw [h1]
      injection h with h
      subst h
      obtain ⟨d0, b0⟩ := i
      simp only at hd ⊢
      split
      · rename_i h3; injection h3 with h3; injection h3 with h3; exact absurd h3 (hd _ _)
      · rename_i h3; injection h3 with h3; subst h3; rfl
      · rename_i h3; cases h3
  · cases h
theorem isAggD_run {t : TypeId} {d : TypeDesc} (ht : P.underlying t = some d) (w : World) : (isAgg t).run P w = .ok (isAggD d) w := by
  simp only [isAgg, Sem.run_bind, run_underlying ht, Result.andThen_ok]
  cases d <;> rfl
/-- a type's kind -/
structure TK (P : Program) (t : TypeId) (s : Nat) (ag : Bool) : Prop where
  info : ∃ i, P.info? t = some i ∧ i.size = s
  agg : ∀ w : World, (isAgg t).run P w = .ok ag w
theorem TK.size {t : TypeId} {s : Nat} {ag : Bool} (h : TK P t s ag) (w : World) : (sizeOf t).run P w = .ok s w := by
  obtain ⟨i, h1, h2⟩ := h.info
  simp [sizeOf, typeInfo, h1, h2]
theorem tkind_ok {ty : Ty} (hT : TyOK P ty) {t : TypeId} {s : Nat} {ag : Bool} (h : tkind ty t = some (s, ag)) : TK P t s ag := by
  unfold tkind at h
  split at h
  · rename_i i d hi hd
    injection h with h
    injection h with h1 h2
    exact ⟨⟨i, hT _ _ hi, h1⟩, fun w => by rw [isAggD_run (under_ok hT hd), h2]⟩
  · cases h
theorem elemK_ok {ty : Ty} (hT : TyOK P ty) {e e' : TypeId} {s : Nat} {ag : Bool} (h : elemK ty e = some (e', s, ag)) : e' = e ∧ TK P e s ag ∧ ∃ i, P.info? e = some i ∧ i.size = s ∧ i.bytes ≤ 1000000 := by
  unfold elemK tinfo at h
  split at h
  · rename_i i hi
    split at h
    · rename_i hb
      rw [Option.map_eq_some_iff] at h
      obtain ⟨⟨s0, a0⟩, h1, h2⟩ := h
      injection h2 with h2 h3
      injection h3 with h3 h4
      subst h2; subst h3; subst h4
      have hk := tkind_ok hT h1
      obtain ⟨j, h5, h6⟩ := hk.info
      have h7 := hT _ _ hi
      rw [h7] at h5; injection h5 with h5; subst h5
      exact ⟨rfl, hk, i, h7, h6, hb⟩
    · cases h
  · cases h
theorem fields_ok {ty : Ty} (hT : TyOK P ty) {t : TypeId} {fs : Array Field} (h : fields ty t = some fs) : P.underlying t = some (.struct fs) := by
  unfold fields at h
  split at h
  · injection h with h; subst h; rename_i hu; exact under_ok hT hu
  · cases h
theorem fieldOf_ok {ty : Ty} (hT : TyOK P ty) {t : TypeId} {f o s : Nat} {ag : Bool} (h : fieldOf ty t f = some (o, s, ag)) :
    ∃ fs fl, P.underlying t = some (.struct fs) ∧ fs[f]? = some fl ∧ fl.offset = o ∧ TK P fl.type s ag := by
  unfold fieldOf at h
  split at h
  · rename_i fs hf
    split at h
    · rename_i fl hfl
      rw [Option.map_eq_some_iff] at h
      obtain ⟨⟨s0, a0⟩, h1, h2⟩ := h
      injection h2 with h2 h3
      injection h3 with h3 h4
      subst h2; subst h3; subst h4
      exact ⟨fs, fl, fields_ok hT hf, hfl, rfl, tkind_ok hT h1⟩
    · cases h
  · cases h
/-! ### pieces -/
theorem mkv_inv {ag : Bool} {o n : Nat} {cs : List Value} {cs' : Array Value} (hc : VRL m cs cs'.toList) (hi : ∀ v ∈ cs, isCell v = true) {t : TypeId} (hk : TK P t n ag) {k : K1}
    (hh : mkv ag (takeL n (dropL o cs)) k = true) (w : World) : ∃ v', (part t cs' o).run P w = .ok v' w ∧ ∃ v, VR m v v' ∧ k v = true := by
  rw [takeL_eq, dropL_eq] at hh
  unfold mkv at hh
  rcases rec_inv hh with ⟨rfl, h1⟩ | ⟨rfl, h1⟩
  · cases hl : (cs.drop o).take n with
    | nil => rw [hl] at h1; exact ffa h1
    | cons v l =>
      rw [hl] at h1
      have h2 : cs[o]? = some v := by
        have : ((cs.drop o).take n)[0]? = some v := by rw [hl]; simp
        rw [List.getElem?_take] at this
        split at this
        · simpa using this
        · cases this
      obtain ⟨v', h3, h4⟩ := hc.get h2
      have h3 : cs'[o]? = some v' := by simpa using h3
      exact ⟨v', by simp [part, hk.agg w, h3], v, h4, h1⟩
  · refine ⟨.agg (cs'.extract o (o + n)), by simp [part, hk.agg w, hk.size w], .agg ⟨(cs.drop o).take n⟩, .agg ?_ ?_, h1⟩
    · have : (cs'.extract o (o + n)).toList = (cs'.toList.drop o).take n := by
        rw [Array.toList_extract, List.extract_eq_take_drop]; simp
      rw [this]
      exact hc.drop.take
    · intro v hv
      exact hi v (List.mem_of_mem_drop (List.mem_of_mem_take hv))
theorem VR.agg_inv {a : Array Value} {v' : Value} (h : VR m (.agg a) v') : ∃ a', v' = .agg a' ∧ VRL m a.toList a'.toList ∧ ∀ v ∈ a.toList, isCell v = true := by
  cases h with
  | agg h hc => exact ⟨_, rfl, h, hc⟩
theorem field_inv {xt : TypeId} {f o s : Nat} {ag : Bool} {fs : Array Field} {fl : Field} (ht : P.underlying xt = some (.struct fs)) (hf : fs[f]? = some fl) (ho : fl.offset = o) (hk : TK P fl.type s ag)
    {x x' : Value} (hx : VR m x x') {k : K1} (hh : vAgg x (fun cs => mkv ag (takeL s (dropL o cs)) k) (ff 145) = true) (w : World) :
    ∃ v', (Instr.field xt x' f).run P w = .ok v' w ∧ ∃ v, VR m v v' ∧ k v = true := by
  rcases vAgg_inv hh with ⟨a, rfl, h1⟩ | h1
  case inr => exact ffa h1
  obtain ⟨a', rfl, h2, h3⟩ := hx.agg_inv
  obtain ⟨v', h4, h5⟩ := mkv_inv h2 h3 hk h1 w
  subst ho
  exact ⟨v', by simp [Instr.field, run_underlying ht, hf, asAgg, h4], h5⟩
theorem fieldAt_inv {xt : TypeId} {f o s : Nat} {ag : Bool} {fs : Array Field} {fl : Field} (ht : P.underlying xt = some (.struct fs)) (hf : fs[f]? = some fl) (ho : fl.offset = o) (hk : TK P fl.type s ag) (hs : s ≠ 0)
    {x x' : Value} (hx : VR m x x') {k : K1} (hh : vPtr x (fun a => k (.pointer (some (addrAdd a o)))) (ff 193) = true) (w : World) :
    ∃ v', (Instr.fieldAt xt x' f).run P w = .ok v' w ∧ ∃ v, VR m v v' ∧ k v = true := by
  obtain ⟨a, rfl, h1⟩ := vPtr_inv hh
  cases hx with
  | ptr ha =>
    subst ho
    rename_i a'
    exact ⟨.pointer (some (a'.add fl.offset)), by simp [Instr.fieldAt, run_underlying ht, hf, Instr.sureAddr, fieldPlace, hk.size w, hs], _, .ptr (ha.add fl.offset).1, h1⟩
theorem indexAtS_inv {t e : TypeId} {s : Nat} {ag : Bool} (ht : P.underlying t = some (.slice e)) (hk : TK P e s ag) {x x' i i' : Value} (hx : VR m x x') (hi : VR m i i') {k : K1}
    (hh : vInt i (fun _ n => iNat n (fun i => vSl x (fun a len _ => oK 131 a (fun a => Bool.rec (ff 132) (k (.pointer (some (addrAdd a (Nat.mul i s))))) (Nat.ble (Nat.succ i) len))) (ff 133))) (ff 134) = true) (w : World) :
    ∃ v', (Instr.indexAt t x' i').run P w = .ok v' w ∧ ∃ v, VR m v v' ∧ k v = true := by
  rcases vInt_inv hh with ⟨kd, n, rfl, h1⟩ | h1
  case inr => exact ffa h1
  obtain ⟨n, rfl, h1⟩ := iNat_inv h1
  rcases vSl_inv h1 with ⟨a, len, c, rfl, h1⟩ | h1
  case inr => exact ffa h1
  obtain ⟨a, rfl, h1⟩ := opt_inv h1
  obtain ⟨h2, h3⟩ := rec_t h1
  have h2 : n + 1 ≤ len := ble_iff.1 h2
  cases hi
  have key : ∀ a' c', AR m a a' → ∃ v', (Instr.indexAt t (.slice (some a') len c') (.int kd n)).run P w = .ok v' w ∧ ∃ v, VR m v v' ∧ k v = true := by
    intro a' c' ha
    refine ⟨.pointer (some (a'.add (n * s))), ?_, _, .ptr (ha.add (n * s)).1, h3⟩
    have e1 : (0 : Int) ≤ (n : Int) := by omega
    have e2 : n < len := by omega
    simp [Instr.indexAt, asIntOf, run_underlying ht, e1, e2, hk.size w]
  cases hx with
  | slE _ _ ha => exact key _ _ ha
  | slL ha _ _ _ => exact key _ _ ha
  | slG => omega
theorem indexAtA_inv {t e : TypeId} {s len : Nat} {ag : Bool} (ht : P.underlying t = some (.array len e)) (hk : TK P e s ag) {x x' i i' : Value} (hx : VR m x x') (hi : VR m i i') {k : K1}
    (hh : vInt i (fun _ n => iNat n (fun i => vPtr x (fun a => Bool.rec (ff 135) (k (.pointer (some (addrAdd a (Nat.mul i s))))) (Nat.ble (Nat.succ i) len)) (ff 136))) (ff 136) = true) (w : World) :
    ∃ v', (Instr.indexAt t x' i').run P w = .ok v' w ∧ ∃ v, VR m v v' ∧ k v = true := by
  rcases vInt_inv hh with ⟨kd, n, rfl, h1⟩ | h1
  case inr => exact ffa h1
  obtain ⟨n, rfl, h1⟩ := iNat_inv h1
  obtain ⟨a, rfl, h1⟩ := vPtr_inv h1
  obtain ⟨h2, h3⟩ := rec_t h1
  have h2 : n + 1 ≤ len := ble_iff.1 h2
  cases hi
  cases hx with
  | ptr ha =>
    rename_i a'
    refine ⟨.pointer (some (a'.add (n * s))), ?_, _, .ptr (ha.add (n * s)).1, h3⟩
    have e1 : (0 : Int) ≤ (n : Int) := by omega
    have e2 : n < len := by omega
    simp [Instr.indexAt, asIntOf, run_underlying ht, e1, e2, hk.size w, Instr.sureAddr]
theorem nthB_inv {k : UInt8 → Bool} : ∀ {l : List UInt8} {n : Nat}, nthB l n k = true → ∃ b, l[n]? = some b ∧ k b = true
  | [], n, h => ffa h
  | b :: l, 0, h => ⟨b, by simp, h⟩
  | b :: l, n + 1, h => by
    obtain ⟨b', h1, h2⟩ := nthB_inv (l := l) (n := n) h
    exact ⟨b', by simpa using h1, h2⟩
theorem str_get (s : ByteArray) (n : Nat) : s[n]? = s.data.toList[n]? := by
  have e : s.data.toList[n]? = s.data[n]? := by simp
  rw [e]
  by_cases h : n < s.size
  · rw [getElem?_pos s n h, Array.getElem?_eq_getElem h]; rfl
  · rw [getElem?_neg s n h, Array.getElem?_eq_none (by simpa using h)]
theorem indexS_inv {t : TypeId} (ht : P.underlying t = some .string) {x x' i i' : Value} (hx : VR m x x') (hi : VR m i i') {k : K1}
    (hh : vInt i (fun _ n => iNat n (fun i => vStr x (fun s => nthB s.data.toList i (fun b => k (.int .u8 (.ofNat b.toNat)))) (ff 137))) (ff 137) = true) (w : World) :
    ∃ v', (Instr.index t x' i').run P w = .ok v' w ∧ ∃ v, VR m v v' ∧ k v = true := by
  rcases vInt_inv hh with ⟨kd, n, rfl, h1⟩ | h1
  case inr => exact ffa h1
  obtain ⟨n, rfl, h1⟩ := iNat_inv h1
  rcases vStr_inv h1 with ⟨s, rfl, h1⟩ | h1
  case inr => exact ffa h1
  obtain ⟨b, h2, h3⟩ := nthB_inv h1
  cases hx; cases hi
  refine ⟨.int .u8 (.ofNat b.toNat), ?_, _, .int _ _, h3⟩
  have e1 : (0 : Int) ≤ (n : Int) := by omega
  have e2 : s[n]? = some b := by rw [str_get]; exact h2
  simp [Instr.index, asIntOf, run_underlying ht, e1, e2]
theorem indexA_inv {t e : TypeId} {s len : Nat} {ag : Bool} (ht : P.underlying t = some (.array len e)) (hk : TK P e s ag) {x x' i i' : Value} (hx : VR m x x') (hi : VR m i i') {k : K1}
    (hh : vInt i (fun _ n => iNat n (fun i => vAgg x (fun cs => Bool.rec (ff 141) (lenIs 141 (Nat.mul len s) cs (mkv ag (takeL s (dropL (Nat.mul i s) cs)) k)) (Nat.ble (Nat.succ i) len)) (ff 142))) (ff 143) = true) (w : World) :
    ∃ v', (Instr.index t x' i').run P w = .ok v' w ∧ ∃ v, VR m v v' ∧ k v = true := by
  rcases vInt_inv hh with ⟨kd, n, rfl, h1⟩ | h1
  case inr => exact ffa h1
  obtain ⟨n, rfl, h1⟩ := iNat_inv h1
  rcases vAgg_inv h1 with ⟨a, rfl, h1⟩ | h1
  case inr => exact ffa h1
  obtain ⟨h2, h3⟩ := rec_t h1
  have h2 : n + 1 ≤ len := ble_iff.1 h2
  obtain ⟨_, h4⟩ := lenIs_inv h3
  obtain ⟨a', rfl, h5, h6⟩ := hx.agg_inv
  cases hi
  obtain ⟨v', h7, h8⟩ := mkv_inv h5 h6 hk h4 w
  have e1 : (0 : Int) ≤ (n : Int) := by omega
  have e2 : n < len := by omega
  have h7 : (part e a' (n * s)).run P w = .ok v' w := h7
  exact ⟨v', by simp [Instr.index, asIntOf, run_underlying ht, e1, e2, hk.size w, h7], h8⟩
theorem extract_inv {x x' : Value} (hx : VR m x x') {i : Nat} {k : K1} (hh : vTup x (fun l => nthV k i l) (ff 194) = true) (w : World) :
    ∃ v', (Instr.extract x' i).run P w = .ok v' w ∧ ∃ v, VR m v v' ∧ k v = true := by
  rcases vTup_inv hh with ⟨l, rfl, h1⟩ | h1
  case inr => exact ffa h1
  obtain ⟨v, h2, h3⟩ := nthV_inv h1
  cases hx with
  | tuple hl =>
    obtain ⟨v', h4, h5⟩ := hl.get h2
    rename_i a'
    have h4 : a'[i]? = some v' := by simpa using h4
    exact ⟨v', by simp [Instr.extract, h4], v, h5, h3⟩
theorem iface_inv {t : TypeId} {d : TypeDesc} (ht : P.underlying t = some d) (hd : ∀ ms, d ≠ .interface ms) {x x' : Value} (hx : VR m x x') {k : K1} (hh : k (.iface t x) = true) (w : World) :
    ∃ v', (Instr.makeInterface t x').run P w = .ok v' w ∧ ∃ v, VR m v v' ∧ k v = true := by
  refine ⟨.iface t x', ?_, _, .iface hx, hh⟩
  simp only [Instr.makeInterface, Sem.run_bind, run_underlying ht, Result.andThen_ok]
  cases d <;> first | rfl | exact absurd rfl (hd _)
/-! ### slices -/
theorem bnd_inv {c y : Nat} {v v' : Value} (hv : VR m v v') {k : Nat → Bool} (hh : bnd c y v k = true) : ∃ n, n ≤ y ∧ k n = true ∧ ∀ (y' : Nat) (code : BoundsCode) (w : World), y ≤ y' → (Instr.sliceBound v' y' code).run P w = .ok n w := by
  rcases vInt_inv hh with ⟨kd, n, rfl, h1⟩ | h1
  case inr => exact ffa h1
  obtain ⟨n, rfl, h1⟩ := iNat_inv h1
  obtain ⟨h2, h3⟩ := rec_t h1
  have h2 := ble_iff.1 h2
  cases hv
  refine ⟨n, h2, h3, fun y' code w hy => ?_⟩
  have e1 : (0 : Int) ≤ (n : Int) := by omega
  have e2 : n ≤ y' := by omega
  simp [Instr.sliceBound, asIntOf, e1, e2]
inductive VRO (m : M) : Option Value → Option Value → Prop
  | none : VRO m none none
  | some {v v' : Value} (h : VR m v v') : VRO m (some v) (some v')
theorem bndO_inv {c y d : Nat} {v v' : Option Value} (hv : VRO m v v') {k : Nat → Bool} (hh : bndO c y v d k = true) :
    ∃ n, k n = true ∧ ((v' = none ∧ n = d) ∨ (∃ u, v' = some u ∧ n ≤ y ∧ ∀ (y' : Nat) (code : BoundsCode) (w : World), y ≤ y' → (Instr.sliceBound u y' code).run P w = .ok n w)) := by
  rcases opt2_inv hh with ⟨rfl, h1⟩ | ⟨v, rfl, h1⟩
  · cases hv; exact ⟨d, h1, .inl ⟨rfl, rfl⟩⟩
  · cases hv with
    | some hv =>
      obtain ⟨n, h2, h3, h4⟩ := bnd_inv (P := P) hv h1
      exact ⟨n, h3, .inr ⟨_, rfl, h2, h4⟩⟩
theorem sliceS_inv {t : TypeId} (ht : P.underlying t = some .string) {x x' : Value} {lo hi lo' hi' : Option Value} (hx : VR m x x') (hl : VRO m lo lo') (hu : VRO m hi hi') {k : K1}
    (hh : vStr x (fun s => sliceS s.data.toList lo hi k) (ff 63) = true) (w : World) :
    ∃ v', (Instr.sliceAt t x' lo' hi' none).run P w = .ok v' w ∧ ∃ v, VR m v v' ∧ k v = true := by
  rcases vStr_inv hh with ⟨s, rfl, h1⟩ | h1
  case inr => exact ffa h1
  cases hx
  have hsz : s.data.toList.length = s.size := rfl
  obtain ⟨u, h2, h3⟩ := bndO_inv (P := P) hu h1
  obtain ⟨l, h4, h5⟩ := bndO_inv (P := P) hl h2
  have hex : (⟨⟨(s.data.toList.take u).drop l⟩⟩ : ByteArray) = s.extract l u := by
    apply ByteArray.ext
    apply Array.ext'
    rw [ByteArray.data_extract, Array.toList_extract, List.extract_eq_take_drop, List.drop_take]
  rw [hex] at h4
  refine ⟨.string (s.extract l u), ?_, _, .string _, h4⟩
  rw [hsz] at h3
  rcases h3 with ⟨rfl, rfl⟩ | ⟨hv, rfl, hle, hr⟩ <;> rcases h5 with ⟨rfl, rfl⟩ | ⟨lv, rfl, hle2, hr2⟩
  · simp [Instr.sliceAt, run_underlying ht, Instr.slice, Instr.sliceBounds]
  · have := fun code => hr2 s.size code w (Nat.le_refl _)
    simp [Instr.sliceAt, run_underlying ht, Instr.slice, Instr.sliceBounds, this]
  · have := fun code => hr s.size code w (Nat.le_refl _)
    simp [Instr.sliceAt, run_underlying ht, Instr.slice, Instr.sliceBounds, this]
  · have e1 := fun code => hr s.size code w (Nat.le_refl _)
    have e2 := fun code => hr2 u code w (Nat.le_refl _)
    simp [Instr.sliceAt, run_underlying ht, Instr.slice, Instr.sliceBounds, e1, e2]
end Go.Ab
end
section
namespace Go.Ab
variable {X : Cx} {m m' : M} {h h' : Hp} {w w' : World} {P : Program}
theorem capLow_o (c : Nat) : capLow (2 * c + 1) = c := by show (2 * c + 1) / 2 = c; omega
theorem capLow_e (c : Nat) : capLow (2 * c) = c := by show 2 * c / 2 = c; omega
theorem capExact_o (c : Nat) : capExact (2 * c + 1) = true := by
  show Nat.beq ((2 * c + 1) % 2) 1 = true
  rw [beq_iff]; omega
theorem capExact_e (c : Nat) : capExact (2 * c) = false := by
  show Nat.beq ((2 * c) % 2) 1 = false
  rw [beq_f]; omega
/-- the bounds of the model and those reckoned -/
theorem bounds_inv {hp : Hp} {size len cap c' : Nat} {a : Addr} {ex isS : Bool} {lo hi mx lo' hi' mx' : Option Value} (hl : VRO m lo lo') (hu : VRO m hi hi') (hm : VRO m mx mx') (hcap : cap ≤ c') (hex : ex = true → cap = c') {k : K1}
    (hh : sliceA hp size a len cap ex lo hi mx k = true) :
    ∃ l u mm mc ex', (∀ w : World, (Instr.sliceBounds isS len c' lo' hi' mx').run P w = .ok (l, u, mc) w) ∧ sliceB hp size a mm ex' l u k = true ∧ mm ≤ mc ∧ (ex' = true → mm = mc) ∧ (ex' = false → mm = cap ∧ mc = c' ∧ ex = false) ∧ (a.block = ghost → mx' = none ∧ mc = c' ∧ ex' = ex ∧ mm = cap) := by
  rcases opt2_inv hh with ⟨rfl, h1⟩ | ⟨mv, rfl, h1⟩
  · cases hm
    obtain ⟨u, h2, h3⟩ := bndO_inv (P := P) hu h1
    obtain ⟨l, h4, h5⟩ := bndO_inv (P := P) hl h2
    refine ⟨l, u, cap, c', ex, fun w => ?_, h4, hcap, hex, fun e => ⟨rfl, rfl, e⟩, fun _ => ⟨rfl, rfl, rfl, rfl⟩⟩
    rcases h3 with ⟨rfl, rfl⟩ | ⟨hv, rfl, hle, hr⟩ <;> rcases h5 with ⟨rfl, rfl⟩ | ⟨lv, rfl, hle2, hr2⟩
    · simp [Instr.sliceBounds]
    · have e2 := fun code => hr2 u code w (Nat.le_refl _)
      simp [Instr.sliceBounds, e2]
    · have e1 := fun code => hr c' code w hcap
      simp [Instr.sliceBounds, e1]
    · have e1 := fun code => hr c' code w hcap
      have e2 := fun code => hr2 u code w (Nat.le_refl _)
      simp [Instr.sliceBounds, e1, e2]
  · cases hm with
    | some hmv =>
      obtain ⟨hg, h1⟩ := rec_f h1
      have hg := beq_f.1 hg
      obtain ⟨mm, g1, g2, g3⟩ := bnd_inv (P := P) hmv h1
      obtain ⟨uv, rfl, g2⟩ := opt_inv g2
      cases hu with
      | some huv =>
        obtain ⟨u, f1, f2, f3⟩ := bnd_inv (P := P) huv g2
        obtain ⟨l, h4, h5⟩ := bndO_inv (P := P) hl f2
        refine ⟨l, u, mm, mm, true, fun w => ?_, h4, Nat.le_refl _, fun _ => rfl, ⟨fun e => Bool.noConfusion e, fun e => absurd e hg⟩⟩
        have e0 := fun code => g3 c' code w hcap
        have e1 := fun code => f3 mm code w (Nat.le_refl _)
        rcases h5 with ⟨rfl, rfl⟩ | ⟨lv, rfl, hle2, hr2⟩
        · simp [Instr.sliceBounds, e0, e1]
        · have e2 := fun code => hr2 u code w (Nat.le_refl _)
          simp [Instr.sliceBounds, e0, e1, e2]
theorem esOk_inv (hs : Sim X m h w) {size l : Nat} {a a' : Addr} {p : Pl} (ha : AR m a a') (hp : m a.block = some p) {k : Bool} (hh : esOk h size l a k = true) : k = true ∧ (l = 0 ∨ p.es = size) := by
  unfold esOk at hh
  rcases rec_inv hh with ⟨h1, h2⟩ | ⟨h1, h2⟩
  · obtain ⟨c, h3, h4⟩ := Hp.cells_inv h2
    obtain ⟨p', hp', o, hw, hb⟩ : ∃ p', m a.block = some p' ∧ ∃ o, w.heap[p'.b]? = some o ∧ BlkR m c p' o := by
      obtain ⟨o, ho, hlr⟩ := hs.rel _ p hp (live_iff_blk h3)
      exact ⟨p, hp, o, ho, hlr.1 c h3⟩
    rw [hp] at hp'; injection hp' with hp'; subst hp'
    obtain ⟨cs, fr, _, hb'⟩ := hb
    have e := hb'.es
    rcases h4 with ⟨_, h4⟩ | ⟨_, s2, l2, el2, rfl, h4⟩
    · obtain ⟨e1, e2⟩ := rec_t h4
      exact ⟨e2, .inr (by rw [← e]; exact beq_iff.1 e1)⟩
    · obtain ⟨e1, e2⟩ := rec_t h4
      exact ⟨e2, .inr (by rw [← e]; exact beq_iff.1 e1)⟩
  · exact ⟨h2, .inl (beq_iff.1 h1)⟩
theorem sliceB_inv (hs : Sim X m h w) {size mm mc l u : Nat} {ex : Bool} {a a' : Addr} (ha : AR m a a') (hle : mm ≤ mc) (hex : ex = true → mm = mc)
    (hroom : ex = false → ∃ p, m a.block = some p ∧ a'.off + mc * p.es ≤ p.sz) {k : K1} (hh : sliceB h size a mm ex l u k = true) :
    ∃ v, VR m v (.slice (some (if mc = l then a' else a'.add (l * size))) (u - l) (mc - l)) ∧ k v = true := by
  unfold sliceB at hh
  obtain ⟨had, _, hoff⟩ := ha.add (l * size)
  rcases rec_inv hh with ⟨h1, h2⟩ | ⟨h1, h2⟩
  · have h1 : mm < l + 1 := ble_f.1 h1
    obtain ⟨h3, h4⟩ := rec_t h2
    have h3 := beq_iff.1 h3
    obtain ⟨h5, h6⟩ := rec_t h4
    have h5 := beq_iff.1 h5
    subst h3; subst h5
    rcases rec_inv h6 with ⟨rfl, h7⟩ | ⟨rfl, h7⟩
    · rcases rec_inv h7 with ⟨h8, h9⟩ | ⟨h8, h9⟩
      · exact ⟨_, by rw [Nat.sub_self]; exact .slG _ _, h9⟩
      · have h8 := beq_iff.1 h8
        subst h8
        obtain ⟨p, hp, hr⟩ := hroom rfl
        refine ⟨_, ?_, h9⟩
        have e : (if mc = 0 then a' else a'.add (0 * size)) = a' := by
          obtain ⟨q1, q2, q3, q4⟩ := ha
          subst q4
          split
          · rfl
          · rw [add_none]; simp
        rw [e]
        exact .slL (n := 0) (k := 0) ha hp (Nat.zero_le _) hr
    · have := hex rfl
      subst this
      refine ⟨_, ?_, h7⟩
      simp only [if_true, Nat.sub_self]
      exact .slE 0 0 ha
  · have h1 : l + 1 ≤ mm := ble_iff.1 h1
    have e : (if mc = l then a' else a'.add (l * size)) = a'.add (l * size) := by rw [if_neg (by omega)]
    rw [e]
    rcases rec_inv h2 with ⟨rfl, h3⟩ | ⟨rfl, h3⟩
    · obtain ⟨p, hp, hr⟩ := hroom rfl
      obtain ⟨h4, h5⟩ := esOk_inv hs ha hp h3
      refine ⟨_, .slL (p := p) had (by rw [(ha.add (l * size)).2.1]; exact hp) (show mm - l ≤ mc - l by omega) ?_, h4⟩
      have hoff' : (a'.add (l * size)).off = a'.off + l * size := by
        obtain ⟨q1, q2, q3, q4⟩ := ha
        subst q4
        rw [add_none]
      rw [hoff']
      rcases h5 with rfl | rfl
      · simpa using hr
      · have : (mc - l) * p.es + l * p.es = mc * p.es := by rw [← Nat.add_mul]; congr 1; omega
        omega
    · have := hex rfl
      subst this
      exact ⟨_, .slE (u - l) (mm - l) had, h3⟩
theorem sliceL_inv (hs : Sim X m h w) {t e : TypeId} {s : Nat} {ag : Bool} (ht : P.underlying t = some (.slice e)) (hk : TK P e s ag) {x x' : Value} {lo hi mx lo' hi' mx' : Option Value} (hx : VR m x x') (hl : VRO m lo lo') (hu : VRO m hi hi') (hm : VRO m mx mx') {k : K1}
    (hh : vSl x (fun a n c => Option.rec (sliceNil n c lo hi mx k) (fun a => sliceA h s a n (capLow c) (capExact c) lo hi mx k) a) (ff 63) = true) :
    ∃ v', (Instr.sliceAt t x' lo' hi' mx').run P w = .ok v' w ∧ ∃ v, VR m v v' ∧ k v = true := by
  rcases vSl_inv hh with ⟨a, n, c, rfl, h1⟩ | h1
  case inr => exact ffa h1
  have main : ∀ {a : Addr} {a' : Addr} {c' : Nat}, AR m a a' → capLow c ≤ c' → (capExact c = true → capLow c = c') → (capExact c = false → ∃ p, m a.block = some p ∧ a'.off + c' * p.es ≤ p.sz) →
      sliceA h s a n (capLow c) (capExact c) lo hi mx k = true → ∃ v', (Instr.sliceAt t (.slice (some a') n c') lo' hi' mx').run P w = .ok v' w ∧ ∃ v, VR m v v' ∧ k v = true := by
    intro a a' c' ha g1 g2 g3 g4
    obtain ⟨l, u, mm, mc, ex', f1, f2, f3, f4, f5, f6⟩ := bounds_inv (P := P) (isS := true) hl hu hm g1 g2 g4
    obtain ⟨v, f8, f7⟩ := sliceB_inv hs ha f3 f4 (fun e => by
      obtain ⟨_, e2, e3⟩ := f5 e
      rw [e2]; exact g3 e3) f2
    refine ⟨_, ?_, v, f8, f7⟩
    simp only [Instr.sliceAt, Instr.slice, Sem.run_bind, run_underlying ht, Result.andThen_ok, f1 w, hk.size w, Sem.run_pure]
    congr 2
    split <;> simp_all
  rcases opt2_inv h1 with ⟨rfl, h2⟩ | ⟨a, rfl, h2⟩
  · obtain ⟨h3, h4⟩ := rec_t h2
    cases hx
    obtain ⟨n1, g1, g2⟩ := bndO_inv (P := P) hm h4
    obtain ⟨n2, f1, f2⟩ := bndO_inv (P := P) hu g1
    obtain ⟨n3, e1, e2⟩ := bndO_inv (P := P) hl f1
    have e3 : k (.slice none 0 0) = true := e1
    refine ⟨.slice none 0 0, ?_, _, .snil, e3⟩
    have hz : ∀ {v : Option Value} {n : Nat}, ((v = none ∧ n = 0) ∨ ∃ u, v = some u ∧ n ≤ 0 ∧ ∀ (y' : Nat) (code : BoundsCode) (w : World), 0 ≤ y' → (Instr.sliceBound u y' code).run P w = .ok n w) → v = none ∨ ∃ u, v = some u ∧ ∀ (code : BoundsCode) (w : World), (Instr.sliceBound u 0 code).run P w = .ok 0 w := by
      intro v n hv
      rcases hv with ⟨rfl, _⟩ | ⟨u, rfl, hn, hr⟩
      · exact .inl rfl
      · have : n = 0 := by omega
        subst this
        exact .inr ⟨u, rfl, fun code w => hr 0 code w (Nat.le_refl _)⟩
    have hmx : mx' = none ∨ hi' ≠ none := by
      cases hm with
      | none => exact .inl rfl
      | some _ =>
        cases hu with
        | none => exact ffa h3
        | some _ => exact .inr (by simp)
    rcases hz g2 with rfl | ⟨mv, rfl, r1⟩ <;> rcases hz f2 with rfl | ⟨uv, rfl, r2⟩ <;> rcases hz e2 with rfl | ⟨lv, rfl, r3⟩
    all_goals first
      | (exfalso; simp at hmx; done)
      | (simp [Instr.sliceAt, run_underlying ht, Instr.slice, Instr.sliceBounds, hk.size w, *]; done)
  · cases hx with
    | slE n c ha => exact main ha (by rw [capLow_o]; exact Nat.le_refl _) (fun _ => capLow_o c) (fun e => by rw [capExact_o] at e; cases e) h2
    | slL ha hp hk hr => exact main ha (by rw [capLow_e]; exact hk) (fun e => by rw [capExact_e] at e; cases e) (fun _ => ⟨_, hp, hr⟩) h2
    | slG a' c' =>
      obtain ⟨l, u, mm, mc, ex', f1, f2, f3, f4, f5, f6⟩ := bounds_inv (P := P) (isS := true) (len := 0) (cap := capLow 0) (c' := c') hl hu hm (Nat.zero_le _) (fun e => by cases e) h2
      obtain ⟨rfl, rfl, rfl, rfl⟩ := f6 rfl
      have f2 : sliceB h s ⟨ghost, 0, none⟩ 0 false l u k = true := f2
      unfold sliceB at f2
      obtain ⟨h3, h4⟩ := rec_t (show (Bool.rec (ff 50) (Bool.rec (ff 50) (Bool.rec (Bool.rec (k (.slice (some ⟨ghost, 0, none⟩) 0 0)) (k (.slice (some ⟨ghost, 0, none⟩) 0 0)) (Nat.beq l 0)) (k (.slice (some ⟨ghost, 0, none⟩) 0 1)) false) (Nat.beq u l)) (Nat.beq 0 l) : Bool) = true from f2)
      have h3 := beq_iff.1 h3
      obtain ⟨h5, h6⟩ := rec_t h4
      have h5 := beq_iff.1 h5
      subst h3; subst h5
      refine ⟨_, ?_, .slice (some ⟨ghost, 0, none⟩) 0 0, .slG (if mc = 0 then a' else a'.add (0 * s)) mc, h6⟩
      simp only [Instr.sliceAt, Instr.slice, Sem.run_bind, run_underlying ht, Result.andThen_ok, f1 w, hk.size w, Sem.run_pure]
      congr 2
      split <;> simp_all
theorem sliceP_inv (hs : Sim X m h w) {t e : TypeId} {s n : Nat} {ag : Bool} (ht : P.underlying t = some (.array n e)) (hk : TK P e s ag) {x x' : Value} {lo hi mx lo' hi' mx' : Option Value} (hx : VR m x x') (hl : VRO m lo lo') (hu : VRO m hi hi') (hm : VRO m mx mx') {k : K1}
    (hh : vPtr x (fun a => spot0 a (sliceA h s a n n true lo hi mx k)) (ff 63) = true) :
    ∃ v', (Instr.sliceAt t x' lo' hi' mx').run P w = .ok v' w ∧ ∃ v, VR m v v' ∧ k v = true := by
  obtain ⟨a, rfl, h1⟩ := vPtr_inv hh
  obtain ⟨_, h1⟩ := spot0_inv h1
  cases hx with
  | ptr ha =>
    obtain ⟨l, u, mm, mc, ex', f1, f2, f3, f4, f5, f6⟩ := bounds_inv (P := P) (isS := false) hl hu hm (Nat.le_refl _) (fun _ => rfl) h1
    obtain ⟨v, f8, f7⟩ := sliceB_inv hs ha f3 f4 (fun e => by obtain ⟨_, _, e3⟩ := f5 e; cases e3) f2
    refine ⟨_, ?_, v, f8, f7⟩
    simp only [Instr.sliceAt, Sem.run_bind, run_underlying ht, Result.andThen_ok, f1 w, hk.size w, Sem.run_pure, Instr.sureAddr]
end Go.Ab
end
section
namespace Go.Ab
variable {X : Cx} {m m' : M} {h h' : Hp} {w w' : World} {P : Program}
theorem VR.notBool {v v' : Value} (hv : VR m v v') (hn : ∀ b, v ≠ .bool b) : ∀ b, v' ≠ .bool b := by
  cases hv with
  | top v h => exact h
  | bool b => exact absurd rfl (hn b)
  | _ => intro b e; cases e
theorem pick_inv {c c' x x' y y' : Value} (hc : VR m c c') {k : K1} (hx : VR m x x') (hy : VR m y y')
    (hh : vBool c (fun t => Bool.rec (k y) (k x) t) (ff 180) = true) (w : World) : ∃ t, c' = .bool t ∧ ∃ v, VR m v (if t then x' else y') ∧ k v = true := by
  rcases vBool_inv hh with ⟨t, rfl, h1⟩ | h1
  case inr => exact ffa h1
  cases hc
  rcases rec_inv h1 with ⟨rfl, h2⟩ | ⟨rfl, h2⟩
  · exact ⟨false, rfl, y, hy, h2⟩
  · exact ⟨true, rfl, x, hx, h2⟩
def nilRun (v : Value) : Sem Next := match v with
    | .pointer none | .nilIface | .nilFunc => runtimePanic .nilDeref
    | .func (.method name) first captured =>
      match (first[0]? : Option Value) with
      | some .nilIface => runtimePanic .nilDeref
      | some (.iface t w) => do
        if (← nilAhead ((← program).types.size + Made.depth) t w name) != some false then
          unsupported (.noEntry "op/nilCheck.the method's receiver behind this interface value is a nil pointer, or cannot be seen to be none, and the arguments act or may panic (ledger 612)")
        pure (.value (.func (.method name) first captured))
      | _ => pure (.value (.func (.method name) first captured))
    | x => pure (.value x)
theorem nil_inv {x x' : Value} (hx : VR m x x') {k : Bool} (hh : nilC x k = true) (w : World) : (nilRun x').run P w = .ok (.value x') w ∧ k = true := by
  rcases vPtrO_inv hh with ⟨a, rfl, h1⟩ | h1
  · obtain ⟨a, rfl, h2⟩ := opt_inv h1
    cases hx
    exact ⟨rfl, h2⟩
  · split at h1
    · exact ffa h1
    · exact ffa h1
    · cases hx; exact ⟨rfl, h1⟩
    · cases hx; exact ⟨rfl, h1⟩
    · exact ffa h1
    · exact ffa h1
    · refine ⟨?_, h1⟩
      cases hx with
      | top v h => simp_all
      | pnil => simp [nilC, vPtrO, ff] at hh
      | nilIface => simp_all
      | nilFunc => simp_all
      | _ => rfl
theorem neg_inv {op : UnOp} (ho : op = .neg ∨ op = .xor) {x x' : Value} (hx : VR m x x') {k : K1}
    (hh : vInt x (fun kd n => pr (Op.unary op (.int kd n)) k) (ff 189) = true) (w : World) : ∃ v', (Op.unary op x').run P w = .ok v' w ∧ ∃ v, VR m v v' ∧ k v = true := by
  rcases vInt_inv hh with ⟨kd, n, rfl, h1⟩ | h1
  case inr => exact ffa h1
  cases hx
  obtain ⟨v, h2, h3⟩ := pr_inv h1
  have : ∃ i, v = .int kd i := by
    rcases ho with rfl | rfl
    · have h2 : Op.intArith .sub kd 0 n = .pure v := h2
      unfold Op.intArith at h2
      injection h2 with h2; exact ⟨_, h2.symm⟩
    · exact intBits_int (op := .xor) h2
  obtain ⟨i, rfl⟩ := this
  exact ⟨.int kd i, by rw [h2]; rfl, _, .int _ _, h3⟩
theorem not_inv {x x' : Value} (hx : VR m x x') {k : K1} (hh : vBool x (fun t => k (.bool (bnot t))) (ff 189) = true) (w : World) : ∃ v', (Op.unary .not x').run P w = .ok v' w ∧ ∃ v, VR m v v' ∧ k v = true := by
  rcases vBool_inv hh with ⟨t, rfl, h1⟩ | h1
  case inr => exact ffa h1
  cases hx
  have h1 : k (.bool (bnot t)) = true := h1
  rw [bnot_eq] at h1
  exact ⟨.bool (!t), rfl, _, .bool _, h1⟩
theorem cvI_inv {s d : TypeId} {kd j : IntKind} (h1 : P.underlying s = some (.int j)) (h2 : P.underlying d = some (.int kd)) {x x' : Value} (hx : VR m x x') {k : K1}
    (hh : vInt x (fun _ n => k (.int kd (wr kd n))) (ff 120) = true) (w : World) : ∃ v', (convert s d x').run P w = .ok v' w ∧ ∃ v, VR m v v' ∧ k v = true := by
  rcases vInt_inv hh with ⟨j, n, rfl, h3⟩ | h3
  case inr => exact ffa h3
  cases hx
  have h3 : k (.int kd (wr kd n)) = true := h3
  rw [wr_eq] at h3
  exact ⟨.int kd (kd.wrap n), by simp [convert, run_underlying h1, run_underlying h2, Conv.intToInt], _, .int _ _, h3⟩
theorem cvS_inv {s d : TypeId} {j : IntKind} (h1 : P.underlying s = some (.int j)) (h2 : P.underlying d = some .string) {x x' : Value} (hx : VR m x x') {k : K1}
    (hh : vInt x (fun _ n => k (.string (Utf8.encode n))) (ff 121) = true) (w : World) : ∃ v', (convert s d x').run P w = .ok v' w ∧ ∃ v, VR m v v' ∧ k v = true := by
  rcases vInt_inv hh with ⟨j, n, rfl, h3⟩ | h3
  case inr => exact ffa h3
  cases hx
  exact ⟨.string (Utf8.encode n), by simp [convert, run_underlying h1, run_underlying h2, Conv.intToString], _, .string _, h3⟩
theorem cvSS_inv {s d : TypeId} (h1 : P.underlying s = some .string) (h2 : P.underlying d = some .string) {x x' : Value} (hx : VR m x x') {k : K1}
    (hh : vStr x (fun s => k (.string s)) (ff 121) = true) (w : World) : ∃ v', (convert s d x').run P w = .ok v' w ∧ ∃ v, VR m v v' ∧ k v = true := by
  rcases vStr_inv hh with ⟨s, rfl, h3⟩ | h3
  case inr => exact ffa h3
  cases hx
  exact ⟨.string s, by simp [convert, run_underlying h1, run_underlying h2], _, .string _, h3⟩
theorem convSB {s d e : TypeId} (h1 : P.underlying s = some .string) (h2 : P.underlying d = some (.slice e)) (h3 : P.underlying e = some (.int .u8)) (q : ByteArray) (w : World) : (convert s d (.string q)).run P w = (Conv.stringToBytes e q).run P w := by
  simp [convert, run_underlying h1, run_underlying h2, run_underlying h3]
theorem convSR {s d e : TypeId} (h1 : P.underlying s = some .string) (h2 : P.underlying d = some (.slice e)) (h3 : P.underlying e = some (.int .i32)) (q : ByteArray) (w : World) : (convert s d (.string q)).run P w = (Conv.stringToRunes e q).run P w := by
  simp [convert, run_underlying h1, run_underlying h2, run_underlying h3]
theorem convBS {s d e : TypeId} (h1 : P.underlying s = some (.slice e)) (h2 : P.underlying d = some .string) (h3 : P.underlying e = some (.int .u8)) (a : Option Addr) (n c : Nat) (w : World) : (convert s d (.slice a n c)).run P w = (Conv.bytesToString (.slice a n c)).run P w := by
  simp [convert, run_underlying h1, run_underlying h2, run_underlying h3]
theorem min_inv {x x' y y' : Value} (hx : VR m x x') (hy : VR m y y') {k : K1} (hh : ints x y (fun kd a c => k (.int kd (Bool.rec a c (ilt c a)))) (ff 162) = true) (ts : Array TypeId) (ty : TypeId) (w : World) :
    ∃ v', (Builtin.min_ ts ty #[x', y']).run P w = .ok v' w ∧ ∃ v, VR m v v' ∧ k v = true := by
  rcases ints_inv hh with ⟨kd, a, c, rfl, rfl, h1⟩ | h1
  case inr => exact ffa h1
  cases hx; cases hy
  have e : (Bool.rec a c (ilt c a) : Int) = if c < a then c else a := by
    rw [ilt_eq]; by_cases hq : c < a <;> simp [hq]
  have h1 : k (.int kd (Bool.rec a c (ilt c a))) = true := h1
  rw [e] at h1
  exact ⟨_, by simp [Builtin.min_, Builtin.min2], _, .int _ _, h1⟩
theorem max_inv {x x' y y' : Value} (hx : VR m x x') (hy : VR m y y') {k : K1} (hh : ints x y (fun kd a c => k (.int kd (Bool.rec a c (ilt a c)))) (ff 162) = true) (ts : Array TypeId) (ty : TypeId) (w : World) :
    ∃ v', (Builtin.max_ ts ty #[x', y']).run P w = .ok v' w ∧ ∃ v, VR m v v' ∧ k v = true := by
  rcases ints_inv hh with ⟨kd, a, c, rfl, rfl, h1⟩ | h1
  case inr => exact ffa h1
  cases hx; cases hy
  have e : (Bool.rec a c (ilt a c) : Int) = if a < c then c else a := by
    rw [ilt_eq]; by_cases hq : a < c <;> simp [hq]
  have h1 : k (.int kd (Bool.rec a c (ilt a c))) = true := h1
  rw [e] at h1
  exact ⟨_, by simp [Builtin.max_, Builtin.max2], _, .int _ _, h1⟩
theorem cap_inv {t e : TypeId} (ht : P.underlying t = some (.slice e)) {x x' : Value} (hx : VR m x x') {k : K1}
    (hh : vSl x (fun a n c => Option.rec (Bool.rec (ff 163) (Bool.rec (ff 163) (k (goInt 0)) (Nat.beq n 0)) (Nat.beq c 0)) (fun _ => Bool.rec (ff 163) (k (goInt (capLow c))) (capExact c)) a) (ff 163) = true) (ts : List TypeId) (ty : TypeId) (w : World) :
    ∃ v', (Builtin.cap_ ⟨t :: ts⟩ ty #[x']).run P w = .ok v' w ∧ ∃ v, VR m v v' ∧ k v = true := by
  have hdef : ∀ a n c, (Builtin.cap_ ⟨t :: ts⟩ ty #[.slice a n c]).run P w = .ok (goInt c) w := by
    intro a n c
    have : Builtin.cap_ ⟨t :: ts⟩ ty #[.slice a n c] = (do
      match ← underlying t, Value.slice a n c with
      | .array n _, _ => pure (goInt n)
      | .pointer arr, _ =>
        let .array n _ ← underlying arr | stuck "cap: pointer to array expected"
        pure (goInt n)
      | .slice _, .slice _ _ n => pure (goInt n)
      | .chan _ _, .chan none => pure (goInt 0)
      | .chan _ _, .chan (some r) =>
        let .chan n _ _ _ _ timer ← getObj r | stuck "cap: channel expected"
        pure (goInt (if timer then 0 else n))
      | _, _ => stuck "cap: array, pointer to array, slice or channel expected") := rfl
    rw [this]
    simp [run_underlying ht]
  rcases vSl_inv hh with ⟨a, n, c, rfl, h1⟩ | h1
  case inr => exact ffa h1
  rcases opt2_inv h1 with ⟨rfl, h2⟩ | ⟨a, rfl, h2⟩
  · cases hx
    exact ⟨_, hdef _ _ _, _, .int _ _, h2⟩
  · obtain ⟨h3, h4⟩ := rec_t h2
    cases hx with
    | slE n c ha => rw [capLow_o] at h4; exact ⟨_, hdef _ _ _, _, .int _ _, h4⟩
    | slL ha hp hk hr => rw [capExact_e] at h3; cases h3
    | slG a' c => cases h3
theorem len_def (t : TypeId) (ts : List TypeId) (ty : TypeId) (x' : Value) : Builtin.len_ ⟨t :: ts⟩ ty #[x'] = (do
    match ← underlying t, x' with
    | .string, .string s => pure (goInt s.size)
    | .array n _, _ => pure (goInt n)
    | .pointer arr, _ =>
      let .array n _ ← underlying arr | stuck "len: pointer to array expected"
      pure (goInt n)
    | .slice _, .slice _ n _ => pure (goInt n)
    | .map _ _, .map none | .chan _ _, .chan none => pure (goInt 0)
    | .map _ _, .map (some r) =>
      let .map entries _ ← getObj r | stuck "len: map expected"
      pure (goInt entries.size)
    | .chan _ _, .chan (some r) =>
      let .chan _ buf _ _ _ timer ← getObj r | stuck "len: channel expected"
      pure (goInt (if timer then 0 else buf.size))
    | _, _ => stuck "len: string, array, pointer to array, slice, map or channel expected") := rfl
theorem lenL_inv {t e : TypeId} (ht : P.underlying t = some (.slice e)) {x x' : Value} (hx : VR m x x') {k : K1}
    (hh : vSl x (fun _ n _ => k (goInt n)) (ff 251) = true) (ts : List TypeId) (ty : TypeId) (w : World) :
    ∃ v', (Builtin.len_ ⟨t :: ts⟩ ty #[x']).run P w = .ok v' w ∧ ∃ v, VR m v v' ∧ k v = true := by
  rcases vSl_inv hh with ⟨a, n, c, rfl, h1⟩ | h1
  case inr => exact ffa h1
  have : ∃ a' c', x' = .slice a' n c' := by cases hx <;> exact ⟨_, _, rfl⟩
  obtain ⟨a', c', rfl⟩ := this
  exact ⟨goInt n, by rw [len_def]; simp [run_underlying ht], _, .int _ _, h1⟩
theorem lenS_inv {t : TypeId} (ht : P.underlying t = some .string) {x x' : Value} (hx : VR m x x') {k : K1}
    (hh : vStr x (fun s => k (goInt s.data.toList.length)) (ff 251) = true) (ts : List TypeId) (ty : TypeId) (w : World) :
    ∃ v', (Builtin.len_ ⟨t :: ts⟩ ty #[x']).run P w = .ok v' w ∧ ∃ v, VR m v v' ∧ k v = true := by
  rcases vStr_inv hh with ⟨s, rfl, h2⟩ | h2
  case inr => exact ffa h2
  cases hx
  exact ⟨goInt s.size, by rw [len_def]; simp [run_underlying ht], _, .int _ _, h2⟩
/-! ### variables -/
theorem cells_rel {v v' : Value} (hv : VR m v v') {f : List Value → Bool} (hh : vCells v f = true) : ∃ l, f l = true ∧ VRL m l v'.cells.toList ∧ ∀ u ∈ l, isCell u = true := by
  rcases vCells_inv hh with ⟨cs, rfl, h1⟩ | ⟨h0, h1⟩
  · obtain ⟨a', rfl, h2, h3⟩ := hv.agg_inv
    exact ⟨_, h1, h2, h3⟩
  · refine ⟨_, h1, ?_, by intro u hu; simp at hu; subst hu; exact h0⟩
    rw [(hv.cell h0).2]
    exact .cons hv .nil
theorem alloc_run {t : TypeId} {i : TypeInfo} {z : Value} (hi : P.info? t = some i) (hz : i.zero = some z) (w : World) :
    (Instr.alloc t true (.tuple #[])).run P w = .ok (.pointer (some ⟨w.heap.size, 0, none⟩)) (w.alloc (.cells z.cells t)) := by
  simp [Instr.alloc, zeroValue_run hi hz, newVar, newRow]
theorem box_run (t : TypeId) (v : Value) (w : World) : (Instr.box t v).run P w = .ok (.pointer (some ⟨w.heap.size, 0, none⟩)) (w.alloc (.cells v.cells t)) := by
  simp [Instr.box, newVar, newRow]
end Go.Ab
end
section
namespace Go.Ab
variable {X : Cx} {m m' : M} {h h' : Hp} {w w' : World} {P : Program}
/-! ### the context -/
structure Cok (P : Program) (c : Ct) : Prop where
  ty : TyOK P c.P
  lies : ∀ u e o s, c.lies u e o s = true → Ab.lies P u e o s = true
  flat : ∀ t ks, findF t c.flat = some ks → FlatOK P t ks
theorem kdOf_ok {c : Ct} (hC : Cok P c) {t : TypeId} {kd : KD} (h : kdOf c t = some kd) : KdOK P t kd := by
  unfold kdOf at h
  split at h
  · injection h with h; subst h; exact .inl ⟨rfl, _, under_ok hC.ty (by assumption)⟩
  · injection h with h; subst h; exact .inr (.inl ⟨rfl, under_ok hC.ty (by assumption)⟩)
  · injection h with h; subst h; exact .inr (.inr ⟨rfl, under_ok hC.ty (by assumption)⟩)
  · rw [Option.map_eq_some_iff] at h
    obtain ⟨ks, h1, rfl⟩ := h
    exact hC.flat _ _ h1
  · cases h
theorem tzero_ok {ty : Ty} (hT : TyOK P ty) {t : TypeId} {z : Value} (h : tzero ty t = some z) : ∃ i, P.info? t = some i ∧ i.zero = some z ∧ plainV z = true := by
  unfold tzero tinfo at h
  split at h
  · rename_i i hi
    split at h
    · rename_i z' hz
      split at h
      · rename_i hp
        injection h with h; subst h
        exact ⟨i, hT _ _ hi, hz, hp⟩
      · cases h
    · cases h
  · cases h
theorem plain_cells {z : Value} (h : plainV z = true) : (∀ m, VRL m (cellsOf z) (cellsOf z)) ∧ (∀ v ∈ cellsOf z, isCell v = true) ∧ z.cells.toList = cellsOf z := by
  unfold plainV at h
  split at h
  · rename_i l
    exact ⟨fun m => (VRL.plain (m := m) h).1, (VRL.plain (m := fun _ => none) h).2, rfl⟩
  · rename_i hna
    have h1 := fun m => VR.plain1 (m := m) h
    have hc : cellsOf z = [z] := by
      unfold cellsOf
      split
      · exact absurd rfl (hna _)
      · rfl
    rw [hc]
    refine ⟨fun m => .cons (h1 m).1 .nil, by intro v hv; simp at hv; subst hv; exact (h1 (fun _ => none)).2, ?_⟩
    rw [((h1 (fun _ => none)).1.cell (h1 (fun _ => none)).2).2]
theorem zOk_ok {ty : Ty} (hT : TyOK P ty) {t : TypeId} {s : Nat} {ag : Bool} (hk : TK P t s ag) (h : zOk ty t s = true) : ZOk P t s (zOf ty t) := by
  unfold zOk at h
  simp only [Bool.and_eq_true, beq_iff_eq] at h
  obtain ⟨h1, h2⟩ := h
  obtain ⟨z, hz⟩ := Option.isSome_iff_exists.1 h1
  obtain ⟨i, h3, h4, h5⟩ := tzero_ok hT hz
  have hzv : zV ty t = z := by unfold zV; rw [hz]; rfl
  obtain ⟨p1, p2, p3⟩ := plain_cells h5
  obtain ⟨j, h6, h7⟩ := hk.info
  rw [h3] at h6; injection h6 with h6; subst h6
  have e : zOf ty t = cellsOf z := by unfold zOf; rw [hzv]
  exact ⟨⟨i, z, h3, h7, h4, by rw [e, p3]⟩, h2, by rw [e]; exact p1, by rw [e]; exact p2⟩
/-! ### operands -/
def OpV (m : M) (e : E) (b : Bd) (c : Ct) (ds : Ds) (n : Nat) (ρ : Operand → Value) (x : Operand) : Prop := ∀ g, cG c ds n x = some g → GV m e b g (ρ x)
inductive GVL (m : M) (e : E) (b : Bd) : List G → List Value → Prop
  | nil : GVL m e b [] []
  | cons {g : G} {v : Value} {l : List G} {l' : List Value} (h : GV m e b g v) (t : GVL m e b l l') : GVL m e b (g :: l) (v :: l')
inductive GVO (m : M) (e : E) (b : Bd) : Option G → Option Value → Prop
  | none : GVO m e b none none
  | some {g : G} {v : Value} (h : GV m e b g v) : GVO m e b (some g) (some v)
variable {e : E} {b : Bd} {c : Ct} {ds : Ds} {n : Nat} {ρ : Operand → Value}
theorem evL_inv : ∀ {gs : List G} {l' : List Value} {k : List Value → Bool}, GVL m e b gs l' → evL gs e b k = true → ∃ l, VRL m l l' ∧ k l = true
  | _, _, k, .nil, h => ⟨[], .nil, h⟩
  | _, _, k, .cons hg t, h => by
    obtain ⟨v, h1, h2⟩ := hg _ h
    obtain ⟨l, h3, h4⟩ := evL_inv t h2
    exact ⟨v :: l, .cons h1 h3, h4⟩
theorem evO_inv {go : Option G} {v' : Option Value} {k : Option Value → Bool} (hg : GVO m e b go v') (h : evO go e b k = true) : ∃ v, VRO m v v' ∧ k v = true := by
  cases hg with
  | none => exact ⟨none, .none, h⟩
  | some hg =>
    obtain ⟨v, h1, h2⟩ := hg _ h
    exact ⟨some v, .some h1, h2⟩
theorem cL_ok : ∀ {xs : List Operand} {gs : List G}, cL c ds n xs = some gs → (∀ x ∈ xs, OpV m e b c ds n ρ x) → GVL m e b gs (xs.map ρ)
  | [], gs, h, _ => by
    injection h with h; subst h; exact .nil
  | x :: l, gs, h, hx => by
    simp only [cL, Option.bind_eq_bind, Option.bind_eq_some_iff, Option.pure_def, Option.some.injEq] at h
    obtain ⟨g, h1, l', h2, rfl⟩ := h
    exact .cons (hx x (by simp) g h1) (cL_ok h2 fun y hy => hx y (by simp [hy]))
theorem cO_ok {x : Option Operand} {go : Option G} (h : cO c ds n x = some go) (hx : ∀ y, x = some y → OpV m e b c ds n ρ y) : GVO m e b go (x.map ρ) := by
  cases x with
  | none => injection h with h; subst h; exact .none
  | some y =>
    simp only [cO, Option.map_eq_some_iff] at h
    obtain ⟨g, h1, rfl⟩ := h
    exact .some (hx y rfl g h1)
theorem cParts_ok {len : Nat} {place : Nat → Option (Nat × Nat)} : ∀ {ps : List (Nat × Operand)} {qs : List (Nat × Nat × G)}, cParts c ds n len place ps = some qs → (∀ x ∈ ps.map (·.2), OpV m e b c ds n ρ x) →
    PsR m e b len place qs (ps.map fun x => (x.1, ρ x.2))
  | [], qs, h, _ => by injection h with h; subst h; exact .nil
  | (i, x) :: l, qs, h, hx => by
    simp only [cParts, Option.bind_eq_bind, Option.bind_eq_some_iff] at h
    obtain ⟨⟨o, s⟩, h1, h2⟩ := h
    simp only at h2
    split at h2
    · rename_i hle
      simp only [Option.bind_eq_bind, Option.bind_eq_some_iff, Option.pure_def, Option.some.injEq] at h2
      obtain ⟨g, h3, l', h4, rfl⟩ := h2
      exact .cons h1 hle (hx x (by simp) g h3) (cParts_ok h4 fun y hy => hx y (by simp only [List.map_cons, List.mem_cons]; exact .inr hy))
    · cases h2
theorem cPs_ok : ∀ {ps : List (Nat × Operand)} {qs : List (Nat × G)}, cPs c ds n ps = some qs → (∀ x ∈ ps.map (·.2), OpV m e b c ds n ρ x) →
    ∀ {k : List (Nat × Value) → Bool}, evP qs e b k = true → ∃ l, l.map (·.1) = (ps.map fun x => (x.1, ρ x.2)).map (·.1) ∧ VRL m (l.map (·.2)) ((ps.map fun x => (x.1, ρ x.2)).map (·.2)) ∧ k l = true
  | [], qs, h, _, k, hh => by injection h with h; subst h; exact ⟨[], rfl, .nil, hh⟩
  | (i, x) :: l, qs, h, hx, k, hh => by
    simp only [cPs, Option.bind_eq_bind, Option.bind_eq_some_iff, Option.pure_def, Option.some.injEq] at h
    obtain ⟨g, h1, l', h2, rfl⟩ := h
    obtain ⟨v, h3, h4⟩ := hx x (by simp) g h1 _ hh
    obtain ⟨r, h5, h6, h7⟩ := cPs_ok h2 (fun y hy => hx y (by simp only [List.map_cons, List.mem_cons]; exact .inr hy)) h4
    exact ⟨(i, v) :: r, by simpa using h5, by simpa using VRL.cons h3 h6, h7⟩
/-! ### an operation's run -/
def OkR (X : Cx) (P : Program) (m : M) (h : Hp) (w : World) (s : Sem Next) (k : KV) : Prop := ∃ r v' w', s.run P w = .ok r w' ∧ Done X m h w k v' w' ∧ (r = .value v' ∨ (r = .skip ∧ v' = undef))
theorem OkR.val {s : Sem Value} {k : KV} {v' : Value} {w' : World} (hr : s.run P w = .ok v' w') (hd : Done X m h w k v' w') : OkR X P m h w (do pure (.value (← s))) k :=
  ⟨_, v', w', by simp [hr], hd, .inl rfl⟩
theorem OkR.val' {s : Sem Value} {k : KV} (hh : ∃ v' w', s.run P w = .ok v' w' ∧ Done X m h w k v' w') : OkR X P m h w (do pure (.value (← s))) k := by
  obtain ⟨v', w', h1, h2⟩ := hh; exact OkR.val h1 h2
theorem OkR.pur (hs : Sim X m h w) {s : Sem Value} {k : KV} (hh : ∃ v', s.run P w = .ok v' w ∧ ∃ v, VR m v v' ∧ k v h = true) : OkR X P m h w (do pure (.value (← s))) k := by
  obtain ⟨v', h1, v, h2, h3⟩ := hh; exact OkR.val h1 (Done.of hs h2 h3)
theorem OkR.skip {s : Sem Unit} {k : KV} (hh : ∃ w' h', s.run P w = .ok () w' ∧ Sim X m h' w' ∧ Tn m h w m h' w' ∧ k top h' = true) : OkR X P m h w (do s; pure .skip) k := by
  obtain ⟨w', h', h1, h2, h3, h4⟩ := hh
  exact ⟨.skip, undef, w', by simp [h1], ⟨m, h', top, .top _ (by intro b hb; cases hb), h2, h3, h4⟩, .inr ⟨rfl, rfl⟩⟩
/-- what is asked of an operation -/
structure OpOk (X : Cx) (P : Program) (c : Ct) (ds : Ds) (n : Nat) (o : Oper) (F : F) : Prop where
  run : ∀ {m : M} {h : Hp} {w : World} {e : E} {b : Bd} {ρ : Operand → Value} {cl : Cl} {k : KV}, Sim X m h w → (∀ v, ρ (.const v) = v) → (∀ x ∈ o.op.operands.toList, OpV m e b c ds n ρ x) → F cl e b h k = true → OkR X P m h w (execOp ρ o) k
end Go.Ab
end
section
namespace Go.Ab
variable {X : Cx} {m m' : M} {h h' : Hp} {w w' : World} {P : Program}
variable {e : E} {b : Bd} {c : Ct} {ds : Ds} {n : Nat} {ρ : Operand → Value} {o : Oper} {d : Option Nat} {ty : TypeId} {f : F}
theorem ok_move {x : Operand} (ho : o.op = .move x ∨ o.op = .assign x) (h : (cG c ds n x).map oMove = some f) : OpOk X P c ds n o f := ⟨by
  intro m hp w e b ρ cl k hs hc hx hh
  rw [Option.map_eq_some_iff] at h
  obtain ⟨g, hg, rfl⟩ := h
  obtain ⟨v, h1, h2⟩ := (hx x (by rcases ho with ho | ho <;> simp [ho, Op.operands])) g hg _ hh
  refine ⟨.value (ρ x), ρ x, w, ?_, Done.of hs h1 h2, .inl rfl⟩
  rcases ho with ho | ho <;> simp [execOp, ho]⟩
theorem ok_pick {a x y : Operand} (ho : o.op = .pick a x y) (h : cOp c d ds n ty (.pick a x y) = some f) : OpOk X P c ds n o f := ⟨by
  intro m hp w e b ρ cl k hs hc hx hh
  simp only [cOp, Option.bind_eq_bind, Option.bind_eq_some_iff, Option.pure_def, Option.some.injEq] at h
  obtain ⟨g1, hg1, g2, hg2, g3, hg3, rfl⟩ := h
  have o1 := hx a (by simp [ho, Op.operands]) g1 hg1
  have o2 := hx x (by simp [ho, Op.operands]) g2 hg2
  have o3 := hx y (by simp [ho, Op.operands]) g3 hg3
  obtain ⟨v, h1, h2⟩ := o1 _ hh
  rcases vBool_inv h2 with ⟨t, rfl, h3⟩ | h3
  case inr => exact ffa h3
  generalize hv : ρ a = v' at h1
  cases h1
  rcases rec_inv h3 with ⟨rfl, h3⟩ | ⟨rfl, h3⟩
  · obtain ⟨u, h4, h5⟩ := o3 _ h3
    exact ⟨.value (ρ y), ρ y, w, by simp [execOp, ho, hv, asBool], Done.of hs h4 h5, .inl rfl⟩
  · obtain ⟨u, h4, h5⟩ := o2 _ h3
    exact ⟨.value (ρ x), ρ x, w, by simp [execOp, ho, hv, asBool], Done.of hs h4 h5, .inl rfl⟩⟩
theorem ok_alloc (hC : Cok P c) {t : TypeId} (ho : o.op = .alloc t) (h : cOp c d ds n ty (.alloc t) = some f) : OpOk X P c ds n o f := ⟨by
  intro m hp w e b ρ cl k hs hc hx hh
  simp only [cOp, Option.bind_eq_bind, Option.bind_eq_some_iff] at h
  obtain ⟨⟨s, ag⟩, h1, h2⟩ := h
  have hk := tkind_ok hC.ty h1
  simp only at h2
  split at h2
  · rename_i hz
    have hz := zOk_ok hC.ty hk hz
    obtain ⟨i, v, i1, i2, i3, i4⟩ := hz.info
    have he : execOp ρ o = (do pure (.value (← Instr.alloc t true (.tuple #[])))) := by simp [execOp, ho]
    rw [he]
    injection h2 with h2
    subst h2
    have hr := alloc_run (P := P) i1 i3 w
    have hcs : v.cells = (zOf c.P t).toArray := Array.ext' (by rw [i4])
    rw [hcs] at hr
    refine OkR.val hr ?_
    split at hh
    · exact newY_inv hs (hz.vr m) hz.cell hz.len hh
    · exact newV_inv hs (hz.vr m) hz.cell hz.len hh
  · cases h2⟩
theorem ok_box (hC : Cok P c) {t : TypeId} {x : Operand} (ho : o.op = .box t x) (h : cOp c d ds n ty (.box t x) = some f) : OpOk X P c ds n o f := ⟨by
  intro m hp w e b ρ cl k hs hc hx hh
  simp only [cOp, Option.bind_eq_bind, Option.bind_eq_some_iff, Option.pure_def, Option.some.injEq] at h
  obtain ⟨⟨s, ag⟩, h1, g, hg, h2⟩ := h
  have o1 := hx x (by simp [ho, Op.operands]) g hg
  have he : execOp ρ o = (do pure (.value (← Instr.box t (ρ x)))) := by simp [execOp, ho]
  rw [he]
  subst h2
  have key : ∀ {vs : List Value}, VRL m vs (ρ x).cells.toList → (ρ x).cells = (ρ x).cells.toList.toArray := fun _ => rfl
  have hr := box_run (P := P) (w := w) t (ρ x)
  refine OkR.val hr ?_
  split at hh
  · obtain ⟨v, h3, h4⟩ := o1 _ hh
    obtain ⟨l, h5, h6, h7⟩ := cells_rel h3 h4
    obtain ⟨h8, h9⟩ := lenIs_inv h5
    exact newY_inv hs h6 h7 h8 h9
  · obtain ⟨v, h3, h4⟩ := o1 _ hh
    obtain ⟨l, h5, h6, h7⟩ := cells_rel h3 h4
    obtain ⟨h8, h9⟩ := lenIs_inv h5
    exact newV_inv hs h6 h7 h8 h9⟩
theorem places_run (fs : Array Field) (hf : ∀ f ∈ fs.toList, ∃ i, P.info? f.type = some i) (w : World) :
    ∃ ps : Array (Nat × Nat), (fs.mapM (fun f => do pure (f.offset, ← sizeOf f.type) : Field → Sem (Nat × Nat))).run P w = .ok ps w ∧ ∀ (i : Nat) (fl : Field) (s : Nat), fs[i]? = some fl → (∃ j, P.info? fl.type = some j ∧ j.size = s) → ps[i]? = some (fl.offset, s) := by
  rw [Array.mapM_eq_mapM_toList]
  obtain ⟨l⟩ := fs
  have : ∃ ps : List (Nat × Nat), (l.mapM (fun f => do pure (f.offset, ← sizeOf f.type) : Field → Sem (Nat × Nat))).run P w = .ok ps w ∧ ∀ (i : Nat) (fl : Field) (s : Nat), l[i]? = some fl → (∃ j, P.info? fl.type = some j ∧ j.size = s) → ps[i]? = some (fl.offset, s) := by
    have hf : ∀ f ∈ l, ∃ i, P.info? f.type = some i := hf
    induction l with
    | nil => exact ⟨[], by simp, by simp⟩
    | cons f l ih =>
      obtain ⟨ps, h1, h2⟩ := ih (fun x hx => hf x (by simp [hx])) (fun x hx => hf x (by simp [hx]))
      obtain ⟨i, hi⟩ := hf f (by simp)
      refine ⟨(f.offset, i.size) :: ps, by simp [List.mapM_cons, sizeOf, typeInfo, hi]; simp [sizeOf, typeInfo] at h1; simp [h1], ?_⟩
      intro j fl s hj hs
      cases j with
      | zero =>
        simp at hj; subst hj
        obtain ⟨q, q1, q2⟩ := hs
        rw [hi] at q1; injection q1 with q1; subst q1; subst q2; simp
      | succ j => simpa using h2 j fl s (by simpa using hj) hs
  obtain ⟨ps, h1, h2⟩ := this
  refine ⟨ps.toArray, ?_, fun i fl s hi hs => by simpa using h2 i fl s (by simpa using hi) hs⟩
  simp only [map_eq_pure_bind, Sem.run_bind, h1, Result.andThen_ok, Sem.run_pure]
theorem PsR.place {len : Nat} {p1 p2 : Nat → Option (Nat × Nat)} (hp : ∀ i x, p1 i = some x → p2 i = some x) : ∀ {qs : List (Nat × Nat × G)} {ps : List (Nat × Value)}, PsR m e b len p1 qs ps → PsR m e b len p2 qs ps
  | _, _, .nil => .nil
  | _, _, .cons a b c t => .cons (hp _ _ a) b c (PsR.place hp t)
theorem ok_build (hC : Cok P c) {t : TypeId} {ps : Array (Nat × Operand)} (ho : o.op = .build t ps) (h : cOp c d ds n ty (.build t ps) = some f) : OpOk X P c ds n o f := ⟨by
  intro m hp w e b ρ cl k hs hc hx hh
  simp only [cOp, Option.bind_eq_bind, Option.bind_eq_some_iff] at h
  obtain ⟨⟨s, ag⟩, h1, h2⟩ := h
  have hk := tkind_ok hC.ty h1
  simp only at h2
  have hx' : ∀ x ∈ ps.toList.map (·.2), OpV m e b c ds n ρ x := fun x hm => hx x (by
    rw [ho]; simpa [Op.operands] using hm)
  have he : execOp ρ o = (do pure (.value (← Instr.build t (ps.map fun x => (x.1, ρ x.2))))) := by simp [execOp, ho]
  rw [he]
  have hpl : (ps.map fun x => (x.1, ρ x.2)).toList = ps.toList.map fun x => (x.1, ρ x.2) := by simp
  split at h2
  case isFalse => cases h2
  rename_i hz
  have hz := zOk_ok hC.ty hk hz
  obtain ⟨i, v, i1, i2, i3, i4⟩ := hz.info
  have hzr := zeroValue_run (P := P) i1 i3 w
  have hcs : v.cells = (zOf c.P t).toArray := Array.ext' (by rw [i4])
  have hsz : (zOf c.P t).toArray.size = s := by simpa using hz.len
  split at h2
  · rename_i fs hfs
    split at h2
    case isFalse => cases h2
    rename_i hall
    simp only [Option.bind_eq_bind, Option.bind_eq_some_iff, Option.pure_def, Option.some.injEq] at h2
    obtain ⟨qs, hq, rfl⟩ := h2
    have hu := fields_ok hC.ty hfs
    obtain ⟨pl, hp1, hp2⟩ := places_run (P := P) fs (fun f hf => by
      have := List.all_eq_true.1 hall f hf
      obtain ⟨i, hi⟩ := Option.isSome_iff_exists.1 this
      exact ⟨i, hC.ty _ _ hi⟩) w
    have hR := (cParts_ok hq hx').place (p2 := fun i => pl[i]?) (fun i x hix => by
      rw [Option.map_eq_some_iff] at hix
      obtain ⟨⟨o1, s1, a1⟩, f1, rfl⟩ := hix
      obtain ⟨fs', fl, f2, f3, f4, f5⟩ := fieldOf_ok hC.ty f1
      rw [hu] at f2; injection f2 with f2; injection f2 with f2; subst f2
      rw [← f4]
      exact hp2 i fl s1 f3 f5.info)
    obtain ⟨c', cs', r1, r2, r3, r4⟩ := parts_inv hR (cs := (zOf c.P t).toArray) (by simpa using hz.vr m) hz.cell hsz hh
    refine OkR.val (v' := .agg cs') ?_ (Done.of hs (.agg (a := ⟨c'⟩) r2 r3) r4)
    simp only [Instr.build, Sem.run_bind, hzr, Result.andThen_ok, run_underlying hu, hp1, hpl, hcs, r1, Sem.run_pure]
  · simp only [Option.bind_eq_bind, Option.bind_eq_some_iff, Option.pure_def, Option.some.injEq] at h2
    obtain ⟨⟨len, e1, size, ag1⟩, ha, qs, hq, rfl⟩ := h2
    unfold arrElem at ha
    split at ha
    · rename_i len' e' hu
      rw [Option.map_eq_some_iff] at ha
      obtain ⟨⟨x1, x2, x3⟩, ha, hb⟩ := ha
      injection hb with hb hb2; injection hb2 with hb2 hb3; injection hb3 with hb3 hb4
      subst hb; subst hb2; subst hb3; subst hb4
      obtain ⟨rfl, hk2, _⟩ := elemK_ok hC.ty ha
      have hR := cParts_ok hq hx'
      obtain ⟨c', cs', r1, r2, r3, r4⟩ := parts_inv hR (cs := (zOf c.P t).toArray) (by simpa using hz.vr m) hz.cell hsz hh
      refine OkR.val (v' := .agg cs') ?_ (Done.of hs (.agg (a := ⟨c'⟩) r2 r3) r4)
      simp only [Instr.build, Sem.run_bind, hzr, Result.andThen_ok, run_underlying (under_ok hC.ty hu), hk2.size w, hpl, hcs, r1, Sem.run_pure]
    · cases ha⟩
theorem sliceElem_ok {t : Ty} (hT : TyOK P t) {x e : TypeId} {s : Nat} {ag : Bool} (h : sliceElem t x = some (e, s, ag)) : P.underlying x = some (.slice e) ∧ TK P e s ag ∧ ∃ i, P.info? e = some i ∧ i.size = s ∧ i.bytes ≤ 1000000 := by
  unfold sliceElem at h
  split at h
  · rename_i e' hu
    obtain ⟨rfl, h1, h2⟩ := elemK_ok hT h
    exact ⟨under_ok hT hu, h1, h2⟩
  · cases h
theorem ok_buildSlice (hC : Cok P c) {t : TypeId} {q : Nat} {ps : Array (Nat × Operand)} (ho : o.op = .buildSlice t q ps) (h : cOp c d ds n ty (.buildSlice t q ps) = some f) : OpOk X P c ds n o f := ⟨by
  intro m hp w e b ρ cl k hs hc hx hh
  simp only [cOp, Option.bind_eq_bind, Option.bind_eq_some_iff] at h
  obtain ⟨⟨el, size, ag⟩, h1, h2⟩ := h
  obtain ⟨hu, hk, _⟩ := sliceElem_ok hC.ty h1
  have hx' : ∀ x ∈ ps.toList.map (·.2), OpV m e b c ds n ρ x := fun x hm => hx x (by
    rw [ho]; simpa [Op.operands] using hm)
  have he : execOp ρ o = (do pure (.value (← Instr.buildSlice t q (ps.map fun x => (x.1, ρ x.2))))) := by simp [execOp, ho]
  rw [he]
  simp only at h2
  split at h2
  case isFalse => cases h2
  rename_i hz
  simp only [Option.bind_eq_bind, Option.bind_eq_some_iff, Option.pure_def, Option.some.injEq] at h2
  obtain ⟨qs, hq, rfl⟩ := h2
  obtain ⟨l, r1, r2, r3⟩ := cPs_ok hq hx' hh
  have hpl : (ps.map fun x => (x.1, ρ x.2)) = (ps.toList.map fun x => (x.1, ρ x.2)).toArray := Array.ext' (by simp)
  rw [hpl]
  exact OkR.val' (buildSlice_inv hs hu (zOk_ok hC.ty hk hz) r1 r2 r3)⟩
end Go.Ab
end
section
namespace Go.Ab
variable {X : Cx} {m m' : M} {h h' : Hp} {w w' : World} {P : Program}
variable {e : E} {b : Bd} {c : Ct} {ds : Ds} {n : Nat} {ρ : Operand → Value} {o : Oper} {d : Option Nat} {ty : TypeId} {f : F}
theorem ok_load (hC : Cok P c) {t : TypeId} {a : Operand} (ho : o.op = .load t a) (h : cOp c d ds n ty (.load t a) = some f) : OpOk X P c ds n o f := ⟨by
  intro m hp w e b ρ cl k hs hc hx hh
  simp only [cOp, Option.bind_eq_bind, Option.bind_eq_some_iff] at h
  obtain ⟨⟨s, ag⟩, h1, g, hg, h2⟩ := h
  have hk := tkind_ok hC.ty h1
  have o1 := hx a (by simp [ho, Op.operands]) g hg
  have he : execOp ρ o = (do pure (.value (← Instr.loadAt t (ρ a)))) := by simp [execOp, ho]
  rw [he]
  simp only at h2
  split at h2
  · rename_i hag; subst hag
    simp only [Option.pure_def, Option.some.injEq] at h2; subst h2
    obtain ⟨v, h3, h4⟩ := o1 _ hh
    obtain ⟨ad, rfl, h5⟩ := vPtr_inv h4
    generalize hv : ρ a = v' at h3
    cases h3 with
    | ptr ha =>
      obtain ⟨l, l', h6, h7⟩ := loadC_inv hs ha h5
      rename_i a'
      have hr := run_loadCells_list (P := P) w a' l' h6.at'
      rw [← h6.vr.length, h6.len] at hr
      refine OkR.val (v' := .agg l'.toArray) ?_ (Done.of hs (.agg (a := ⟨l⟩) (by simpa using h6.vr) h6.cell) h7)
      simp [Instr.loadAt, Instr.sureAddr, loadVar, hk.agg w, hk.size w, hr]
  · rename_i hag
    have hag : ag = false := by simpa using hag
    subst hag
    split at h2
    · simp only [Option.pure_def, Option.some.injEq] at h2; subst h2
      obtain ⟨v, h3, h4⟩ := o1 _ hh
      obtain ⟨ad, rfl, h5⟩ := vPtr_inv h4
      generalize hv : ρ a = v' at h3
      cases h3 with
      | ptr ha =>
        obtain ⟨u, u', h6, h7, h8, h9⟩ := load1_inv hs ha h5
        refine OkR.val (v' := u') ?_ (Done.of hs h6 h9)
        simp [Instr.loadAt, Instr.sureAddr, loadVar, hk.agg w, load, Sem.run, h8]
    · cases h2⟩
theorem ok_store (hC : Cok P c) {t : TypeId} {a x : Operand} (ho : o.op = .store t a x) (h : cOp c d ds n ty (.store t a x) = some f) : OpOk X P c ds n o f := ⟨by
  intro m hp w e b ρ cl k hs hc hx hh
  simp only [cOp, Option.bind_eq_bind, Option.bind_eq_some_iff] at h
  obtain ⟨⟨s, ag⟩, h1, g, hg, y, hy, h2⟩ := h
  have hk := tkind_ok hC.ty h1
  have o1 := hx a (by simp [ho, Op.operands]) g hg
  have o2 := hx x (by simp [ho, Op.operands]) y hy
  have he : execOp ρ o = (do Instr.storeAt t (ρ a) (ρ x); pure .skip) := by simp [execOp, ho]
  rw [he]
  have fin : ∀ {a' ad : Addr} {vs : List Value}, ρ a = .pointer (some a') → AR m ad a' → VRL m vs (ρ x).cells.toList → (∀ u ∈ vs, isCell u = true) → vs.length = s → storeC hp ad s vs (fun h' => k top h') = true →
      OkR X P m hp w (do Instr.storeAt t (ρ a) (ρ x); pure .skip) k := by
    intro a' ad vs e1 e2 e3 e4 e5 e6
    obtain ⟨h', w', r1, r2, r3, r4⟩ := storeC_inv hs e2 e3 e4 e5 e6
    refine OkR.skip ⟨w', h', ?_, r1, r2, r3⟩
    have hsz : (ρ x).cells.size = s := by rw [← e5, e3.length]; simp
    simp [Instr.storeAt, e1, Instr.sureAddr, storeVar, hk.size w, hsz, r4 P]
  simp only at h2
  split at h2
  · simp only [Option.pure_def, Option.some.injEq] at h2; subst h2
    obtain ⟨v, h3, h4⟩ := o1 _ hh
    obtain ⟨ad, rfl, h5⟩ := vPtr_inv h4
    obtain ⟨v2, h6, h7⟩ := o2 _ h5
    rcases vAgg_inv h7 with ⟨vs, rfl, h8⟩ | h8
    case inr => exact ffa h8
    obtain ⟨h9, h10⟩ := lenIs_inv h8
    obtain ⟨vs', e1, e2, e3⟩ := h6.agg_inv
    generalize hv : ρ a = v' at h3
    cases h3 with
    | ptr ha =>
      rw [← hv]
      exact fin hv ha (by rw [e1]; exact e2) e3 h9 h10
  · split at h2
    · rename_i hs1
      simp only [Option.pure_def, Option.some.injEq] at h2; subst h2
      obtain ⟨v, h3, h4⟩ := o1 _ hh
      obtain ⟨ad, rfl, h5⟩ := vPtr_inv h4
      obtain ⟨v2, h6, h7⟩ := o2 _ h5
      obtain ⟨h8, h9⟩ := rec_t h7
      generalize hv : ρ a = v' at h3
      cases h3 with
      | ptr ha =>
        rw [← hv]
        refine fin hv ha (vs := [v2]) ?_ (by intro u hu; simp at hu; subst hu; exact h8) (by simp [hs1]) (by rw [hs1]; exact h9)
        rw [(h6.cell h8).2]
        exact .cons h6 .nil
    · cases h2⟩
theorem ok_nil {x : Operand} (ho : o.op = .nilCheck x) (h : (cG c ds n x).map oNil = some f) : OpOk X P c ds n o f := ⟨by
  intro m hp w e b ρ cl k hs hc hx hh
  rw [Option.map_eq_some_iff] at h
  obtain ⟨g, hg, rfl⟩ := h
  obtain ⟨v, h1, h2⟩ := (hx x (by simp [ho, Op.operands])) g hg _ hh
  obtain ⟨h3, h4⟩ := nil_inv (P := P) h1 h2 w
  have he : execOp ρ o = nilRun (ρ x) := by simp [execOp, ho, nilRun]; rfl
  exact ⟨_, _, w, by rw [he]; exact h3, Done.of hs h1 h4, .inl rfl⟩⟩
theorem cEq_ok (hC : Cok P c) {t : TypeId} {y : Operand} {q : Value → Value → Hp → (Bool → Bool) → Bool} (h : cEq c t y = some q) : EqL X P t y q := by
  unfold cEq at h
  split at h
  · injection h with h; subst h; exact eI_inv
  · injection h with h; subst h; exact eS_inv
  · rename_i hu; injection h with h; subst h; exact eB_inv (under_ok hC.ty hu)
  · rename_i el hu
    split at h
    · rename_i s ag hk
      split at h
      · cases h
      · injection h with h; subst h
        obtain ⟨i, h1, h2⟩ := (tkind_ok hC.ty hk).info
        exact eP_inv' (under_ok hC.ty hu) h1 (by rw [h2]; assumption)
    · cases h
  · rename_i hu
    split at h
    · injection h with h; subst h; exact eNI_inv (under_ok hC.ty hu)
    · cases h
  · rename_i hu
    split at h
    · injection h with h; subst h; exact eNS_inv (under_ok hC.ty hu)
    · cases h
  · rename_i hu
    split at h
    · injection h with h; subst h; exact eNM_inv (under_ok hC.ty hu)
    · cases h
  · rename_i hu
    split at h
    · injection h with h; subst h; exact eNF_inv (under_ok hC.ty hu)
    · cases h
  · rw [Option.map_eq_some_iff] at h
    obtain ⟨ks, h1, rfl⟩ := h
    exact eA_inv (hC.flat _ _ h1)
  · cases h
theorem cBin_ok (hC : Cok P c) {op : BinOp} {t : TypeId} {y : Operand} {q : BF} (h : cBin c op t y = some q) : BinC X P op t y q := by
  unfold cBin at h
  split at h
  · rw [Option.map_eq_some_iff] at h
    obtain ⟨r, h1, rfl⟩ := h
    exact EqL.eql (cEq_ok hC h1)
  · rw [Option.map_eq_some_iff] at h
    obtain ⟨r, h1, rfl⟩ := h
    exact EqL.neq (cEq_ok hC h1)
  · split at h
    · split at h <;> first | cases h | (injection h with h; subst h)
      · exact Bin.toC bAdd_inv
      · exact Bin.toC bSub_inv
      · exact Bin.toC bMul_inv
      · exact Bin.toC (bDiv_inv (.inl rfl))
      · exact Bin.toC (bDiv_inv (.inr rfl))
      · exact Bin.toC (bBits_inv (.inl rfl))
      · exact Bin.toC (bBits_inv (.inr (.inl rfl)))
      · exact Bin.toC (bBits_inv (.inr (.inr (.inl rfl))))
      · exact Bin.toC (bBits_inv (.inr (.inr (.inr rfl))))
      · exact Bin.toC (bShift_inv (.inl rfl))
      · exact Bin.toC (bShift_inv (.inr rfl))
      · exact Bin.toC bLss_inv
      · exact Bin.toC bGtr_inv
      · exact Bin.toC bLeq_inv
      · exact Bin.toC bGeq_inv
    · split at h
      · injection h with h; subst h; exact Bin.toC bCat_inv
      · cases h
    · cases h
theorem ok_bin (hC : Cok P c) {op : BinOp} {t u : TypeId} {x y : Operand} (ho : o.op = .binOp op t x y u) (h : cOp c d ds n ty (.binOp op t x y u) = some f) : OpOk X P c ds n o f := ⟨by
  intro m hp w e b ρ cl k hs hc hx hh
  simp only [cOp, Option.bind_eq_bind, Option.bind_eq_some_iff, Option.pure_def, Option.some.injEq] at h
  obtain ⟨q, hq, g1, hg1, g2, hg2, rfl⟩ := h
  have o1 := hx x (by simp [ho, Op.operands]) g1 hg1
  have o2 := hx y (by simp [ho, Op.operands]) g2 hg2
  have he : execOp ρ o = (do pure (.value (← (do eqGuard op t x y (ρ x) (ρ y); binOp op t (ρ x) (ρ y))))) := by simp [execOp, ho]
  rw [he]
  obtain ⟨v, h1, h2⟩ := o1 _ hh
  obtain ⟨v2, h3, h4⟩ := o2 _ h2
  exact OkR.pur hs (cBin_ok (X := X) hC hq hs h1 h3 (fun v hv => by rw [hv]; exact hc v) h4)⟩
theorem ok_un (hC : Cok P c) {op : UnOp} {t : TypeId} {x : Operand} (ho : o.op = .unOp op t x) (h : cOp c d ds n ty (.unOp op t x) = some f) : OpOk X P c ds n o f := ⟨by
  intro m hp w e b ρ cl k hs hc hx hh
  simp only [cOp, Option.bind_eq_bind, Option.bind_eq_some_iff] at h
  obtain ⟨g, hg, h2⟩ := h
  have o1 := hx x (by simp [ho, Op.operands]) g hg
  have he : execOp ρ o = (do pure (.value (← Op.unary op (ρ x)))) := by simp [execOp, ho]
  rw [he]
  split at h2
  · simp only [Option.pure_def, Option.some.injEq] at h2; subst h2
    obtain ⟨v, h3, h4⟩ := o1 _ hh
    exact OkR.pur hs (not_inv (k := fun v => k v hp) h3 h4 w)
  · simp only [Option.pure_def, Option.some.injEq] at h2; subst h2
    obtain ⟨v, h3, h4⟩ := o1 _ hh
    exact OkR.pur hs (neg_inv (.inl rfl) (k := fun v => k v hp) h3 h4 w)
  · simp only [Option.pure_def, Option.some.injEq] at h2; subst h2
    obtain ⟨v, h3, h4⟩ := o1 _ hh
    exact OkR.pur hs (neg_inv (.inr rfl) (k := fun v => k v hp) h3 h4 w)
  · cases h2⟩
theorem ok_conv (hC : Cok P c) {s t : TypeId} {x : Operand} (ho : o.op = .convert s t x) (h : cOp c d ds n ty (.convert s t x) = some f) : OpOk X P c ds n o f := ⟨by
  intro m hp w e b ρ cl k hs hc hx hh
  simp only [cOp, Option.bind_eq_bind, Option.bind_eq_some_iff] at h
  obtain ⟨g, hg, h2⟩ := h
  have o1 := hx x (by simp [ho, Op.operands]) g hg
  have he : execOp ρ o = (do pure (.value (← convert s t (ρ x)))) := by simp [execOp, ho]
  rw [he]
  have hU := @under_ok P c.P hC.ty
  unfold cConv at h2
  split at h2
  · rename_i e1 e2
    injection h2 with h2; subst h2
    obtain ⟨v, h3, h4⟩ := o1 _ hh
    exact OkR.pur hs (cvI_inv (hU e1) (hU e2) (k := fun v => k v hp) h3 h4 w)
  · rename_i e1 e2
    injection h2 with h2; subst h2
    obtain ⟨v, h3, h4⟩ := o1 _ hh
    exact OkR.pur hs (cvS_inv (hU e1) (hU e2) (k := fun v => k v hp) h3 h4 w)
  · rename_i e1 e2
    injection h2 with h2; subst h2
    obtain ⟨v, h3, h4⟩ := o1 _ hh
    exact OkR.pur hs (cvSS_inv (hU e1) (hU e2) (k := fun v => k v hp) h3 h4 w)
  · rename_i el e1 e2
    split at h2
    · rename_i e3
      rw [Option.bind_eq_some_iff] at h2
      obtain ⟨_, _, h2⟩ := h2
      injection h2 with h2; subst h2
      obtain ⟨v, h3, h4⟩ := o1 _ hh
      rcases vStr_inv h4 with ⟨q, rfl, h5⟩ | h5
      case inr => exact ffa h5
      generalize hv : ρ x = v' at h3
      cases h3
      obtain ⟨v', w', r1, r2⟩ := cvSB_inv (P := P) hs h5
      exact OkR.val (by rw [convSB (hU e1) (hU e2) (hU e3)]; exact r1) r2
    · rename_i e3
      rw [Option.bind_eq_some_iff] at h2
      obtain ⟨_, _, h2⟩ := h2
      injection h2 with h2; subst h2
      obtain ⟨v, h3, h4⟩ := o1 _ hh
      rcases vStr_inv h4 with ⟨q, rfl, h5⟩ | h5
      case inr => exact ffa h5
      generalize hv : ρ x = v' at h3
      cases h3
      obtain ⟨v', w', r1, r2⟩ := cvSR_inv (P := P) hs h5
      exact OkR.val (by rw [convSR (hU e1) (hU e2) (hU e3)]; exact r1) r2
    · cases h2
  · rename_i el e1 e2
    split at h2
    · rename_i e3
      injection h2 with h2; subst h2
      obtain ⟨v, h3, h4⟩ := o1 _ hh
      obtain ⟨v', r1, r2⟩ := cvBS_inv (P := P) hs h3 h4
      have : ∃ a n c, ρ x = .slice a n c := by
        rcases vSl_inv h4 with ⟨a, n, c, rfl, _⟩ | h5
        · generalize hv : ρ x = v' at h3
          cases h3 <;> exact ⟨_, _, _, rfl⟩
        · exact ffa h5
      obtain ⟨a, n, c, hsl⟩ := this
      rw [hsl] at r1 ⊢
      exact OkR.val (by rw [convBS (hU e1) (hU e2) (hU e3)]; exact r1) r2
    · cases h2
  · rename_i q e1 e2
    split at h2
    · rename_i s0 a0 hk
      split at h2
      · cases h2
      · injection h2 with h2; subst h2
        obtain ⟨v, h3, h4⟩ := o1 _ hh
        obtain ⟨i, i1, i2⟩ := (tkind_ok hC.ty hk).info
        obtain ⟨v', r1, r2⟩ := cvPU_inv hs (hU e1) (hU e2) i1 (by rw [i2]; assumption) h3 h4
        exact OkR.val r1 r2
    · cases h2
  · rename_i u e1 e2
    split at h2
    · rename_i i hi
      injection h2 with h2; subst h2
      obtain ⟨v, h3, h4⟩ := o1 _ hh
      obtain ⟨v', r1, r2⟩ := cvUP_inv hs (L := c.lies u) (hC.lies u) (hU e1) (hU e2) (hC.ty _ _ hi) h3 h4
      exact OkR.val r1 r2
    · cases h2
  · cases h2⟩
end Go.Ab
end
section
namespace Go.Ab
variable {X : Cx} {m m' : M} {h h' : Hp} {w w' : World} {P : Program}
variable {e : E} {b : Bd} {c : Ct} {ds : Ds} {n : Nat} {ρ : Operand → Value} {o : Oper} {d : Option Nat} {ty : TypeId} {f : F}
theorem ok_iface (hC : Cok P c) {t : TypeId} {x : Operand} (ho : o.op = .makeInterface t x) (h : cOp c d ds n ty (.makeInterface t x) = some f) : OpOk X P c ds n o f := ⟨by
  intro m hp w e b ρ cl k hs hc hx hh
  simp only [cOp] at h
  have he : execOp ρ o = (do pure (.value (← Instr.makeInterface t (ρ x)))) := by simp [execOp, ho]
  rw [he]
  split at h
  · cases h
  · rename_i dd hu hne
    rw [Option.map_eq_some_iff] at h
    obtain ⟨g, hg, rfl⟩ := h
    obtain ⟨v, h3, h4⟩ := (hx x (by simp [ho, Op.operands])) g hg _ hh
    exact OkR.pur hs (iface_inv (under_ok hC.ty hne) (fun ms e => by subst e; exact hu _ rfl) (k := fun v => k v hp) h3 h4 w)
  · cases h⟩
theorem ok_func {fn : Fn} {a q : Array Operand} (ho : o.op = .makeFunc fn a q) (h : cOp c d ds n ty (.makeFunc fn a q) = some f) : OpOk X P c ds n o f := ⟨by
  intro m hp w e b ρ cl k hs hc hx hh
  simp only [cOp] at h
  have he : execOp ρ o = (do pure (.value (← Instr.makeFunc fn (a.map ρ) (q.map ρ)))) := by simp [execOp, ho]
  rw [he]
  split at h
  · rename_i g
    simp only [Option.bind_eq_bind, Option.bind_eq_some_iff, Option.pure_def, Option.some.injEq] at h
    obtain ⟨g1, hg1, g2, hg2, rfl⟩ := h
    have o1 := cL_ok hg1 (fun x hxm => hx x (by rw [ho]; simp [Op.operands]; exact .inl (by simpa using hxm)))
    have o2 := cL_ok hg2 (fun x hxm => hx x (by rw [ho]; simp [Op.operands]; exact .inr (by simpa using hxm)))
    obtain ⟨l1, r1, r2⟩ := evL_inv o1 hh
    obtain ⟨l2, r3, r4⟩ := evL_inv o2 r2
    refine OkR.pur hs ⟨.func (.func g) (a.map ρ) (q.map ρ), rfl, _, .func (a := ⟨l1⟩) (b := ⟨l2⟩) (by simpa using r1) (by simpa using r3), r4⟩
  · cases h⟩
theorem ok_makeMap {t : TypeId} {r : Option Operand} (ho : o.op = .makeMap t r) (h : cOp c d ds n ty (.makeMap t r) = some f) : OpOk X P c ds n o f := ⟨by
  intro m hp w e b ρ cl k hs hc hx hh
  simp only [cOp] at h
  cases r with
  | some r => cases h
  | none =>
    injection h with h; subst h
    have he : execOp ρ o = (do pure (.value (← Instr.makeMap t none))) := by simp [execOp, ho]
    rw [he]
    exact OkR.val' (makeMap_inv hs hh)⟩
theorem ok_makeSlice (hC : Cok P c) {t : TypeId} {l q : Operand} (ho : o.op = .makeSlice t l q) (h : cOp c d ds n ty (.makeSlice t l q) = some f) : OpOk X P c ds n o f := ⟨by
  intro m hp w e b ρ cl k hs hc hx hh
  simp only [cOp, Option.bind_eq_bind, Option.bind_eq_some_iff] at h
  obtain ⟨⟨el, size, ag⟩, h1, h2⟩ := h
  obtain ⟨hu, hk, i, i1, i2, i3⟩ := sliceElem_ok hC.ty h1
  have he : execOp ρ o = (do pure (.value (← Instr.makeSlice t (ρ l) (ρ q)))) := by simp [execOp, ho]
  rw [he]
  simp only at h2
  split at h2
  case isFalse => cases h2
  rename_i hz
  simp only [Option.bind_eq_bind, Option.bind_eq_some_iff, Option.pure_def, Option.some.injEq] at h2
  obtain ⟨g1, hg1, g2, hg2, rfl⟩ := h2
  obtain ⟨v1, h3, h4⟩ := (hx l (by simp [ho, Op.operands])) g1 hg1 _ hh
  obtain ⟨v2, h5, h6⟩ := (hx q (by simp [ho, Op.operands])) g2 hg2 _ h4
  exact OkR.val' (mkSl_inv hs hu (zOk_ok hC.ty hk hz) (fun j hj => by rw [i1] at hj; injection hj with hj; subst hj; exact i3) h3 h5 h6)⟩
theorem ok_slice (hC : Cok P c) {t : TypeId} {x : Operand} {lo hi mx : Option Operand} (ho : o.op = .slice t x lo hi mx) (h : cOp c d ds n ty (.slice t x lo hi mx) = some f) : OpOk X P c ds n o f := ⟨by
  intro m hp w e b ρ cl k hs hc hx hh
  simp only [cOp, Option.bind_eq_bind, Option.bind_eq_some_iff] at h
  obtain ⟨g, hg, gl, hgl, gh, hgh, h2⟩ := h
  have he : execOp ρ o = (do pure (.value (← Instr.sliceAt t (ρ x) (lo.map ρ) (hi.map ρ) (mx.map ρ)))) := by simp [execOp, ho]
  rw [he]
  have ox := (hx x (by simp [ho, Op.operands])) g hg
  have ol := cO_ok hgl (fun y hy => hx y (by simp [ho, Op.operands, hy]))
  have oh := cO_ok hgh (fun y hy => hx y (by simp [ho, Op.operands, hy]))
  split at h2
  · rename_i hu
    split at h2
    · simp only [Option.pure_def, Option.some.injEq] at h2; subst h2
      obtain ⟨v, h3, h4⟩ := ox _ hh
      obtain ⟨vl, h5, h6⟩ := evO_inv ol h4
      obtain ⟨vh, h7, h8⟩ := evO_inv oh h6
      exact OkR.pur hs (sliceS_inv (under_ok hC.ty hu) (k := fun v => k v hp) h3 h5 h7 h8 w)
    · cases h2
  · rename_i el hu
    simp only [Option.bind_eq_bind, Option.bind_eq_some_iff, Option.pure_def, Option.some.injEq] at h2
    obtain ⟨⟨e1, size, ag⟩, h1, gm, hgm, rfl⟩ := h2
    obtain ⟨rfl, hk, _⟩ := elemK_ok hC.ty h1
    have om := cO_ok hgm (fun y hy => hx y (by simp [ho, Op.operands, hy]))
    obtain ⟨v, h3, h4⟩ := ox _ hh
    obtain ⟨vl, h5, h6⟩ := evO_inv ol h4
    obtain ⟨vh, h7, h8⟩ := evO_inv oh h6
    obtain ⟨vm, h9, h10⟩ := evO_inv om h8
    exact OkR.pur hs (sliceL_inv hs (under_ok hC.ty hu) hk (k := fun v => k v hp) h3 h5 h7 h9 h10)
  · rename_i q el hu
    simp only [Option.bind_eq_bind, Option.bind_eq_some_iff, Option.pure_def, Option.some.injEq] at h2
    obtain ⟨⟨e1, size, ag⟩, h1, gm, hgm, rfl⟩ := h2
    obtain ⟨rfl, hk, _⟩ := elemK_ok hC.ty h1
    have om := cO_ok hgm (fun y hy => hx y (by simp [ho, Op.operands, hy]))
    obtain ⟨v, h3, h4⟩ := ox _ hh
    obtain ⟨vl, h5, h6⟩ := evO_inv ol h4
    obtain ⟨vh, h7, h8⟩ := evO_inv oh h6
    obtain ⟨vm, h9, h10⟩ := evO_inv om h8
    exact OkR.pur hs (sliceP_inv hs (under_ok hC.ty hu) hk (k := fun v => k v hp) h3 h5 h7 h9 h10)
  · cases h2⟩
theorem ok_fieldAddr (hC : Cok P c) {t : TypeId} {x : Operand} {q : Nat} (ho : o.op = .fieldAddr t x q) (h : cOp c d ds n ty (.fieldAddr t x q) = some f) : OpOk X P c ds n o f := ⟨by
  intro m hp w e b ρ cl k hs hc hx hh
  simp only [cOp, Option.bind_eq_bind, Option.bind_eq_some_iff] at h
  obtain ⟨⟨off, s, ag⟩, h1, h2⟩ := h
  have he : execOp ρ o = (do pure (.value (← Instr.fieldAt t (ρ x) q))) := by simp [execOp, ho]
  rw [he]
  simp only at h2
  split at h2
  · cases h2
  · rename_i hs0
    rw [Option.map_eq_some_iff] at h2
    obtain ⟨g, hg, rfl⟩ := h2
    obtain ⟨fs, fl, f1, f2, f3, f4⟩ := fieldOf_ok hC.ty h1
    obtain ⟨v, h3, h4⟩ := (hx x (by simp [ho, Op.operands])) g hg _ hh
    exact OkR.pur hs (fieldAt_inv f1 f2 f3 f4 hs0 (k := fun v => k v hp) h3 h4 w)⟩
theorem ok_field (hC : Cok P c) {t : TypeId} {x : Operand} {q : Nat} (ho : o.op = .field t x q) (h : cOp c d ds n ty (.field t x q) = some f) : OpOk X P c ds n o f := ⟨by
  intro m hp w e b ρ cl k hs hc hx hh
  simp only [cOp, Option.bind_eq_bind, Option.bind_eq_some_iff] at h
  obtain ⟨⟨off, s, ag⟩, h1, ⟨z, ag2⟩, h5, h2⟩ := h
  have he : execOp ρ o = (do pure (.value (← Instr.field t (ρ x) q))) := by simp [execOp, ho]
  rw [he]
  simp only at h2
  split at h2
  · rw [Option.map_eq_some_iff] at h2
    obtain ⟨g, hg, rfl⟩ := h2
    obtain ⟨fs, fl, f1, f2, f3, f4⟩ := fieldOf_ok hC.ty h1
    obtain ⟨v, h3, h4⟩ := (hx x (by simp [ho, Op.operands])) g hg _ hh
    exact OkR.pur hs (field_inv f1 f2 f3 f4 (k := fun v => k v hp) h3 h4 w)
  · cases h2⟩
theorem ok_indexAddr (hC : Cok P c) {t : TypeId} {x i : Operand} (ho : o.op = .indexAddr t x i) (h : cOp c d ds n ty (.indexAddr t x i) = some f) : OpOk X P c ds n o f := ⟨by
  intro m hp w e b ρ cl k hs hc hx hh
  simp only [cOp, Option.bind_eq_bind, Option.bind_eq_some_iff] at h
  obtain ⟨g, hg, j, hj, h2⟩ := h
  have he : execOp ρ o = (do pure (.value (← Instr.indexAt t (ρ x) (ρ i)))) := by simp [execOp, ho]
  rw [he]
  have o1 := (hx x (by simp [ho, Op.operands])) g hg
  have o2 := (hx i (by simp [ho, Op.operands])) j hj
  split at h2
  · rename_i el hu
    simp only [Option.bind_eq_bind, Option.bind_eq_some_iff, Option.pure_def, Option.some.injEq] at h2
    obtain ⟨⟨e1, size, ag⟩, h1, rfl⟩ := h2
    obtain ⟨rfl, hk, _⟩ := elemK_ok hC.ty h1
    obtain ⟨v, h3, h4⟩ := o1 _ hh
    obtain ⟨v2, h5, h6⟩ := o2 _ h4
    exact OkR.pur hs (indexAtS_inv (under_ok hC.ty hu) hk (k := fun v => k v hp) h3 h5 h6 w)
  · rename_i q el hu
    simp only [Option.bind_eq_bind, Option.bind_eq_some_iff, Option.pure_def, Option.some.injEq] at h2
    obtain ⟨⟨e1, size, ag⟩, h1, rfl⟩ := h2
    obtain ⟨rfl, hk, _⟩ := elemK_ok hC.ty h1
    obtain ⟨v, h3, h4⟩ := o1 _ hh
    obtain ⟨v2, h5, h6⟩ := o2 _ h4
    exact OkR.pur hs (indexAtA_inv (under_ok hC.ty hu) hk (k := fun v => k v hp) h3 h5 h6 w)
  · cases h2⟩
theorem ok_index (hC : Cok P c) {t : TypeId} {x i : Operand} (ho : o.op = .index t x i) (h : cOp c d ds n ty (.index t x i) = some f) : OpOk X P c ds n o f := ⟨by
  intro m hp w e b ρ cl k hs hc hx hh
  simp only [cOp, Option.bind_eq_bind, Option.bind_eq_some_iff] at h
  obtain ⟨g, hg, j, hj, h2⟩ := h
  have he : execOp ρ o = (do pure (.value (← Instr.index t (ρ x) (ρ i)))) := by simp [execOp, ho]
  rw [he]
  have o1 := (hx x (by simp [ho, Op.operands])) g hg
  have o2 := (hx i (by simp [ho, Op.operands])) j hj
  split at h2
  · rename_i hu
    simp only [Option.pure_def, Option.some.injEq] at h2; subst h2
    obtain ⟨v, h3, h4⟩ := o1 _ hh
    obtain ⟨v2, h5, h6⟩ := o2 _ h4
    exact OkR.pur hs (indexS_inv (under_ok hC.ty hu) (k := fun v => k v hp) h3 h5 h6 w)
  · rename_i q el hu
    simp only [Option.bind_eq_bind, Option.bind_eq_some_iff, Option.pure_def, Option.some.injEq] at h2
    obtain ⟨⟨e1, size, ag⟩, h1, rfl⟩ := h2
    obtain ⟨rfl, hk, _⟩ := elemK_ok hC.ty h1
    obtain ⟨v, h3, h4⟩ := o1 _ hh
    obtain ⟨v2, h5, h6⟩ := o2 _ h4
    exact OkR.pur hs (indexA_inv (under_ok hC.ty hu) hk (k := fun v => k v hp) h3 h5 h6 w)
  · cases h2⟩
theorem ok_lookup (hC : Cok P c) {t : TypeId} {x i : Operand} {ok : Bool} (ho : o.op = .lookup t x i ok) (h : cOp c d ds n ty (.lookup t x i ok) = some f) : OpOk X P c ds n o f := ⟨by
  intro m hp w e b ρ cl k hs hc hx hh
  simp only [cOp] at h
  have he : execOp ρ o = (do pure (.value (← Instr.lookup t (ρ x) (ρ i) ok))) := by simp [execOp, ho]
  rw [he]
  split at h
  · rename_i kt et hu
    simp only [Option.bind_eq_bind, Option.bind_eq_some_iff, Option.pure_def, Option.some.injEq] at h
    obtain ⟨z, hz, kd, hkd, g, hg, j, hj, rfl⟩ := h
    obtain ⟨i', i1, i2, i3⟩ := tzero_ok hC.ty hz
    have hzv : zV c.P et = z := by unfold zV; rw [hz]; rfl
    rw [hzv] at hh
    obtain ⟨v, h3, h4⟩ := (hx x (by simp [ho, Op.operands])) g hg _ hh
    obtain ⟨v2, h5, h6⟩ := (hx i (by simp [ho, Op.operands])) j hj _ h4
    exact OkR.pur hs (lookup_inv hs (under_ok hC.ty hu) (kdOf_ok hC hkd) i1 i2 i3 (k := fun v => k v hp) h3 h5 h6)
  · cases h⟩
theorem ok_update (hC : Cok P c) {t : TypeId} {q x y : Operand} (ho : o.op = .mapUpdate t q x y ∨ o.op = .insert t q x y)
    (h : (match under c.P t with | some (.map kt _) => do pure (oUpd (← kdOf c kt) (← cG c ds n q) (← cG c ds n x) (← cG c ds n y)) | _ => none) = some f) : OpOk X P c ds n o f := ⟨by
  intro m hp w e b ρ cl k hs hc hx hh
  have he : execOp ρ o = (do Instr.mapUpdate t (ρ q) (ρ x) (ρ y); pure .skip) := by rcases ho with ho | ho <;> simp [execOp, ho]
  rw [he]
  have hm : ∀ z, z = q ∨ z = x ∨ z = y → z ∈ o.op.operands.toList := by
    intro z hz
    rcases ho with ho | ho <;> rcases hz with rfl | rfl | rfl <;> simp [ho, Op.operands]
  split at h
  · rename_i kt et hu
    simp only [Option.bind_eq_bind, Option.bind_eq_some_iff, Option.pure_def, Option.some.injEq] at h
    obtain ⟨kd, hkd, g1, hg1, g2, hg2, g3, hg3, rfl⟩ := h
    obtain ⟨v1, h1, h2⟩ := (hx q (hm q (.inl rfl))) g1 hg1 _ hh
    obtain ⟨v2, h3, h4⟩ := (hx x (hm x (.inr (.inl rfl)))) g2 hg2 _ h2
    obtain ⟨v3, h5, h6⟩ := (hx y (hm y (.inr (.inr rfl)))) g3 hg3 _ h4
    obtain ⟨w', h', r1, r2, r3, r4⟩ := update_inv hs (under_ok hC.ty hu) (kdOf_ok hC hkd) h1 h3 h5 h6
    exact OkR.skip ⟨w', h', r1, r2, r3, r4⟩
  · cases h⟩
theorem ok_range (hC : Cok P c) {t : TypeId} {x : Operand} (ho : o.op = .range t x) (h : cOp c d ds n ty (.range t x) = some f) : OpOk X P c ds n o f := ⟨by
  intro m hp w e b ρ cl k hs hc hx hh
  simp only [cOp, Option.bind_eq_bind, Option.bind_eq_some_iff] at h
  obtain ⟨g, hg, h2⟩ := h
  have he : execOp ρ o = (do pure (.value (← Instr.range t (ρ x)))) := by simp [execOp, ho]
  rw [he]
  have o1 := (hx x (by simp [ho, Op.operands])) g hg
  split at h2
  · rename_i hu
    simp only [Option.pure_def, Option.some.injEq] at h2; subst h2
    obtain ⟨v, h3, h4⟩ := o1 _ hh
    exact OkR.val' (ranS_inv hs (under_ok hC.ty hu) h3 h4)
  · rename_i hu
    simp only [Option.pure_def, Option.some.injEq] at h2; subst h2
    obtain ⟨v, h3, h4⟩ := o1 _ hh
    exact OkR.val' (ranM_inv hs (under_ok hC.ty hu) h3 h4)
  · cases h2⟩
theorem ok_next {x : Operand} {s : Bool} (ho : o.op = .next x s) (h : (cG c ds n x).map (oNext s) = some f) : OpOk X P c ds n o f := ⟨by
  intro m hp w e b ρ cl k hs hc hx hh
  rw [Option.map_eq_some_iff] at h
  obtain ⟨g, hg, rfl⟩ := h
  have he : execOp ρ o = (do pure (.value (← Instr.next (ρ x) s o.type))) := by simp [execOp, ho]
  rw [he]
  obtain ⟨v, h3, h4⟩ := (hx x (by simp [ho, Op.operands])) g hg _ hh
  exact OkR.val' (next_inv hs h3 h4)⟩
theorem ok_entry {x : Operand} (ho : o.op = .entry x) (h : (cG c ds n x).map oEntry = some f) : OpOk X P c ds n o f := ⟨by
  intro m hp w e b ρ cl k hs hc hx hh
  rw [Option.map_eq_some_iff] at h
  obtain ⟨g, hg, rfl⟩ := h
  have he : execOp ρ o = (do pure (.value (← Instr.entry (ρ x)))) := by simp [execOp, ho]
  rw [he]
  obtain ⟨v, h3, h4⟩ := (hx x (by simp [ho, Op.operands])) g hg _ hh
  exact OkR.pur hs (entry_inv hs (k := fun v => k v hp) h3 h4)⟩
theorem ok_extract {x : Operand} {i : Nat} (ho : o.op = .extract x i) (h : (cG c ds n x).map (oExtract i) = some f) : OpOk X P c ds n o f := ⟨by
  intro m hp w e b ρ cl k hs hc hx hh
  rw [Option.map_eq_some_iff] at h
  obtain ⟨g, hg, rfl⟩ := h
  have he : execOp ρ o = (do pure (.value (← Instr.extract (ρ x) i))) := by simp [execOp, ho]
  rw [he]
  obtain ⟨v, h3, h4⟩ := (hx x (by simp [ho, Op.operands])) g hg _ hh
  exact OkR.pur hs (extract_inv h3 (k := fun v => k v hp) h4 w)⟩
end Go.Ab
end
section
namespace Go.Ab
variable {X : Cx} {m m' : M} {h h' : Hp} {w w' : World} {P : Program}
variable {e : E} {b : Bd} {c : Ct} {ds : Ds} {n : Nat} {ρ : Operand → Value} {o : Oper} {d : Option Nat} {ty : TypeId} {f : F}
theorem append_ok (hs : Sim X m h w) {t u e ty : TypeId} {du : TypeDesc} {i : TypeInfo} {z : List Value} (ht : P.underlying t = some (.slice e)) (hu : P.underlying u = some du) (hd : ∀ k, du ≠ .int k)
    (hi : P.info? e = some i) (hby : i.bytes ≤ 1000000) (hz : ZOk P e i.size z) {s s' x x' : Value} (hsv : VR m s s') (hx : VR m x x') {k : KV}
    (hh : lenOf x (fun n => firstC h i.size n x (fun new => append h e i.size n new s k)) = true) :
    ∃ v' w', (Builtin.append_ #[t, u] ty #[s', x']).run P w = .ok v' w' ∧ Done X m h w k v' w' := by
  obtain ⟨nn, h1, hlen, hxx⟩ := lenOf_inv (P := P) hx hh
  have hxx' : (∃ a N c, x' = .slice a N c) ∨ ∃ s, x' = .string s ∧ nn ≤ s.size := by
    rcases hxx with ⟨a, c, rfl⟩ | ⟨q, rfl, rfl⟩
    · exact .inl ⟨_, _, _, rfl⟩
    · exact .inr ⟨_, rfl, Nat.le_refl _⟩
  obtain ⟨css, l', h2, h3, h4, h5⟩ := firstC_inv hs hx hxx' h1
  obtain ⟨base, sLen, sCap, rfl, hA⟩ := append_inv hs hsv h2 h3 h4
  obtain ⟨i', v, i1, i2, i3, i4⟩ := hz.info
  rw [hi] at i1; injection i1 with i1; subst i1
  by_cases hfit : sLen + nn ≤ sCap
  · obtain ⟨w', f1, f2, f3⟩ := hA.fits hfit
    exact ⟨_, w', run_append_fits t u ty e du i ht hu hd hi base sLen sCap nn x' l'.toArray hlen (h5 P w rfl) hfit (fun a ha => by simpa using f1 a ha P) f2, f3⟩
  · obtain ⟨h63, olds, g1, g2⟩ := hA.grows (by omega)
    have hr := run_append_grows (P := P) (w := w) t u ty e du i v ht hu hd hi i3 base sLen sCap nn x' olds.toArray l'.toArray hlen (h5 P w.drew rfl) (g1 P) (by omega) h63 hby
    have hc := cap_le w (sLen + nn) sCap e
    refine ⟨_, _, hr, ?_⟩
    have := g2 (grownCap w (sLen + nn) sCap e) (Builtin.zeroCells v.cells (grownCap w (sLen + nn) sCap e - (sLen + nn))).toList hc (by
      have : v.cells.size = i.size := by rw [← hz.len, ← i4]; simp
      simp [Builtin.zeroCells, this])
    have e1 : (olds ++ l' ++ (Builtin.zeroCells v.cells (grownCap w (sLen + nn) sCap e - (sLen + nn))).toList).toArray = olds.toArray ++ l'.toArray ++ Builtin.zeroCells v.cells (grownCap w (sLen + nn) sCap e - (sLen + nn)) := Array.ext' (by simp)
    rw [e1] at this
    exact this
theorem append0_ok (hs : Sim X m h w) {t u e ty : TypeId} {kd : IntKind} {i : TypeInfo} {z : List Value} (ht : P.underlying t = some (.slice e)) (hu : P.underlying u = some (.int kd))
    (hi : P.info? e = some i) (hby : i.bytes ≤ 1000000) (hz : ZOk P e i.size z) {s s' x x' : Value} (hsv : VR m s s') (hx : VR m x x') {k : KV}
    (hh : vInt x (fun _ n => iNat n (fun n => Bool.rec (ff 77) (append h e i.size n (List.replicate n z) s k) (Nat.ble n 1000000))) (ff 77) = true) :
    ∃ v' w', (Builtin.append_ #[t, u] ty #[s', x']).run P w = .ok v' w' ∧ Done X m h w k v' w' := by
  rcases vInt_inv hh with ⟨kn, nn, rfl, h1⟩ | h1
  case inr => exact ffa h1
  obtain ⟨nn, rfl, h1⟩ := iNat_inv h1
  obtain ⟨h2, h3⟩ := rec_t h1
  have h2 := ble_iff.1 h2
  cases hx
  have hL := replicate_lays hz.len (hz.vr m) hz.cell nn
  obtain ⟨base, sLen, sCap, rfl, hA⟩ := append_inv hs hsv (List.length_replicate ..) hL h3
  obtain ⟨i', v, i1, i2, i3, i4⟩ := hz.info
  rw [hi] at i1; injection i1 with i1; subst i1
  have hzs : v.cells.size = i.size := by rw [← hz.len, ← i4]; simp
  have hzl : (Builtin.zeroCells v.cells nn).toList = (List.replicate nn z).flatten := by rw [zeroCells_list, i4]
  by_cases hfit : sLen + nn ≤ sCap
  · obtain ⟨w', f1, f2, f3⟩ := hA.fits hfit
    exact ⟨_, w', run_append_fits0 t u ty e kd i v ht hu hi i3 hzs base sLen sCap nn kn h2 hby hfit (fun a ha => by rw [hzl]; exact f1 a ha P) f2, f3⟩
  · obtain ⟨h63, olds, g1, g2⟩ := hA.grows (by omega)
    have hr := run_append_grows0 (P := P) (w := w) t u ty e kd i v ht hu hi i3 hzs base sLen sCap nn kn olds.toArray (g1 P) (by omega) h63 hby
    have hc := cap_le w (sLen + nn) sCap e
    refine ⟨_, _, hr, ?_⟩
    have := g2 (grownCap w (sLen + nn) sCap e) (Builtin.zeroCells v.cells (grownCap w (sLen + nn) sCap e - (sLen + nn))).toList hc (by
      simp [Builtin.zeroCells, hzs])
    have e1 : (olds ++ (List.replicate nn z).flatten ++ (Builtin.zeroCells v.cells (grownCap w (sLen + nn) sCap e - (sLen + nn))).toList).toArray = olds.toArray ++ Builtin.zeroCells v.cells nn ++ Builtin.zeroCells v.cells (grownCap w (sLen + nn) sCap e - (sLen + nn)) := Array.ext' (by simp [hzl])
    rw [e1] at this
    exact this
/-! ### calls of built-in functions -/
theorem call_builtin {x : Call} {bi : Builtin} (ho : o.op = .call x) (hb : x.callee = .builtin bi) (P : Program) (w : World) :
    ∃ cs, (execOp ρ o).run P w = (builtin bi x.argTypes o.type cs (x.args.map ρ)).run P w := by
  simp only [execOp, ho, resolve, hb, Sem.run_bind, Sem.run_pure, Result.andThen_ok, invoke]
  exact ⟨_, rfl⟩
theorem OkR.of_eq {s s' : Sem Next} {k : KV} (he : s.run P w = s'.run P w) (h1 : OkR X P m h w s' k) : OkR X P m h w s k := by
  obtain ⟨r, v', w', a, b, c⟩ := h1
  exact ⟨r, v', w', by rw [he]; exact a, b, c⟩
theorem arr_eq {α : Type} {a : Array α} {l : List α} (h : a.toList = l) : a = ⟨l⟩ := Array.ext' h
theorem ok_builtin (hC : Cok P c) {x : Call} {bi : Builtin} (ho : o.op = .call x) (hb : x.callee = .builtin bi) (h : cBuiltin c ds n bi x.argTypes.toList x.args.toList ty = some f) : OpOk X P c ds n o f := ⟨by
  intro m hp w e b ρ cl k hs hc hx hh
  obtain ⟨cs, he⟩ := call_builtin (ρ := ρ) ho hb P w
  refine OkR.of_eq he ?_
  have hop : ∀ y ∈ x.args.toList, OpV m e b c ds n ρ y := fun y hy => hx y (by rw [ho]; simp [Op.operands, Call.operands]; exact .inr (by simpa using hy))
  have hU := @under_ok P c.P hC.ty
  generalize hts : x.argTypes.toList = ts at h
  generalize has : x.args.toList = as at h hop
  replace hts := arr_eq hts
  have has2 : x.args.map ρ = ⟨as.map ρ⟩ := Array.ext' (by simp [has])
  rw [hts, has2]
  unfold cBuiltin at h
  split at h
  · -- len
    rename_i t ts y
    have o1 := hop y (by simp)
    split at h
    · rename_i hu
      rw [Option.map_eq_some_iff] at h
      obtain ⟨g, hg, rfl⟩ := h
      obtain ⟨v, h3, h4⟩ := o1 g hg _ hh
      exact OkR.pur hs (lenL_inv (hU hu) h3 (k := fun v => k v hp) h4 ts _ w)
    · rename_i hu
      rw [Option.map_eq_some_iff] at h
      obtain ⟨g, hg, rfl⟩ := h
      obtain ⟨v, h3, h4⟩ := o1 g hg _ hh
      exact OkR.pur hs (lenS_inv (hU hu) h3 (k := fun v => k v hp) h4 ts _ w)
    · rename_i hu
      rw [Option.map_eq_some_iff] at h
      obtain ⟨g, hg, rfl⟩ := h
      obtain ⟨v, h3, h4⟩ := o1 g hg _ hh
      exact OkR.pur hs (lenM_inv hs (hU hu) h3 ts h4)
    · cases h
  · -- append
    rename_i t u s y
    simp only [Option.bind_eq_bind, Option.bind_eq_some_iff] at h
    obtain ⟨⟨el, size, ag⟩, h1, g1, hg1, g2, hg2, h2⟩ := h
    obtain ⟨hu, hk, i, i1, i2, i3⟩ := sliceElem_ok hC.ty h1
    have o1 := hop s (by simp) g1 hg1
    have o2 := hop y (by simp) g2 hg2
    subst i2
    split at h2
    · rename_i hu2
      split at h2
      · rename_i hz
        simp only [Bool.and_eq_true] at hz
        simp only [Option.pure_def, Option.some.injEq] at h2; subst h2
        obtain ⟨v1, h3, h4⟩ := o1 _ hh
        obtain ⟨v2, h5, h6⟩ := o2 _ h4
        exact OkR.val' (append0_ok hs hu (hU hu2) i1 i3 (zOk_ok hC.ty hk hz.1) h3 h5 h6)
      · cases h2
    · rename_i hu2
      split at h2
      · rename_i hz
        simp only [Option.pure_def, Option.some.injEq] at h2; subst h2
        obtain ⟨v1, h3, h4⟩ := o1 _ hh
        obtain ⟨v2, h5, h6⟩ := o2 _ h4
        exact OkR.val' (append_ok hs hu (hU hu2) (by intro k hk; cases hk) i1 i3 (zOk_ok hC.ty hk hz) h3 h5 h6)
      · cases h2
    · rename_i hu2
      split at h2
      · rename_i hz
        simp only [Option.pure_def, Option.some.injEq] at h2; subst h2
        obtain ⟨v1, h3, h4⟩ := o1 _ hh
        obtain ⟨v2, h5, h6⟩ := o2 _ h4
        exact OkR.val' (append_ok hs hu (hU hu2) (by intro k hk; cases hk) i1 i3 (zOk_ok hC.ty hk hz) h3 h5 h6)
      · cases h2
    · cases h2
  · -- copy
    rename_i t ts q s
    simp only [Option.bind_eq_bind, Option.bind_eq_some_iff, Option.pure_def, Option.some.injEq] at h
    obtain ⟨⟨el, size, ag⟩, h1, g1, hg1, g2, hg2, rfl⟩ := h
    obtain ⟨hu, hk, i, i1, i2, i3⟩ := sliceElem_ok hC.ty h1
    subst i2
    obtain ⟨v1, h3, h4⟩ := hop q (by simp) g1 hg1 _ hh
    obtain ⟨v2, h5, h6⟩ := hop s (by simp) g2 hg2 _ h4
    exact OkR.val' (copy_inv (st := 0) hs hu i1 h3 h5 h6 ⟨t :: ts⟩ rfl)
  · -- min
    rename_i y z
    simp only [Option.bind_eq_bind, Option.bind_eq_some_iff, Option.pure_def, Option.some.injEq] at h
    obtain ⟨g1, hg1, g2, hg2, rfl⟩ := h
    obtain ⟨v1, h3, h4⟩ := hop y (by simp) g1 hg1 _ hh
    obtain ⟨v2, h5, h6⟩ := hop z (by simp) g2 hg2 _ h4
    exact OkR.pur hs (min_inv h3 h5 (k := fun v => k v hp) h6 _ _ w)
  · -- max
    rename_i y z
    simp only [Option.bind_eq_bind, Option.bind_eq_some_iff, Option.pure_def, Option.some.injEq] at h
    obtain ⟨g1, hg1, g2, hg2, rfl⟩ := h
    obtain ⟨v1, h3, h4⟩ := hop y (by simp) g1 hg1 _ hh
    obtain ⟨v2, h5, h6⟩ := hop z (by simp) g2 hg2 _ h4
    exact OkR.pur hs (max_inv h3 h5 (k := fun v => k v hp) h6 _ _ w)
  · -- cap
    rename_i t ts y
    split at h
    · rename_i hu
      rw [Option.map_eq_some_iff] at h
      obtain ⟨g, hg, rfl⟩ := h
      obtain ⟨v, h3, h4⟩ := hop y (by simp) g hg _ hh
      exact OkR.pur hs (cap_inv (hU hu) h3 (k := fun v => k v hp) h4 ts _ w)
    · cases h
  · -- delete
    rename_i t ts q y
    split at h
    · rename_i kt et hu
      simp only [Option.bind_eq_bind, Option.bind_eq_some_iff, Option.pure_def, Option.some.injEq] at h
      obtain ⟨kd, hkd, g1, hg1, g2, hg2, rfl⟩ := h
      obtain ⟨v1, h3, h4⟩ := hop q (by simp) g1 hg1 _ hh
      obtain ⟨v2, h5, h6⟩ := hop y (by simp) g2 hg2 _ h4
      obtain ⟨w', h', r1, r2, r3, r4⟩ := delete_inv hs (hU hu) (kdOf_ok hC hkd) h3 h5 ts o.type h6
      exact OkR.val r1 ⟨m, h', _, .tuple .nil, r2, r3, r4⟩
    · cases h
  · -- clear
    rename_i t ts y
    simp only [Option.bind_eq_bind, Option.bind_eq_some_iff] at h
    obtain ⟨⟨el, size, ag⟩, h1, h2⟩ := h
    obtain ⟨hu, hk, i, i1, i2, i3⟩ := sliceElem_ok hC.ty h1
    simp only at h2
    split at h2
    · rename_i hz
      simp only [Bool.and_eq_true] at hz
      simp only [Option.bind_eq_bind, Option.bind_eq_some_iff, Option.pure_def, Option.some.injEq] at h2
      obtain ⟨g, hg, rfl⟩ := h2
      obtain ⟨v, h3, h4⟩ := hop y (by simp) g hg _ hh
      exact OkR.val' (clear_inv hs hu (zOk_ok hC.ty hk hz.1) h3 h4 ⟨t :: ts⟩ rfl)
    · cases h2
  · -- unsafe.SliceData
    rename_i t ts y
    split at h
    · rw [Option.map_eq_some_iff] at h
      obtain ⟨g, hg, rfl⟩ := h
      obtain ⟨v, h3, h4⟩ := hop y (by simp) g hg _ hh
      obtain ⟨v', r1, r2⟩ := slD_inv (P := P) hs h3 ⟨t :: ts⟩ o.type h4
      exact OkR.val r1 r2
    · cases h
  · -- unsafe.String
    rename_i t ts y l
    split at h
    · rename_i el hu
      split at h
      · simp only [Option.bind_eq_bind, Option.bind_eq_some_iff] at h
        obtain ⟨⟨el', size, ag⟩, h1, h2⟩ := h
        obtain ⟨rfl, hk, i, i1, i2, i3⟩ := elemK_ok hC.ty h1
        simp only at h2
        split at h2
        · rename_i hs1
          simp only [Option.bind_eq_bind, Option.bind_eq_some_iff, Option.pure_def, Option.some.injEq] at h2
          obtain ⟨g1, hg1, g2, hg2, rfl⟩ := h2
          obtain ⟨v1, h3, h4⟩ := hop y (by simp) g1 hg1 _ hh
          obtain ⟨v2, h5, h6⟩ := hop l (by simp) g2 hg2 _ h4
          exact OkR.val' (uStr_inv hs (hU hu) i1 (by rw [i2]; exact hs1) h3 h5 h6 ts)
        · cases h2
      · cases h
    · cases h
  · simp at h⟩
/-- every operation but a call of a function -/
theorem op_ok (hC : Cok P c) (h : cOp c d ds n o.type o.op = some f) (hn : ∀ x, o.op = .call x → ∃ bi, x.callee = .builtin bi) : OpOk X P c ds n o f := by
  generalize ho : o.op = op at h hn
  cases op with
  | move x => exact ok_move (.inl ho) h
  | assign x => exact ok_move (.inr ho) h
  | pick a x y => exact ok_pick ho h
  | alloc t => exact ok_alloc hC ho h
  | box t x => exact ok_box hC ho h
  | build t ps => exact ok_build hC ho h
  | buildSlice t q ps => exact ok_buildSlice hC ho h
  | load t a => exact ok_load hC ho h
  | store t a x => exact ok_store hC ho h
  | nilCheck x => exact ok_nil ho h
  | binOp op t x y u => exact ok_bin hC ho h
  | unOp op t x => exact ok_un hC ho h
  | convert s t x => exact ok_conv hC ho h
  | makeInterface t x => exact ok_iface hC ho h
  | makeFunc fn a q => exact ok_func ho h
  | makeMap t r => exact ok_makeMap ho h
  | makeSlice t l q => exact ok_makeSlice hC ho h
  | slice t x lo hi mx => exact ok_slice hC ho h
  | fieldAddr t x q => exact ok_fieldAddr hC ho h
  | field t x q => exact ok_field hC ho h
  | indexAddr t x i => exact ok_indexAddr hC ho h
  | index t x i => exact ok_index hC ho h
  | lookup t x i ok => exact ok_lookup hC ho h
  | mapUpdate t q x y => exact ok_update hC (.inl ho) h
  | insert t q x y => exact ok_update hC (.inr ho) h
  | range t x => exact ok_range hC ho h
  | next x s => exact ok_next ho h
  | entry x => exact ok_entry ho h
  | extract x i => exact ok_extract ho h
  | call x =>
    obtain ⟨bi, hb⟩ := hn x rfl
    simp only [cOp, hb] at h
    exact ok_builtin hC ho hb h
  | _ => simp [cOp] at h
end Go.Ab
end

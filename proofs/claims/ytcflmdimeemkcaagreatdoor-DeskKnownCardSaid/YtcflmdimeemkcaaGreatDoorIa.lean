/-
  A part of the proof of the card of DeskKnown (the whole is said in the last text). No condition of its own beyond those that its theorems state.
-/
import Derived.Test.YtcflmdimeemkcaaGreatDoorGf
import Derived.Test.YtcflmdimeemkcaaGreatDoorWf
import Derived.Test.YtcflmdimeemkcaaGreatDoorAb
set_option autoImplicit true
set_option relaxedAutoImplicit true
set_option linter.unusedVariables false
set_option linter.unusedSimpArgs false
set_option linter.unusedSectionVars false
section
namespace Go.Ab
open Go.Proofs
/-! ### types whose values are compared cell by cell -/
theorem fl_int {d : Nat} {t : TypeId} {k : IntKind} (h : Tryz.prog.underlying t = some (.int k)) : FlT Tryz.prog (d + 1) t [0] := .inl ⟨0, rfl, .inl ⟨rfl, _, h⟩⟩
theorem flat93 : FlatOK Tryz.prog 95 [0, 0, 0] := by
  have h3 := fl_int (d := 2) Tryz.underlying3
  exact ⟨⟨_, 3, Tryz.underlying95, by decide, [0], [0, 0], rfl, by decide, rfl, h3, [0], [0], rfl, by decide, rfl, h3, [0], [], rfl, by decide, rfl, h3, rfl⟩, by kernel_rfl, by kernel_rfl⟩
theorem flat130 : FlatOK Tryz.prog 132 [0, 0, 0] := by
  have h3 := fl_int (d := 2) Tryz.underlying3
  exact ⟨⟨_, 3, Tryz.underlying132, by decide, [0], [0, 0], rfl, by decide, rfl, h3, [0], [0], rfl, by decide, rfl, h3, [0], [], rfl, by decide, rfl, h3, rfl⟩, by kernel_rfl, by kernel_rfl⟩
theorem flat202 : FlatOK Tryz.prog 204 [0, 0, 0, 0] := by
  have h3 := fl_int (d := 2) Tryz.underlying3
  have h3' := fl_int (d := 1) Tryz.underlying3
  have h93 : FlT Tryz.prog 3 95 [0, 0, 0] := .inr ⟨_, Tryz.underlying95, by kernel_rfl, ⟨Tryz.t95, by kernel_rfl, by kernel_rfl⟩, [0], [0, 0], rfl, by decide, rfl, h3', [0], [0], rfl, by decide, rfl, h3', [0], [], rfl, by decide, rfl, h3', rfl⟩
  exact ⟨⟨_, 3, Tryz.underlying204, by decide, [0, 0, 0], [0], rfl, by decide, rfl, h93, [0], [], rfl, by decide, rfl, h3, rfl⟩, by kernel_rfl, by kernel_rfl⟩
theorem fl225 {d : Nat} : FlT Tryz.prog (d + 2) 227 [0, 0] :=
  .inr ⟨_, Tryz.underlying227, by kernel_rfl, ⟨Tryz.t227, by kernel_rfl, by kernel_rfl⟩, [0], [0], rfl, by decide, rfl, fl_int Tryz.underlying5, [0], [], rfl, by decide, rfl, fl_int Tryz.underlying73, rfl⟩
theorem fl227 {d : Nat} : FlT Tryz.prog (d + 3) 229 [0, 0, 0, 0, 0] :=
  .inr ⟨_, Tryz.underlying229, by kernel_rfl, ⟨Tryz.t229, by kernel_rfl, by kernel_rfl⟩, [0], [0, 0, 0, 0], rfl, by decide, rfl, fl_int Tryz.underlying225, [0, 0], [0, 0], rfl, by decide, rfl, fl225, [0, 0], [], rfl, by decide, rfl, fl225, rfl⟩
theorem flat227 : FlatOK Tryz.prog 229 [0, 0, 0, 0, 0] :=
  ⟨⟨_, 4, Tryz.underlying229, by decide, [0], [0, 0, 0, 0], rfl, by decide, rfl, fl_int Tryz.underlying225, [0, 0], [0, 0], rfl, by decide, rfl, fl225, [0, 0], [], rfl, by decide, rfl, fl225, rfl⟩, by kernel_rfl, by kernel_rfl⟩
theorem flat229 : FlatOK Tryz.prog 231 [0, 0, 0, 0, 0, 0, 0] :=
  ⟨⟨_, 4, Tryz.underlying231, by decide, [0], [0, 0, 0, 0, 0, 0], rfl, by decide, rfl, fl_int Tryz.underlying21, [0], [0, 0, 0, 0, 0], rfl, by decide, rfl, fl_int Tryz.underlying5, [0, 0, 0, 0, 0], [], rfl, by decide, rfl, fl227, rfl⟩, by kernel_rfl, by kernel_rfl⟩
theorem flat_ok (t : TypeId) (ks : List Nat) (h : findF t flat0 = some ks) : FlatOK Tryz.prog t ks := by
  unfold flat0 at h
  simp only [findF] at h
  split at h
  · rename_i e; subst e; injection h with h; subst h; exact flat93
  split at h
  · rename_i e; subst e; injection h with h; subst h; exact flat130
  split at h
  · rename_i e; subst e; injection h with h; subst h; exact flat202
  split at h
  · rename_i e; subst e; injection h with h; subst h; exact flat227
  split at h
  · rename_i e; subst e; injection h with h; subst h; exact flat229
  · cases h
/-! ### a strings.Builder: where one lies -/
theorem lies421 : lies Tryz.prog 123 423 0 7 = true := by kernel_rfl
theorem lies121 : lies Tryz.prog 123 123 0 2 = true := by kernel_rfl
theorem lies196 : lies Tryz.prog 123 198 17 20 = true := by kernel_rfl
theorem lies_ok (u e o s : Nat) (h : lies0 u e o s = true) : lies Tryz.prog u e o s = true := by
  unfold lies0 at h
  obtain ⟨h1, h⟩ := rec_t h
  have h1 := beq_iff.1 h1
  subst h1
  rcases rec_inv h with ⟨_, h⟩ | ⟨he, h⟩
  · rcases rec_inv h with ⟨_, h⟩ | ⟨he, h⟩
    · obtain ⟨he, h⟩ := rec_t h
      obtain ⟨h2, h3⟩ := and_inv h
      have he := beq_iff.1 he; have h2 := beq_iff.1 h2; have h3 := beq_iff.1 h3
      subst he; subst h2; subst h3; exact lies196
    · obtain ⟨h2, h3⟩ := and_inv h
      have he := beq_iff.1 he; have h2 := beq_iff.1 h2; have h3 := beq_iff.1 h3
      subst he; subst h2; subst h3; exact lies121
  · obtain ⟨h2, h3⟩ := and_inv h
    have he := beq_iff.1 he; have h2 := beq_iff.1 h2; have h3 := beq_iff.1 h3
    subst he; subst h2; subst h3; exact lies421
/-- what is claimed of -/
noncomputable def X0 (w0 : World) (st : Nat → Prop) : Cx := ⟨Tryz.prog, W0, w0, st⟩
variable {w0 : World} {st : Nat → Prop}
theorem mixed_ok : Tryz.prog.follows .mixedOrders = true := by kernel_rfl
theorem ty_ok : TyOK Tryz.prog ty0 := fun t i h => h
set_option maxRecDepth 100000 in
theorem w_ok : WOk (X0 w0 st) := by
  constructor
  · exact ty_ok
  · exact lies_ok
  · exact flat_ok
  · exact mixed_ok
/-! ### what has no body -/
theorem x98 : ExtOk Tryz.prog 98 Tryz.f98 Extern.AbiNoEscape.same := ⟨Tryz.func98, by kernel_rfl, by kernel_rfl, by kernel_rfl, by kernel_rfl⟩
theorem x99 : ExtOk Tryz.prog 99 Tryz.f99 (Extern.BytealgMakeNoZero.makeNoZero #[3] #[121]) := ⟨Tryz.func99, by kernel_rfl, by kernel_rfl, by kernel_rfl, by kernel_rfl⟩
theorem x100 : ExtOk Tryz.prog 100 Tryz.f100 Extern.BytealgIndexByte.indexByte := ⟨Tryz.func100, by kernel_rfl, by kernel_rfl, by kernel_rfl, by kernel_rfl⟩
theorem x443 : ExtOk Tryz.prog 443 Tryz.f443 Extern.BytealgCount.count := ⟨Tryz.func443, by kernel_rfl, by kernel_rfl, by kernel_rfl, by kernel_rfl⟩
theorem x519 : ExtOk Tryz.prog 519 Tryz.f519 (Extern.Atomic.update (Op.intArith .add) .i64 true) := ⟨Tryz.func519, by kernel_rfl, by kernel_rfl, by kernel_rfl, by kernel_rfl⟩
theorem x625 : ExtOk Tryz.prog 625 Tryz.f625 (Extern.Atomic.loadT (.int .u32)) := ⟨Tryz.func625, by kernel_rfl, by kernel_rfl, by kernel_rfl, by kernel_rfl⟩
theorem x590 : ExtOk Tryz.prog 590 Tryz.f590 (Extern.Atomic.loadT (.int .i64)) := ⟨Tryz.func590, by kernel_rfl, by kernel_rfl, by kernel_rfl, by kernel_rfl⟩
/-! ### maps.Copy -/
theorem copy113 : CopyFn Tryz.prog 113 Tryz.f113 183 9 261 5 := by
  refine ⟨Tryz.func113, ?_, rfl, rfl, ⟨_, _, _, _, rfl, ⟨rfl, ⟨_, rfl, rfl, rfl, rfl⟩, ⟨_, rfl, rfl, rfl, rfl⟩⟩, ⟨rfl, ⟨_, rfl, rfl, rfl, rfl⟩, ⟨_, rfl, rfl, rfl, rfl⟩⟩,
    ⟨rfl, ⟨_, rfl, rfl, rfl, rfl⟩, ⟨_, rfl, rfl, rfl, rfl⟩, ⟨_, rfl, rfl, rfl, rfl⟩, ⟨_, rfl, rfl, rfl, rfl⟩, ⟨_, rfl, rfl, rfl, rfl⟩, ⟨_, rfl, rfl, rfl, rfl⟩⟩,
    ⟨rfl, ⟨_, rfl, rfl, rfl, rfl⟩, ⟨_, rfl, rfl, rfl, rfl⟩, ⟨_, rfl, rfl, rfl, rfl⟩, ⟨_, rfl, rfl, rfl, rfl⟩⟩⟩, Tryz.underlying183, Tryz.underlying9, ?_, ?_⟩
  · have h : (Tryz.f113.name == "runtime.NumGoroutine") = false := by kernel_rfl
    simpa using h
  · exact tkind_ok (s := 5) (ag := true) (ty := ty0) (fun t i h => h) (by kernel_rfl)
  · exact ⟨_, zOk_ok (ty := ty0) (fun t i h => h) (tkind_ok (s := 5) (ag := true) (ty := ty0) (fun t i h => h) (by kernel_rfl)) (by kernel_rfl)⟩
/-! ### errors.As -/
theorem as_ok (h0 : st 0) (hg : w0.cell? ⟨0, 0, none⟩ = some (.iface 149 (.agg #[.pointer (some ⟨11, 32, none⟩)]))) : XOk (X0 w0 st) 18 (sAs 63 65) := by
  constructor
  intro m h w args args' k hs hv hgm hh
  have hen : ∀ args', (callFunc 18 args').run Tryz.prog w = .ok (.enter 18 args') w := by
    intro args'
    have hnm : (Tryz.f18.name == "runtime.NumGoroutine") = false := by kernel_rfl
    have hnm2 : Tryz.f18.name ≠ "runtime.NumGoroutine" := by simpa using hnm
    have hb : Tryz.f18.body.isNone = false := by kernel_rfl
    have hb2 : Tryz.f18.body ≠ none := fun e => by rw [e] at hb; cases hb
    simp [callFunc, run_program, Tryz.func18, hnm2, hb2]
  unfold sAs at hh
  split at hh
  · cases hv with
    | cons h1 h2 =>
    cases h2 with
    | cons h2 h3 =>
    cases h3; cases h1
    refine .inr ⟨hen _, callsIn_wide.2 ((Go.Proofs.YtcflmdimeemkcaaGreatDoor.as_nil _ w).mono ?_)⟩
    rintro e w' ⟨rfl, rfl⟩
    exact ⟨m, h, _, .bool _, hs, Tn.refl _ _ _, hh⟩
  · rename_i t kd n p a
    obtain ⟨hc, hh⟩ := rec_t hh
    obtain ⟨e1, e2⟩ := and_inv hc
    have e1 := beq_iff.1 e1
    have e2 := beq_iff.1 e2
    subst e1; subst e2
    cases hv with
    | cons h1 h2 =>
    cases h2 with
    | cons h2 h3 =>
    cases h3
    cases h1 with
    | iface h1 =>
    cases h1 with
    | agg h1 hcl =>
    cases h2 with
    | iface h2 =>
    cases h2 with
    | ptr ha =>
    rename_i b' a'
    generalize hbl : b'.toList = bl at h1
    cases h1 with
    | cons h1 h4 =>
    cases h4; cases h1
    have hb : b' = #[.int kd n] := Array.ext' hbl
    subst hb
    obtain ⟨v, v', q1, q2, q3, q4⟩ := load1_inv hs ha hh
    have hlt : a'.block < w.heap.size := by
      rcases Nat.lt_or_ge a'.block w.heap.size with h | h
      · exact h
      · simp [World.cell?, Array.getElem?_eq_none h] at q3
    obtain ⟨s1, t1⟩ := hs.alloc (.cells #[.pointer (some a')] 65)
    obtain ⟨s2, t2⟩ := s1.alloc (.cells #[.pointer (some ⟨11, 65, none⟩), .pointer (some ⟨w.heap.size, 0, none⟩), .int .u64 150] 110)
    obtain ⟨s3, t3⟩ := s2.alloc (.cells #[.pointer (some ⟨11, 65, none⟩), .pointer (some ⟨w.heap.size, 0, none⟩), .int .u64 150] 110)
    obtain ⟨s4, t4⟩ := s3.alloc (.cells #[.int kd n] 63)
    have hc4 : ((((w.alloc (.cells #[.pointer (some a')] 65)).alloc (.cells #[.pointer (some ⟨11, 65, none⟩), .pointer (some ⟨w.heap.size, 0, none⟩), .int .u64 150] 110)).alloc (.cells #[.pointer (some ⟨11, 65, none⟩), .pointer (some ⟨w.heap.size, 0, none⟩), .int .u64 150] 110)).alloc (.cells #[.int kd n] 63)).cell? a' = some v' := by
      rw [World.cell?_alloc_lt _ _ a' (by simp; omega), World.cell?_alloc_lt _ _ a' (by simp; omega), World.cell?_alloc_lt _ _ a' (by simp; omega), World.cell?_alloc_lt _ _ a' hlt]; exact q3
    have hfz : ((((w.alloc (.cells #[.pointer (some a')] 65)).alloc (.cells #[.pointer (some ⟨11, 65, none⟩), .pointer (some ⟨w.heap.size, 0, none⟩), .int .u64 150] 110)).alloc (.cells #[.pointer (some ⟨11, 65, none⟩), .pointer (some ⟨w.heap.size, 0, none⟩), .int .u64 150] 110)).alloc (.cells #[.int kd n] 63)).frozen? a' = w.frozen? a' := by
      rw [World.frozen?_alloc_old _ _ a' (by simp; omega), World.frozen?_alloc_old _ _ a' (by simp; omega), World.frozen?_alloc_old _ _ a' (by simp; omega), World.frozen?_alloc_old _ _ a' (Nat.ne_of_lt hlt)]
    have sth := Go.Proofs.YtcflmdimeemkcaaGreatDoor.as_hit kd n a' v' w
    generalize hW : (((w.alloc (.cells #[.pointer (some a')] 65)).alloc (.cells #[.pointer (some ⟨11, 65, none⟩), .pointer (some ⟨w.heap.size, 0, none⟩), .int .u64 150] 110)).alloc (.cells #[.pointer (some ⟨11, 65, none⟩), .pointer (some ⟨w.heap.size, 0, none⟩), .int .u64 150] 110)).alloc (.cells #[.int kd n] 63) = W at s4 t4 hc4 hfz sth
    obtain ⟨h2, w2, r1, r2, r3, r4⟩ := storeC_inv s4 ha (n := 1) (vs := [.int kd n]) (vs' := [.int kd n]) (.cons (.int _ _) .nil) (by intro v hv; simp at hv; subst hv; rfl) rfl q4
    have r4 := r4 Tryz.prog
    have hz : W.frozen? a' = false ∧ w2 = W.setCell a' (.int kd n) := by
      simp only [storeCells, run_store_int, stored, hc4, Sem.run_bind, Addr.add_zero'] at r4
      cases hf : W.frozen? a' with
      | true => simp [hf] at r4
      | false => simp [hf] at r4; exact ⟨rfl, r4.symm⟩
    obtain ⟨hz, rfl⟩ := hz
    have hg0 : w.cell? ⟨0, 0, none⟩ = some (.iface 149 (.agg #[.pointer (some ⟨11, 32, none⟩)])) := by
      have hl : 0 < (X0 w0 st).w0.heap.size := by
        rcases Nat.eq_zero_or_pos w0.heap.size with h0 | h
        · simp [World.cell?, h0] at hg
        · exact h
      have h5 := (hs.stat.1.2 0 h0 hl).1
      have h6 : (X0 w0 st).w0.heap[0]? = w0.heap[0]? := rfl
      rw [h6] at h5
      unfold World.cell? at hg ⊢
      rw [show (⟨0, 0, none⟩ : Addr).block = 0 from rfl, h5]; exact hg
    refine .inr ⟨hen _, callsIn_wide.2 ((sth hg0 q3 (by rw [← hfz]; exact hz)).mono ?_)⟩
    rintro e w' ⟨rfl, rfl⟩
    exact ⟨m, h2, _, .bool _, r1, (((t1.trans t2).trans t3).trans t4).trans r2, r3⟩
  · exact ffa hh
/-! ### the table -/
theorem xnode {X : Cx} {g m : Nat} {a b : Option (List Value → Hp → KV → Bool)} (ha : ∀ x, a = some x → XOk X g x) (hb : ∀ x, b = some x → XOk X g x) : ∀ x, (Bool.rec a b (Nat.ble (Nat.succ g) m) : Option (List Value → Hp → KV → Bool)) = some x → XOk X g x := by
  intro fi h
  cases hc : Nat.ble (Nat.succ g) m with
  | false => rw [hc] at h; exact ha fi h
  | true => rw [hc] at h; exact hb fi h
theorem xleaf {X : Cx} {g i : Nat} {f : List Value → Hp → KV → Bool} (h : XOk X i f) : ∀ x, (Bool.rec none (some f) (Nat.beq g i) : Option (List Value → Hp → KV → Bool)) = some x → XOk X g x := by
  intro x hh
  cases hc : Nat.beq g i with
  | false => rw [hc] at hh; cases hh
  | true =>
    rw [hc] at hh
    have : some f = some x := hh
    injection this with this
    subst this
    have := Nat.eq_of_beq_eq_true hc
    subst this
    exact h
theorem ext_ok (h0 : st 0) (hg : w0.cell? ⟨0, 0, none⟩ = some (.iface 149 (.agg #[.pointer (some ⟨11, 32, none⟩)]))) (g : Nat) : ∀ x, ext1 g = some x → XOk (X0 w0 st) g x := by
  have y18 : XOk (X0 w0 st) 18 (sAs 63 65) := (as_ok h0 hg)
  have y98 : XOk (X0 w0 st) 98 xNoEscape := (noEscape_ok x98)
  have y99 : XOk (X0 w0 st) 99 (xMake 5) := (make_ok x99 Tryz.underlying121)
  have y100 : XOk (X0 w0 st) 100 xIndexByte := (indexByte_ok x100)
  have y113 : XOk (X0 w0 st) 113 (sCopy 5) := (copy_ok copy113)
  have y443 : XOk (X0 w0 st) 443 xCount := (count_ok x443)
  have y519 : XOk (X0 w0 st) 519 xAdd := (add_ok x519)
  have y590 : XOk (X0 w0 st) 590 xLoad := (load_ok x590)
  have y625 : XOk (X0 w0 st) 625 xLoad32 := (load32_ok x625)
  exact xnode (xnode (xnode (xnode (xleaf y625) (xleaf y590)) (xleaf y519)) (xnode (xleaf y443) (xleaf y113))) (xnode (xnode (xleaf y100) (xleaf y99)) (xnode (xleaf y98) (xleaf y18)))
theorem tab1_ok (h0 : st 0) (hg : w0.cell? ⟨0, 0, none⟩ = some (.iface 149 (.agg #[.pointer (some ⟨11, 32, none⟩)]))) : TabOk (X0 w0 st) T1 := by
  refine ⟨fun g fi h => ?_, ?_⟩
  · obtain ⟨fn, h1, h2, h3⟩ := fiT_ok g fi h
    exact ⟨fn, h1, by simpa using h2, h3⟩
  · intro g x h
    intro m h' w args args' k hs hv hgm hh
    exact (ext_ok h0 hg g x h).law hs hv hgm hh
theorem sound1 (h0 : st 0) (hg : w0.cell? ⟨0, 0, none⟩ = some (.iface 149 (.agg #[.pointer (some ⟨11, 32, none⟩)]))) (N : Nat) : SoundCl (X0 w0 st) gOk0 (fCall T1 N) := call_sound w_ok (tab1_ok h0 hg) N
end Go.Ab
end

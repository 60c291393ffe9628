/-
  A part of the proof of the card of DeskKnown (the whole is said in the last text). No condition of its own beyond those that its theorems state.
-/
import Derived.Test.YtcflmdimeemkcaaGreatDoorJa
import Derived.Test.YtcflmdimeemkcaaGreatDoorRf
import Derived.Test.YtcflmdimeemkcaaGreatDoorRb
import Derived.Test.YtcflmdimeemkcaaGreatDoorRc
import Derived.Test.YtcflmdimeemkcaaGreatDoorRd
import Derived.Test.YtcflmdimeemkcaaGreatDoorRe
set_option autoImplicit true
set_option relaxedAutoImplicit true
set_option linter.unusedVariables false
set_option linter.unusedSimpArgs false
set_option linter.unusedSectionVars false
section
namespace Go.Ab
open Go.Proofs
noncomputable def W1 : Cw := ⟨ty0, lies0, flat0, esc0, loc0, fun _ => false⟩
noncomputable def Xo (w0 : World) : Cx := ⟨Tryz.prog, W1, w0, fun _ => True⟩
set_option maxRecDepth 100000 in
theorem wo_ok {w0 : World} : WOk (Xo w0) := by
  constructor
  · exact ty_ok
  · exact lies_ok
  · exact flat_ok
  · exact mixed_ok
theorem wo3 : cF W1 3 Tryz.f3 = some fi3 := by kernel_rfl
theorem wo5 : cF W1 5 Tryz.f5 = some fi5 := by kernel_rfl
theorem wo6 : cF W1 6 Tryz.f6 = some fi6 := by kernel_rfl
theorem n3 : (Tryz.f3.name == "runtime.NumGoroutine") = false := by kernel_rfl
theorem n5 : (Tryz.f5.name == "runtime.NumGoroutine") = false := by kernel_rfl
theorem n6 : (Tryz.f6.name == "runtime.NumGoroutine") = false := by kernel_rfl
theorem laid_of {W w : World} (h : Laid0 W) (hst : ∀ r, r < W.heap.size → w.heap[r]? = W.heap[r]?) : Laid0 w := by
  refine ⟨?_, fun g n l hg => ?_⟩
  · have h1 := h.handle
    have h0 : 0 < W.heap.size := by
      rcases Nat.eq_zero_or_pos W.heap.size with e | e
      · simp [World.cell?, e] at h1
      · exact e
    unfold World.cell? at h1 ⊢
    rw [show (⟨0, 0, none⟩ : Addr).block = 0 from rfl] at h1 ⊢
    rw [hst 0 h0]; exact h1
  · obtain ⟨t, ht⟩ := h.tab g n l hg
    exact ⟨t, by rw [hst g (Array.getElem?_eq_some_iff.1 ht).1]; exact ht⟩
/-- what the kernel's run of a script says -/
def RunOk (s : List UInt8) (rs : List Value) : Prop := (∀ v ∈ rs, ∃ b, v = .string b) ∧
  ∀ (te : Nat → TypeId) (q : TypeId → TypeId → TypeId → TypeId → TypeId → TypeId → TypeId → Bool), q (te 1) (te 2) (te 4) (te 5) (te 8) (te 9) (te 10) = true → start0 te (fun h0 => fCall T0 300 (.fn 4) [.string ⟨⟨s⟩⟩] h0 (runK rs (fun h => endK q (.bool true) h))) = true
theorem strs_ok {rs : List Value} (h : rs.all (fun v => match v with | .string _ => true | _ => false) = true) : ∀ v ∈ rs, ∃ b, v = .string b := by
  intro v hv
  have := List.all_eq_true.1 h v hv
  split at this
  · exact ⟨_, rfl⟩
  · cases this
theorem ro0 : RunOk sc0 rs0 := ⟨strs_ok (by kernel_rfl), fun te q hq => by rw [run0_ok]; exact hq⟩
theorem ro1 : RunOk sc1 rs1 := ⟨strs_ok (by kernel_rfl), fun te q hq => by rw [run1_ok]; exact hq⟩
theorem ro2 : RunOk sc2 rs2 := ⟨strs_ok (by kernel_rfl), fun te q hq => by rw [run2_ok, hq]; rfl⟩
theorem ro3 : RunOk sc3 rs3 := ⟨strs_ok (by kernel_rfl), fun te q hq => by rw [run3_ok]; exact hq⟩
theorem ro4 : RunOk sc4 rs4 := ⟨strs_ok (by kernel_rfl), fun te q hq => by rw [run4_ok]; exact hq⟩
theorem strs_lays {m : M} : ∀ {rs : List Value}, (∀ v ∈ rs, ∃ b, v = .string b) → VRL m (rs.map fun v => [v]).flatten rs
  | [], _ => .nil
  | v :: rs, h => by
    obtain ⟨b, rfl⟩ := h v (List.mem_cons_self ..)
    exact .cons (.string _) (strs_lays fun x hx => h x (List.mem_cons_of_mem _ hx))
theorem out_ok {W : World} (hL : Laid0 W) {m : M} {h : Hp} {w : World} {k : KV} (hs : Sim (Xo W) m h w) {l : List UInt8} {rs : List Value} (hr : RunOk l rs) (hh : outK rs h k = true) :
    CallR Tryz.prog 4 #[.string ⟨⟨l⟩⟩] w (fun v' w' => Done (Xo W) m h w k v' w') := by
  have hw : Laid0 w := laid_of hL (fun r hlt => (hs.stat.1.2 r trivial hlt).1)
  refine .inr ⟨enters4 _ _, callsIn_wide.2 ((run_calls hw hr.1 hr.2).mono ?_)⟩
  rintro e w' ⟨v, rfl, hR⟩
  show Done (Xo W) m h w k v w'
  unfold outK at hh
  rcases rec_inv hh with ⟨hb, h1⟩ | ⟨hb, h1⟩
  · have hb := beq_f.1 hb
    rcases hR.out with ⟨e, _⟩ | ⟨r, sh, c, cs, rfl, o1, o2, o3, o4, o5, _⟩
    · rw [e] at hb; exact absurd rfl hb
    · obtain ⟨t, g1, g2⟩ := putChunks_inv h1
      obtain ⟨g3, g4⟩ := Hp.newC_inv g1
      have hl : Lays m (rs.map fun v => [v]) 1 rs := by
        refine ⟨fun c hc => ?_, fun c hc v hv => ?_, strs_lays hr.1⟩
        · obtain ⟨x, _, rfl⟩ := List.mem_map.1 hc; rfl
        · obtain ⟨x, hx, rfl⟩ := List.mem_map.1 hc
          obtain ⟨b, rfl⟩ := hr.1 x hx
          rw [List.mem_singleton.1 hv]; rfl
      have hT : Trie m t (0 + (rs.map fun v => [v]).length) 1 (fun j => cs[sh + j]?) := by
        refine Trie.put (Trie.lf m 0 1 (fun j => cs[sh + j]?)) (fun j hj => rfl) hl (fun j v hv => ?_) g2
        simp only [Nat.zero_mul, Nat.zero_add]
        exact o3 j v hv
      rw [List.length_map, Nat.zero_add] at hT
      have hbk : BlkR m ⟨t, rs.length, 1, 9, none⟩ ⟨r, sh, cs.size, 1⟩ (.cells cs 9 (0, 0)) :=
        ⟨cs, (0, 0), rfl, Trie.blk (p := ⟨r, sh, cs.size, 1⟩) hT rfl rfl (by show sh + rs.length * 1 ≤ cs.size; omega) rfl ⟨sh, by simp⟩⟩
      obtain ⟨s1, s2⟩ := hs.seenB g3 (p := ⟨r, sh, cs.size, 1⟩) o1 o2 ⟨hR.kept.1, hR.kept.2.1⟩ hR.kept.2.2.1 hR.kept.2.2.2 hbk
      refine ⟨_, _, _, .tuple (.cons ?_ (.cons (.int _ _) .nil)), s1, s2, g4⟩
      rw [natmul]
      refine .slL ⟨rfl, _, M.put_same _ _ _, by simp⟩ (M.put_same _ _ _) o4 ?_
      show sh + c * 1 ≤ cs.size
      omega
  · have hb := beq_iff.1 hb
    rcases hR.out with ⟨e, rfl⟩ | ⟨r, sh, c, cs, rfl, o1, o2, o3, o4, o5, o6⟩
    · obtain ⟨s1, s2⟩ := hs.world (w' := w') ⟨hR.kept.1, hR.kept.2.1⟩ hR.kept.2.2.1 hR.kept.2.2.2
      exact ⟨_, _, _, .tuple (.cons .snil (.cons (.int _ _) .nil)), s1, s2, h1⟩
    · omega
theorem xRun_ok {W : World} (hL : Laid0 W) : XOk (Xo W) 4 xRun := by
  constructor
  intro m h w args args' k hs hv hgm hh
  unfold xRun at hh
  split at hh
  case h_2 => exact ffa hh
  rename_i l
  cases hv with
  | cons h1 h2 =>
  cases h2; cases h1
  have eqs : ∀ {s : List UInt8}, bytesEq l s = true → l = s := fun {s} h => by rw [bytesEq_eq] at h; exact beq_iff_eq.1 h
  rcases rec_inv hh with ⟨_, hh⟩ | ⟨e, hh⟩
  case inr => rw [eqs e]; exact out_ok hL hs ro0 hh
  rcases rec_inv hh with ⟨_, hh⟩ | ⟨e, hh⟩
  case inr => rw [eqs e]; exact out_ok hL hs ro1 hh
  rcases rec_inv hh with ⟨_, hh⟩ | ⟨e, hh⟩
  case inr => rw [eqs e]; exact out_ok hL hs ro2 hh
  rcases rec_inv hh with ⟨_, hh⟩ | ⟨e, hh⟩
  case inr => rw [eqs e]; exact out_ok hL hs ro3 hh
  rcases rec_inv hh with ⟨_, hh⟩ | ⟨e, hh⟩
  case inr => rw [eqs e]; exact out_ok hL hs ro4 hh
  exact ffa hh
theorem tab2_ok {W : World} (hL : Laid0 W) : TabOk (Xo W) T2 := by
  refine ⟨fun g fi h => ?_, ?_⟩
  · have h : fiT2 g = some fi := h
    unfold fiT2 at h
    cases h3 : Nat.beq g 3 with
    | true =>
      rw [h3] at h
      have := Nat.eq_of_beq_eq_true h3; subst this
      have h : some fi3 = some fi := h
      injection h with h; subst h
      exact ⟨Tryz.f3, Tryz.func3, by simpa using n3, wo3⟩
    | false =>
      rw [h3] at h
      cases h5 : Nat.beq g 5 with
      | true =>
        rw [h5] at h
        have := Nat.eq_of_beq_eq_true h5; subst this
        have h : some fi5 = some fi := h
        injection h with h; subst h
        exact ⟨Tryz.f5, Tryz.func5, by simpa using n5, wo5⟩
      | false =>
        rw [h5] at h
        cases h6 : Nat.beq g 6 with
        | true =>
          rw [h6] at h
          have := Nat.eq_of_beq_eq_true h6; subst this
          have h : some fi6 = some fi := h
          injection h with h; subst h
          exact ⟨Tryz.f6, Tryz.func6, by simpa using n6, wo6⟩
        | false => rw [h6] at h; cases h
  · intro g x h
    have h : ext2 g = some x := h
    unfold ext2 at h
    intro m h' w args args' k hs hv hgm hh
    cases h4 : Nat.beq g 4 with
    | true =>
      rw [h4] at h
      have := Nat.eq_of_beq_eq_true h4; subst this
      have h : some xRun = some x := h
      injection h with h; subst h
      exact (xRun_ok hL).law hs hv hgm hh
    | false => rw [h4] at h; cases h
theorem hE_wf : hE.wf := by
  refine ⟨?_, ?_, Nat.le_refl _, fun b c hc => ?_, fun n x hx => ?_, trivial⟩
  · show 0 ≤ 1000000001; decide
  · show 0 ≤ 1000000001; decide
  · have hc : (Tr.lf : Tr CB).at b = some c := hc
    rw [Tr.at_lf] at hc; cases hc
  · have hx : (Tr.lf : Tr AObj).at n = some x := hx
    rw [Tr.at_lf] at hx; cases hx
def mE : M := fun _ => none
theorem mE_no {b : Nat} {p : Pl} (h : mE b = some p) : False := by
  have h : (none : Option Pl) = some p := h
  cases h
theorem hE_sim (W : World) : Sim (Xo W) mE hE W where
  wf := hE_wf
  rel := fun b p hb => (mE_no hb).elim
  inj := fun b b' p p' _ _ hb => (mE_no hb).elim
  fresh := fun _ _ => rfl
  bound := fun b p hb => (mE_no hb).elim
  stat := ⟨⟨Nat.le_refl _, fun r _ _ => ⟨rfl, fun b p hb => (mE_no hb).elim⟩⟩, rfl, rfl⟩
theorem enters3 (args : Array Value) (w : World) : (callFunc 3 args).run Tryz.prog w = .ok (.enter 3 args) w := enters Tryz.func3 (by kernel_rfl) (by kernel_rfl) args w
/-- **DeskKnown: true; nothing of old is touched** -/
theorem known_calls {W : World} (h : Laid0 W) : Calls Tryz.prog 3 #[] W fun e W' => e = .returned (.bool true) ∧ Kept W W' := by
  have hc := (call_sound wo_ok (tab2_ok h) 60).fn (hE_sim W) .nil (fun g hg => by cases hg) known_ok
  rcases hc with ⟨v, w', h1, _⟩ | ⟨_, h2⟩
  · have h1 : (callFunc 3 #[]).run Tryz.prog W = _ := h1
    rw [enters3] at h1; injection h1 with h1; cases h1
  · refine (callsIn_wide.1 h2).mono ?_
    intro e w' he
    cases e with
    | panicked c => exact he.elim
    | outgrown => exact he.elim
    | returned v =>
      obtain ⟨m', h', u, d1, d2, d3, d4⟩ := he
      unfold endB at d4
      rcases vBool_inv d4 with ⟨b, rfl, d5⟩ | d5
      case inr => exact ffa d5
      subst d5
      cases d1
      exact ⟨rfl, d2.stat.2.1, d2.stat.2.2, d3.size, fun r hr => (d2.stat.1.2 r trivial hr).1⟩
end Go.Ab
end

/-
  A part of the proof of the card of DeskKnown (the whole is said in the last text). No condition of its own beyond those that its theorems state.
-/
import Derived.Test.YtcflmdimeemkcaaGreatDoorIb
import Derived.Test.YtcflmdimeemkcaaGreatDoorRa
set_option autoImplicit true
set_option relaxedAutoImplicit true
set_option linter.unusedVariables false
set_option linter.unusedSimpArgs false
set_option linter.unusedSectionVars false
section
namespace Go.Ab
open Go.Proofs
/-! ### the tables: what they hold -/
def glOf (g : Nat) : Option (Nat × List Value) :=
  if g = 1 then some (256, gl1) else if g = 2 then some (32, gl2) else if g = 4 then some (64, gl4) else if g = 5 then some (20, gl5) else if g = 8 then some (52, gl8) else if g = 9 then some (32, gl9) else if g = 10 then some (8, gl10) else none
noncomputable def tr0 (te : Nat → TypeId) : Tr CB :=
  ((((((Tr.lf.set 1 (some (one gl1 256 (te 1)))).set 2 (some (one gl2 32 (te 2)))).set 4 (some (one gl4 64 (te 4)))).set 5 (some (one gl5 20 (te 5)))).set 8 (some (one gl8 52 (te 8)))).set 9 (some (one gl9 32 (te 9)))).set 10 (some (one gl10 8 (te 10)))
noncomputable def hp0 (te : Nat → TypeId) : Hp := ⟨.nil, tr0 te, .lf, yb, 11, 0⟩
theorem start0_inv {te : Nat → TypeId} {k : Hp → Bool} (h : start0 te k = true) : k (hp0 te) = true := by
  unfold start0 at h
  have h1 := put_inv h
  have h2 := put_inv h1
  have h3 := put_inv h2
  have h4 := put_inv h3
  have h5 := put_inv h4
  have h6 := put_inv h5
  have h7 := put_inv h6
  exact h7
theorem glOf_cases {g : Nat} {x : Nat × List Value} (h : glOf g = some x) : (g = 1 ∧ x = (256, gl1)) ∨ (g = 2 ∧ x = (32, gl2)) ∨ (g = 4 ∧ x = (64, gl4)) ∨ (g = 5 ∧ x = (20, gl5)) ∨ (g = 8 ∧ x = (52, gl8)) ∨ (g = 9 ∧ x = (32, gl9)) ∨ (g = 10 ∧ x = (8, gl10)) := by
  unfold glOf at h
  repeat' split at h
  all_goals first
    | (injection h with h; subst h; simp_all)
    | cases h
theorem tr0_at (te : Nat → TypeId) (b : Nat) : (tr0 te).at b = (glOf b).map fun x => one x.2 x.1 (te b) := by
  unfold tr0 glOf
  simp only [Tr.at_set, Tr.at_lf]
  by_cases h1 : b = 10
  · subst h1; simp
  by_cases h2 : b = 9
  · subst h2; simp
  by_cases h3 : b = 8
  · subst h3; simp
  by_cases h4 : b = 5
  · subst h4; simp
  by_cases h5 : b = 4
  · subst h5; simp
  by_cases h6 : b = 2
  · subst h6; simp
  by_cases h7 : b = 1
  · subst h7; simp
  simp [h1, h2, h3, h4, h5, h6, h7]
theorem gl_len {g n : Nat} {l : List Value} (h : glOf g = some (n, l)) : l.length = n ∧ l.all plain1 = true ∧ (∀ v ∈ l, ∃ k z, v = .int k z) ∧ g < 11 := by
  have ints : ∀ l : List Value, l.all (fun v => match v with | .int _ _ => true | _ => false) = true → ∀ v ∈ l, ∃ k z, v = .int k z := by
    intro l hl v hv
    have := List.all_eq_true.1 hl v hv
    split at this
    · exact ⟨_, _, rfl⟩
    · cases this
  rcases glOf_cases h with ⟨rfl, e⟩ | ⟨rfl, e⟩ | ⟨rfl, e⟩ | ⟨rfl, e⟩ | ⟨rfl, e⟩ | ⟨rfl, e⟩ | ⟨rfl, e⟩ <;> injection e with e1 e2 <;> subst e1 <;> subst e2 <;> exact ⟨by kernel_rfl, by kernel_rfl, ints _ (by kernel_rfl), by decide⟩
/-- what is kept -/
def Kept (W W' : World) : Prop := W'.os = W.os ∧ W'.output = W.output ∧ W.heap.size ≤ W'.heap.size ∧ ∀ r, r < W.heap.size → W'.heap[r]? = W.heap[r]?
structure Laid0 (W : World) : Prop where
  handle : W.cell? ⟨0, 0, none⟩ = some (.iface 149 (.agg #[.pointer (some ⟨11, 32, none⟩)]))
  tab : ∀ g n l, glOf g = some (n, l) → ∃ t, W.heap[g]? = some (.cells l.toArray t (0, 0))
def teOf (W : World) (g : Nat) : TypeId := match W.heap[g]? with | some (.cells _ t _) => t | _ => 0
theorem Laid0.at {W : World} (h : Laid0 W) {g n : Nat} {l : List Value} (hg : glOf g = some (n, l)) : W.heap[g]? = some (.cells l.toArray (teOf W g) (0, 0)) := by
  obtain ⟨t, ht⟩ := h.tab g n l hg
  unfold teOf
  rw [ht]
def m0 : M := fun g => (glOf g).map fun x => ⟨g, 0, x.1, x.1⟩
theorem m0_inv {g : Nat} {p : Pl} (h : m0 g = some p) : ∃ n l, glOf g = some (n, l) ∧ p = ⟨g, 0, n, n⟩ := by
  unfold m0 at h
  rw [Option.map_eq_some_iff] at h
  obtain ⟨⟨n, l⟩, h1, rfl⟩ := h
  exact ⟨n, l, h1, rfl⟩
def st0 : Nat → Prop := fun r => glOf r = none
theorem hp0_blk (te : Nat → TypeId) {b : Nat} {c : CB} (h : (hp0 te).blk b = some c) : ∃ n l, glOf b = some (n, l) ∧ c = one l n (te b) := by
  unfold Hp.blk hp0 at h
  split at h
  · cases h
  · have h : (tr0 te).at b = some c := h
    rw [tr0_at, Option.map_eq_some_iff] at h
    obtain ⟨⟨n, l⟩, h1, rfl⟩ := h
    exact ⟨n, l, h1, rfl⟩
theorem hp0_oat (te : Nat → TypeId) (b : Nat) : (hp0 te).oat b = none := by
  unfold Hp.oat hp0
  split
  · exact Tr.at_lf _
  · rfl
theorem start_sim {W : World} (h : Laid0 W) : Sim (X0 W st0) m0 (hp0 (teOf W)) W := by
  have e1 := yb_eq; have e2 := ob_eq
  refine ⟨⟨?_, ?_, ?_, ?_, ?_, ?_⟩, ?_, ?_, ?_, ?_, ?_⟩
  · show 11 ≤ 1000000001; decide
  · show 0 ≤ 1000000001; decide
  · exact Nat.le_refl _
  · intro b c hc
    have hc : (tr0 (teOf W)).at b = some c := hc
    rw [tr0_at, Option.map_eq_some_iff] at hc
    obtain ⟨⟨n, l⟩, h1, _⟩ := hc
    exact (gl_len h1).2.2.2
  · intro n x hx
    have hx : (Tr.lf : Tr AObj).at n = some x := hx
    rw [Tr.at_lf] at hx; cases hx
  · exact trivial
  · intro b p hb hl
    obtain ⟨n, l, h1, rfl⟩ := m0_inv hb
    refine ⟨_, h.at h1, fun c hc => ?_, fun x hx => ?_⟩
    · obtain ⟨n', l', h2, rfl⟩ := hp0_blk _ hc
      rw [h1] at h2; injection h2 with h2; injection h2 with h2 h3; subst h2; subst h3
      obtain ⟨g1, g2, _⟩ := gl_len h1
      obtain ⟨v1, v2⟩ := VRL.plain (m := m0) g2
      exact one_rel v1 v2 g1 _ _
    · rw [hp0_oat] at hx; cases hx
  · intro b b' p p' _ _ hb hb' he
    obtain ⟨_, _, _, rfl⟩ := m0_inv hb
    obtain ⟨_, _, _, rfl⟩ := m0_inv hb'
    exact he
  · intro b hf
    cases hm : m0 b with
    | none => rfl
    | some p =>
      obtain ⟨n, l, h1, _⟩ := m0_inv hm
      have hlt := (gl_len h1).2.2.2
      have hny : (hp0 (teOf W)).ny = yb := rfl
      have hnt : (hp0 (teOf W)).nt = 11 := rfl
      unfold Hp.fresh at hf
      rw [hny, hnt] at hf
      omega
  · intro b p hb
    obtain ⟨n, l, h1, rfl⟩ := m0_inv hb
    exact (Array.getElem?_eq_some_iff.1 (h.at h1)).1
  · refine ⟨⟨Nat.le_refl _, fun r h1 h2 => ⟨rfl, fun b p hb e => ?_⟩⟩, rfl, rfl⟩
    obtain ⟨n, l, h3, rfl⟩ := m0_inv hb
    have h1 : glOf r = none := h1
    have e : b = r := e
    rw [← e, h3] at h1; cases h1
theorem gOk0_inv {g : Nat} (h : gOk0 g = true) : ∃ n l, glOf g = some (n, l) := by
  unfold gOk0 at h
  have fin : ∀ {i : Nat}, Nat.beq g i = true → (glOf i).isSome = true → ∃ n l, glOf g = some (n, l) := by
    intro i hi hs
    have := Nat.eq_of_beq_eq_true hi
    subst this
    obtain ⟨⟨n, l⟩, hx⟩ := Option.isSome_iff_exists.1 hs
    exact ⟨n, l, hx⟩
  rcases rec_inv h with ⟨_, h⟩ | ⟨_, h⟩ <;> rcases rec_inv h with ⟨_, h⟩ | ⟨_, h⟩ <;> first
    | (rcases rec_inv h with ⟨_, h⟩ | ⟨_, h⟩ <;> exact fin h rfl)
    | exact fin h rfl
theorem start_gm : GM m0 gOk0 := by
  intro g hg
  obtain ⟨n, l, h1⟩ := gOk0_inv hg
  exact ⟨⟨g, 0, n, n⟩, by unfold m0; rw [h1]; rfl, rfl, rfl⟩
/-! ### the end -/
theorem keptK_inv {h : Hp} {g n : Nat} {l : List Value} {k : TypeId → Bool} (hg : g < 11) (hh : keptK h g n l k = true) : ∃ e, h.blk g = some (one l n e) ∧ k e = true := by
  unfold keptK at hh
  obtain ⟨c, hc, h1⟩ := Hp.cells_inv hh
  rcases h1 with ⟨_, h1⟩ | ⟨hy, _⟩
  case inr => have := yb_eq; omega
  obtain ⟨⟨tl, tv, trr⟩, cn, cs, ce, cf⟩ := c
  cases tv with
  | none => exact ffa h1
  | some v =>
    cases tl with
    | some _ => exact ffa h1
    | none =>
      cases trr with
      | some _ => exact ffa h1
      | none =>
        cases cf with
        | some _ => exact ffa h1
        | none =>
          have h1 : (Bool.rec (ff 402) (Bool.rec (ff 402) (Bool.rec (ff 402) (k ce) (veqL v l)) (Nat.beq cs n)) (Nat.beq cn 1) : Bool) = true := h1
          obtain ⟨e1, h2⟩ := rec_t h1
          obtain ⟨e2, h3⟩ := rec_t h2
          obtain ⟨e3, h4⟩ := rec_t h3
          have e1 := beq_iff.1 e1
          have e2 := beq_iff.1 e2
          have e3 := veqL_sound e3
          subst e1; subst e2; subst e3
          exact ⟨ce, hc, h4⟩
theorem kept_at {X : Cx} {m : M} {h : Hp} {w : World} (hs : Sim X m h w) {g n : Nat} {l : List Value} {e : TypeId} (hm : m g = some ⟨g, 0, n, n⟩) (hb : h.blk g = some (one l n e)) (hl : l.length = n) (hi : ∀ v ∈ l, ∃ k z, v = .int k z) : w.heap[g]? = some (.cells l.toArray e (0, 0)) := by
  obtain ⟨o, h1, h2⟩ := hs.rel g _ hm (live_iff_blk hb)
  obtain ⟨cs, fr, rfl, hB⟩ := h2.1 _ hb
  have hfz : fr = (0, 0) := hB.fz
  subst hfz
  have hsz : cs.size = n := hB.sz
  have : cs = l.toArray := by
    apply Array.ext (by simp; omega)
    intro i hi1 hi2
    have hin : i < n := by omega
    have hc : (one l n e).cell i = some (l[i]'(by omega)) := by
      unfold CB.cell
      have h3 : (one l n e).s = n := rfl
      rw [h3, Nat.div_eq_of_lt hin, Nat.mod_eq_of_lt hin]
      have h4 : (one l n e).t.at 0 = some l := one_at0
      rw [h4]
      simp [List.getElem?_eq_getElem (show i < l.length by omega)]
    obtain ⟨_, v', h5, h6⟩ := hB.cell i _ hc
    obtain ⟨k, z, hz⟩ := hi (l[i]'(by omega)) (List.getElem_mem _)
    rw [hz] at h6
    cases h6
    have h5 : cs[0 + i]? = some _ := h5
    rw [Nat.zero_add, Array.getElem?_eq_getElem hi1] at h5
    injection h5 with h5
    rw [h5]; simp [hz]
  subst this
  exact h1
end Go.Ab
end
section
namespace Go.Ab
open Go.Proofs
theorem kept_of {W : World} (h : Laid0 W) {m' : M} {h' : Hp} {w' : World} (d2 : Sim (X0 W st0) m' h' w') (d3 : Tn m0 (hp0 (teOf W)) W m' h' w')
    (d4 : endK (fun a b c d e f g => decide (a = teOf W 1 ∧ b = teOf W 2 ∧ c = teOf W 4 ∧ d = teOf W 5 ∧ e = teOf W 8 ∧ f = teOf W 9 ∧ g = teOf W 10)) (.bool true) h' = true) :
    Kept W w' ∧ ∀ g n l, glOf g = some (n, l) → ∃ e, h'.blk g = some (one l n e) := by
  unfold endK at d4
  rcases vBool_inv d4 with ⟨b, hb, d5⟩ | d5
  case inr => exact ffa d5
  injection hb with hb
  subst hb
  obtain ⟨e1, b1, d5⟩ := keptK_inv (by decide) d5
  obtain ⟨e2, b2, d5⟩ := keptK_inv (by decide) d5
  obtain ⟨e4, b4, d5⟩ := keptK_inv (by decide) d5
  obtain ⟨e5, b5, d5⟩ := keptK_inv (by decide) d5
  obtain ⟨e8, b8, d5⟩ := keptK_inv (by decide) d5
  obtain ⟨e9, b9, d5⟩ := keptK_inv (by decide) d5
  obtain ⟨e10, b10, d5⟩ := keptK_inv (by decide) d5
  obtain ⟨rfl, rfl, rfl, rfl, rfl, rfl, rfl⟩ := of_decide_eq_true d5
  have hb : ∀ g n l, glOf g = some (n, l) → h'.blk g = some (one l n (teOf W g)) := by
    intro g n l hg
    rcases glOf_cases hg with ⟨rfl, e⟩ | ⟨rfl, e⟩ | ⟨rfl, e⟩ | ⟨rfl, e⟩ | ⟨rfl, e⟩ | ⟨rfl, e⟩ | ⟨rfl, e⟩ <;> injection e with e1 e2 <;> subst e1 <;> subst e2 <;> assumption
  refine ⟨⟨d2.stat.2.1, d2.stat.2.2, d3.size, fun r hr => ?_⟩, fun g n l hg => ⟨_, hb g n l hg⟩⟩
  cases hg : glOf r with
  | none => exact (d2.stat.1.2 r hg hr).1
  | some x =>
    obtain ⟨n, l⟩ := x
    obtain ⟨g1, _, g3, _⟩ := gl_len hg
    have hm : m' r = some ⟨r, 0, n, n⟩ := d3.sub _ _ (by unfold m0; rw [hg]; rfl)
    rw [h.at hg]
    exact kept_at d2 hm (hb r n l hg) g1 g3
/-- what desk.Run hands back -/
structure RunR (W W' : World) (v' : Value) (rs : List Value) : Prop where
  kept : Kept W W'
  out : (rs = [] ∧ v' = .tuple #[.slice none 0 0, .int .i64 0]) ∨ ∃ r sh c cs, v' = .tuple #[.slice (some ⟨r, sh, none⟩) rs.length c, .int .i64 0] ∧ W.heap.size ≤ r ∧ W'.heap[r]? = some (.cells cs 9 (0, 0)) ∧
    (∀ j v, rs[j]? = some v → cs[sh + j]? = some v) ∧ rs.length ≤ c ∧ sh + c ≤ cs.size ∧ 1 ≤ rs.length
theorem strings_eq {m : M} : ∀ {l l' : List Value}, (∀ v ∈ l, ∃ b, v = .string b) → VRL m l l' → l' = l
  | _, _, _, .nil => rfl
  | v :: l, v' :: l', h, .cons h1 h2 => by
    obtain ⟨b, rfl⟩ := h v (List.mem_cons_self ..)
    cases h1
    rw [strings_eq (fun x hx => h x (List.mem_cons_of_mem _ hx)) h2]
theorem enters4 (args : Array Value) (w : World) : (callFunc 4 args).run Tryz.prog w = .ok (.enter 4 args) w := enters Tryz.func4 (by kernel_rfl) (by kernel_rfl) args w
set_option maxRecDepth 100000 in
theorem run_calls {W : World} (h : Laid0 W) {s : List UInt8} {rs : List Value} (hrs : ∀ v ∈ rs, ∃ b, v = .string b)
    (hr : ∀ (te : Nat → TypeId) (q : TypeId → TypeId → TypeId → TypeId → TypeId → TypeId → TypeId → Bool), q (te 1) (te 2) (te 4) (te 5) (te 8) (te 9) (te 10) = true → start0 te (fun h0 => fCall T0 300 (.fn 4) [.string ⟨⟨s⟩⟩] h0 (runK rs (fun h => endK q (.bool true) h))) = true) :
    Calls Tryz.prog 4 #[.string ⟨⟨s⟩⟩] W fun e W' => ∃ v, e = .returned v ∧ RunR W W' v rs := by
  have hs := start_sim h
  have hq := hr (teOf W) (fun a b c d e f g => decide (a = teOf W 1 ∧ b = teOf W 2 ∧ c = teOf W 4 ∧ d = teOf W 5 ∧ e = teOf W 8 ∧ f = teOf W 9 ∧ g = teOf W 10)) (decide_eq_true ⟨rfl, rfl, rfl, rfl, rfl, rfl, rfl⟩)
  have hrun := start0_inv hq
  have hst0 : st0 0 := by unfold st0 glOf; simp
  have hc := (sound0 (w0 := W) hst0 h.handle 300).fn hs (.cons (.string _) .nil) start_gm hrun
  rcases hc with ⟨v, w', h1, _⟩ | ⟨_, h2⟩
  · have h1 : (callFunc 4 #[.string ⟨⟨s⟩⟩]).run Tryz.prog W = _ := h1
    rw [enters4] at h1; injection h1 with h1; cases h1
  · refine (callsIn_wide.1 h2).mono ?_
    intro e w' he
    cases e with
    | panicked c => exact he.elim
    | outgrown => exact he.elim
    | returned v =>
      obtain ⟨m', h', u, d1, d2, d3, d4⟩ := he
      refine ⟨v, rfl, ?_⟩
      unfold runK at d4
      split at d4
      case h_3 => exact ffa d4
      · obtain ⟨x1, x2⟩ := both_inv d4
        have x1 := veqL_sound x1
        refine ⟨(kept_of h d2 d3 x2).1, .inl ⟨x1, ?_⟩⟩
        cases d1 with
        | tuple d1 =>
          rename_i a'
          generalize hl : a'.toList = l at d1
          cases d1 with
          | cons y1 y2 =>
            cases y2 with
            | cons y2 y3 =>
              cases y3; cases y1; cases y2
              have : a' = #[.slice none 0 0, .int .i64 0] := Array.ext' hl
              rw [this]
      · rename_i a n c
        obtain ⟨x0, d4⟩ := both_inv d4
        obtain ⟨x1, d4⟩ := both_inv d4
        obtain ⟨x2, d4⟩ := both_inv d4
        obtain ⟨x3, d4⟩ := both_inv d4
        obtain ⟨x4, d4⟩ := both_inv d4
        obtain ⟨x5, d4⟩ := both_inv d4
        replace x0 := ble_iff.1 x0
        replace x1 := beq_iff.1 x1
        replace x2 : c = 2 * n := beq_iff.1 x2
        replace x3 := beq_iff.1 x3
        replace x4 := ble_iff.1 x4
        obtain ⟨cb, hcb, y⟩ := Hp.cells_inv d4
        rcases y with ⟨hlt0, y⟩ | ⟨_, _, _, _, _, y⟩
        case inr => exact ffa y
        obtain ⟨z1, y⟩ := both_inv y
        obtain ⟨z2, y⟩ := both_inv y
        obtain ⟨hfz, y⟩ := noFz_inv y
        replace z1 := beq_iff.1 z1
        replace z2 := beq_iff.1 z2
        cases d1 with
        | tuple d1 =>
          rename_i a'
          generalize hl : a'.toList = l at d1
          cases d1 with
          | cons y1 y2 =>
            cases y2 with
            | cons y2 y3 =>
              cases y3; cases y2
              cases y1 with
              | slE => exfalso; omega
              | slG =>
                exfalso
                have h6 : h'.t.at ghost = some cb := by
                  unfold Hp.blk at hcb
                  have : ¬ yb ≤ ghost := Nat.not_le.2 hlt0
                  simpa [this] using hcb
                have h7 : ghost < h'.nt := d2.wf.t _ _ h6
                have h8 := d2.wf.nt
                have h9 := ghost_eq
                omega
              | @slL _ a1 p _ kk c1 ha hp hk hroom =>
                subst x1
                obtain ⟨css, l', g1, g2, g3, g4⟩ := elems_inv d2 ha y
                obtain ⟨g5, g6⟩ := both_inv g4
                have g5 := veqL_sound g5
                obtain ⟨hk1, hk2⟩ := kept_of h d2 d3 g6
                have hv := g2.vr
                rw [← g5] at hv
                have hl' := strings_eq hrs hv
                rw [hl'] at g3
                obtain ⟨p', cs, fr, i1, i2, i3, i4⟩ := d2.at ha hcb
                rw [hp] at i1; injection i1 with i1; subst i1
                subst i2
                have hfr : fr = (0, 0) := by have := i4.fz; rw [hfz] at this; exact this
                subst hfr
                rw [z2] at i3
                have hes : p.es = 1 := by rw [← i4.es, z1]
                have hsz := i4.sz
                refine ⟨hk1, .inr ⟨p.b, p.sh + a.off, c1, cs, ?_, ?_, i3, ?_, by omega, by rw [hes] at hroom; rw [hsz]; simpa using hroom, x0⟩⟩
                · have : a' = #[.slice (some ⟨p.b, p.sh + a.off, none⟩) rs.length c1, .int .i64 0] := Array.ext' hl
                  rw [this]
                · rcases Nat.lt_or_ge p.b W.heap.size with hlt | hge
                  · exfalso
                    by_cases hex : ∃ b p0, m0 b = some p0 ∧ p0.b = p.b
                    · obtain ⟨b, p0, k1, k2⟩ := hex
                      obtain ⟨n1, l1, k3, rfl⟩ := m0_inv k1
                      obtain ⟨e, k4⟩ := hk2 b n1 l1 k3
                      have k5 := d2.inj b a.block _ p (live_iff_blk k4) (live_iff_blk hcb) (d3.sub _ _ k1) hp k2
                      have := (gl_len k3).2.2.2
                      omega
                    · exact (d3.old p.b hlt (fun b p0 k1 k2 => hex ⟨b, p0, k1, k2⟩)).2 a.block p hp rfl
                  · exact hge
                · intro j v hj
                  have := g3 j v hj
                  rw [add_none] at this
                  simpa [World.cell?, i3] using this
end Go.Ab
end

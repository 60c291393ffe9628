/-
  A part of the proof of the card of DeskKnown (the whole is said in the last text). No condition of its own beyond those that its theorems state.
-/
import Derived.Test.YtcflmdimeemkcaaGreatDoorGc
import Derived.RangeFuncRecord
set_option autoImplicit true
set_option relaxedAutoImplicit true
set_option linter.unusedVariables false
set_option linter.unusedSimpArgs false
set_option linter.unusedSectionVars false
section
namespace Go.Ab
variable {X : Cx} {m m' : M} {h h' : Hp} {w w' : World} {P : Program}
variable {e : E} {b : Bd} {c : Ct} {ds : Ds} {n : Nat} {ρ : Operand → Value} {o : Oper} {d : Option Nat} {ty : TypeId} {f : F}
/-- a fence that lets everything in -/
def wideAt (r : Option Nat) : Fence := { fn := fun _ => True, depth := none, alive := false, round := r }
theorem room_wideAt (r : Option Nat) (n : Nat) : (wideAt r).room n := fun _ h => by simp [wideAt] at h
theorem callsIn_wideAt {r : Option Nat} {P : Program} {f : FuncId} {args : Array Value} {w : World} {R : Ending → World → Prop} (h : CallsIn Fence.wide 0 P f args w R) : CallsIn (wideAt r) 0 P f args w R := h
theorem roundIn_wideAt {r : Option Nat} {P : Program} {l : Nat} {f : FuncId} {tmps : Array Value} {assign body : Code} {w : World} {R : Ending → World → Prop} (h : RoundIn Fence.wide 0 P l f tmps assign body w R) : RoundIn (wideAt r) 0 P l f tmps assign body w R := h
/-- returned, and so -/
def retR (R : Value → World → Prop) : Ending → World → Prop
  | .returned v, w => R v w
  | _, _ => False
/-- a function's call: at once, or by its body -/
def CallR (P : Program) (g : FuncId) (args : Array Value) (w : World) (R : Value → World → Prop) : Prop :=
  (∃ v w', (callFunc g args).run P w = .ok (.value v) w' ∧ R v w') ∨ ((callFunc g args).run P w = .ok (.enter g args) w ∧ CallsIn Fence.wide 0 P g args w (retR R))
def YieldR (P : Program) (l : Nat) (args : Array Value) (w : World) (R : Value → World → Prop) : Prop :=
  ∃ f tmps assign body, (Instr.yield l args).run P w = .ok (.round l f tmps assign body) w ∧ RoundIn Fence.wide 0 P l f tmps assign body w (retR R)
theorem retR.mono {R R' : Value → World → Prop} (h : ∀ v w, R v w → R' v w) : ∀ e w, retR R e w → retR R' e w := by
  intro e w he
  cases e with
  | returned v => exact h v w he
  | panicked c => exact he
  | outgrown => exact he
theorem CallR.mono {g : FuncId} {args : Array Value} {R R' : Value → World → Prop} (h : ∀ v w, R v w → R' v w) (hc : CallR P g args w R) : CallR P g args w R' := by
  rcases hc with ⟨v, w', h1, h2⟩ | ⟨h1, h2⟩
  · exact .inl ⟨v, w', h1, h _ _ h2⟩
  · exact .inr ⟨h1, h2.mono (retR.mono h)⟩
/-- the global variables are where they are -/
def GM (m : M) (ng : Nat → Bool) : Prop := ∀ g, ng g = true → ∃ p, m g = some p ∧ p.b = g ∧ p.sh = 0
theorem GM.mono {m m' : M} (hm : m.le m') {ng : Nat → Bool} (h : GM m ng) : GM m' ng := fun g hg => let ⟨p, a, b⟩ := h g hg; ⟨p, hm _ _ a, b⟩
structure SoundCl (X : Cx) (ng : Nat → Bool) (cl : Cl) : Prop where
  fn : ∀ {m : M} {h : Hp} {w : World} {args args' : List Value} {g : Nat} {k : KV}, Sim X m h w → VRL m args args' → GM m ng → cl (.fn g) args h k = true → CallR X.P g args'.toArray w (fun v' w' => Done X m h w k v' w')
  rng : ∀ {m : M} {h : Hp} {w : World} {args args' : List Value} {g : Nat} {k : KV}, Sim X m h w → VRL m args args' → GM m ng → cl (.rng g) args h k = true → (callFunc g args'.toArray).run X.P w = .ok (.enter g args'.toArray) w ∧ CallsIn Fence.wide 0 X.P g args'.toArray w (retR fun v' w' => Done X m h w k v' w')
  yield : ∀ {m : M} {h : Hp} {w : World} {args args' : List Value} {l : Nat} {p : Pl} {k : KV}, Sim X m h w → VRL m args args' → GM m ng → m l = some p → cl (.yield l) args h k = true → YieldR X.P p.b args'.toArray w (fun v' w' => Done X m h w k v' w')
theorem Act.eval_const (a : Act) (v : Value) : a.eval (.const v) = v := rfl
theorem OkR.wpIn {k : KV} {a : Act} {r : Option Nat} {next : Act → World → Prop} {Q : Exit → Act → World → Prop} (hd : ∀ q, o.op ≠ .defer q) (hr : OkR X P m h w (execOp a.eval o) k) (hn : ∀ v' w', Done X m h w k v' w' → next (a.put o.dst v') w') :
    o.wpIn (wideAt r) 0 P a w next Q := by
  obtain ⟨x, v', w', h1, h2, h3⟩ := hr
  refine ⟨fun _ _ => trivial, ?_⟩
  rw [Oper.semAt_eq _ _ _ hd, h1]
  rcases h3 with rfl | ⟨rfl, rfl⟩
  · exact hn _ _ h2
  · exact hn _ _ h2
theorem CallR.wpIn {k : KV} {a : Act} {r : Option Nat} {next : Act → World → Prop} {Q : Exit → Act → World → Prop} {g : FuncId} {args : Array Value} (hd : ∀ q, o.op ≠ .defer q) (he : (execOp a.eval o).run P w = (callFunc g args).run P w)
    (hr : CallR P g args w (fun v' w' => Done X m h w k v' w')) (hn : ∀ v' w', Done X m h w k v' w' → next (a.put o.dst v') w') : o.wpIn (wideAt r) 0 P a w next Q := by
  refine ⟨fun _ _ => trivial, ?_⟩
  rw [Oper.semAt_eq _ _ _ hd, he]
  rcases hr with ⟨v, w', h1, h2⟩ | ⟨h1, h2⟩
  · rw [h1]; exact hn _ _ h2
  · rw [h1]
    refine ⟨fun hh => (by simp [wideAt] at hh), callsIn_wideAt (h2.mono ?_)⟩
    intro en w2 hw
    cases en with
    | returned v => exact hn _ _ hw
    | panicked c => exact hw.elim
    | outgrown => exact hw.elim
theorem YieldR.wpIn {k : KV} {a : Act} {r : Option Nat} {next : Act → World → Prop} {Q : Exit → Act → World → Prop} {l : Nat} {args : Array Value} (hd : ∀ q, o.op ≠ .defer q) (he : (execOp a.eval o).run P w = (Instr.yield l args).run P w)
    (hr : YieldR P l args w (fun v' w' => Done X m h w k v' w')) (hn : ∀ v' w', Done X m h w k v' w' → next (a.put o.dst v') w') : o.wpIn (wideAt r) 0 P a w next Q := by
  refine ⟨fun _ _ => trivial, ?_⟩
  rw [Oper.semAt_eq _ _ _ hd, he]
  obtain ⟨f, tmps, assign, body, h1, h2⟩ := hr
  rw [h1]
  refine ⟨fun hh => (by simp [wideAt] at hh), roundIn_wideAt (h2.mono ?_)⟩
  intro en w2 hw
  cases en with
  | returned v => exact hn _ _ hw
  | panicked c => exact hw.elim
  | outgrown => exact hw.elim
theorem call_value {x : Call} {y : Operand} (ho : o.op = .call x) (hb : x.callee = .value y) {fn : Fn} {first captured : Array Value} (hy : ρ y = .func fn first captured) (P : Program) (w : World) :
    (execOp ρ o).run P w = (invoke (.fn fn captured) (first ++ x.args.map ρ)).run P w := by
  simp only [execOp, ho, resolve, hb, hy, Deferred.ofValue, Sem.run_bind, Sem.run_pure, Result.andThen_ok]
theorem op_in (hC : Cok X.P c) (hgm : GM m c.ng) {cl : Cl} (hcl : SoundCl X c.ng cl) (hf : cOp c d ds n o.type o.op = some f) (hs : Sim X m h w) {a : Act} (hx : ∀ x ∈ o.op.operands.toList, OpV m e b c ds n a.eval x) {k : KV} (hh : f cl e b h k = true)
    {r : Option Nat} {next : Act → World → Prop} {Q : Exit → Act → World → Prop} (hn : ∀ v' w', Done X m h w k v' w' → next (a.put o.dst v') w') : o.wpIn (wideAt r) 0 X.P a w next Q := by
  have hd : ∀ q, o.op ≠ .defer q := fun q hq => by rw [hq] at hf; simp [cOp] at hf
  by_cases hcall : ∃ x y, o.op = .call x ∧ x.callee = .value y
  · obtain ⟨x, y, ho, hb⟩ := hcall
    have hop : ∀ z ∈ x.args.toList, OpV m e b c ds n a.eval z := fun z hz => hx z (by rw [ho]; simp [Op.operands, Call.operands]; exact .inr (by simpa using hz))
    have hoy : OpV m e b c ds n a.eval y := hx y (by rw [ho]; simp [Op.operands, Call.operands, hb])
    have hargs : (x.args.map a.eval).toList = x.args.toList.map a.eval := by simp
    rw [ho] at hf
    simp only [cOp, hb] at hf
    cases y with
    | func g =>
      simp only [Option.bind_eq_bind, Option.bind_eq_some_iff, Option.pure_def, Option.some.injEq] at hf
      rw [Option.map_eq_some_iff] at hf
      obtain ⟨gs, hgs, rfl⟩ := hf
      obtain ⟨l, h1, h2⟩ := evL_inv (cL_ok hgs hop) hh
      have hc := hcl.fn hs h1 hgm h2
      refine CallR.wpIn hd ?_ hc hn
      rw [call_value ho hb (fn := .func g) (first := #[]) (captured := #[]) rfl]
      simp only [invoke]
      have e1 : #[] ++ Array.map a.eval x.args ++ #[] = (List.map a.eval x.args.toList).toArray := Array.ext' (by simp)
      rw [e1]
    | tmp t =>
      simp only [Option.bind_eq_bind, Option.bind_eq_some_iff, Option.pure_def, Option.some.injEq] at hf
      obtain ⟨g, hg, gs, hgs, rfl⟩ := hf
      obtain ⟨v, h1, h2⟩ := hoy g hg _ hh
      obtain ⟨l, h3, h4⟩ := evL_inv (cL_ok hgs hop) h2
      rcases vFunc_inv h4 with ⟨fn, first, captured, rfl, h5⟩ | h5
      case inr => exact ffa h5
      generalize hv : a.eval (.tmp t) = v' at h1
      cases h1 with
      | func q1 q2 =>
        rename_i g a' b'
        have hc := hcl.fn hs (VRL.append q1 (VRL.append h3 q2)) hgm h5
        refine CallR.wpIn hd ?_ hc hn
        rw [call_value ho hb hv]
        simp only [invoke]
        have e1 : a' ++ Array.map a.eval x.args ++ b' = (a'.toList ++ (List.map a.eval x.args.toList ++ b'.toList)).toArray := Array.ext' (by simp)
        rw [e1]
      | yield hm =>
        rename_i l p
        have hc := hcl.yield hs h3 hgm hm h5
        refine YieldR.wpIn hd ?_ hc hn
        rw [call_value ho hb hv]
        simp only [invoke]
        have e1 : #[] ++ Array.map a.eval x.args = (List.map a.eval x.args.toList).toArray := Array.ext' (by simp)
        rw [e1]
    | const v => simp at hf
    | global g => simp at hf
  · refine OkR.wpIn hd ((op_ok hC hf ?_).run hs (Act.eval_const a) hx hh) hn
    intro x ho
    cases hb : x.callee with
    | builtin bi => exact ⟨bi, rfl⟩
    | value y => exact absurd ⟨x, y, ho, hb⟩ hcall
    | invoke r nm => rw [ho] at hf; simp [cOp, hb] at hf
end Go.Ab
end
section
namespace Go.Ab
variable {X : Cx} {m m' : M} {h h' : Hp} {w w' : World}
variable {e : E} {b : Bd} {c : Ct} {ds : Ds} {n : Nat}
theorem GV.mono {m m' : M} (hm : m.le m') {g : G} {v' : Value} (h : GV m e b g v') : GV m' e b g v' := fun k hk => let ⟨v, a, c⟩ := h k hk; ⟨v, a.mono hm, c⟩
/-- what has been computed, and the places -/
structure RegR (m : M) (e : E) (b : Bd) (c : Ct) (ds : Ds) (n : Nat) (tmps : Array Value) : Prop where
  lt : ∀ x ∈ ds, ∀ l, x.2 = .lv l → l < n
  val : ∀ t al, cT c ds t = some al → GV m e b (alG n al) (tmps.getD t undef)
  size : tmps.size = c.nt
  env : ∀ t s, slot c.esc t = some s → findD t ds = none → ∀ v, e.get s = some v → VR m v (tmps.getD t undef)
theorem RegR.mono {m m' : M} (hm : m.le m') {tmps : Array Value} (h : RegR m e b c ds n tmps) : RegR m' e b c ds n tmps := ⟨h.lt, fun t al ha => (h.val t al ha).mono hm, h.size, fun t s h1 h2 v hv => (h.env t s h1 h2 v hv).mono hm⟩
theorem gS_get (s : Nat) (e : E) (b : Bd) (k : K1) (hh : gSl s e b k = true) : ∃ v, e.get s = some v ∧ k v = true := by
  match s with
  | 0 => exact ⟨_, rfl, hh⟩
  | 1 => exact ⟨_, rfl, hh⟩
  | 2 => exact ⟨_, rfl, hh⟩
  | 3 => exact ⟨_, rfl, hh⟩
  | 4 => exact ⟨_, rfl, hh⟩
  | 5 => exact ⟨_, rfl, hh⟩
  | 6 => exact ⟨_, rfl, hh⟩
  | 7 => exact ⟨_, rfl, hh⟩
  | n + 8 => exact get_inv hh
theorem findD_mem : ∀ {ds : Ds} {t : Nat} {al : Al}, findD t ds = some al → (some t, al) ∈ ds
  | [], t, al, h => by cases h
  | (some u, a) :: l, t, al, h => by
    unfold findD at h
    split at h
    · rename_i hu; injection h with h; subst hu; subst h; simp
    · exact List.mem_cons_of_mem _ (findD_mem h)
  | (none, a) :: l, t, al, h => List.mem_cons_of_mem _ (findD_mem (ds := l) h)
theorem RegR.start {tmps : Array Value} (he : EnvR m c.esc e tmps) (hs : tmps.size = c.nt) : RegR m e .nil c [] 0 tmps := by
  refine ⟨by simp, fun t al ha => ?_, hs, fun t s h1 _ v hv => he t s h1 v hv⟩
  unfold cT at ha
  simp only [findD] at ha
  rw [Option.map_eq_some_iff] at ha
  obtain ⟨s, h1, rfl⟩ := ha
  intro k hk
  obtain ⟨v, h2, h3⟩ := gS_get s e .nil k hk
  exact ⟨v, he t s h1 v h2, h3⟩
theorem gLoc_cons (i : Nat) (v : Value) (e : E) (b : Bd) (k : K1) : gLoc (i + 1) e (.cons v b) k = gLoc i e b k := by
  match i with
  | 0 => rfl
  | 1 => cases b <;> rfl
  | i + 2 => rfl
theorem gLoc0 (v : Value) (e : E) (b : Bd) (k : K1) : gLoc 0 e (.cons v b) k = k v := rfl
/-- an operand is had as before -/
theorem alG_cons {al : Al} (hl : ∀ l, al = .lv l → l < n) (v : Value) (k : K1) : alG (n + 1) al e (.cons v b) k = alG n al e b k := by
  cases al with
  | lv l =>
    have := hl l rfl
    show gLoc (n + 1 - 1 - l) e (.cons v b) k = gLoc (n - 1 - l) e b k
    rw [show n + 1 - 1 - l = (n - 1 - l) + 1 by omega, gLoc_cons]
  | sl s => 
    show gSl s e (.cons v b) k = gSl s e b k
    match s with
    | 0 | 1 | 2 | 3 | 4 | 5 | 6 | 7 => rfl
    | _ + 8 => rfl
  | cv v => rfl
theorem cT_lt {t : Nat} {al : Al} (hl : ∀ x ∈ ds, ∀ l, x.2 = .lv l → l < n) (ha : cT c ds t = some al) : ∀ l, al = .lv l → l < n := by
  unfold cT at ha
  split at ha
  · rename_i a hf
    injection ha with ha; subst ha
    exact hl _ (findD_mem hf)
  · rw [Option.map_eq_some_iff] at ha
    obtain ⟨s, _, rfl⟩ := ha
    intro l hl; cases hl
theorem cA_lt {x : Operand} {al : Al} (hl : ∀ x ∈ ds, ∀ l, x.2 = .lv l → l < n) (ha : cA c ds x = some al) : ∀ l, al = .lv l → l < n := by
  cases x with
  | tmp t => exact cT_lt hl ha
  | const v => simp only [cA] at ha; split at ha <;> first | (injection ha with ha; subst ha; intro l h; cases h) | cases ha
  | global g => simp only [cA] at ha; split at ha <;> first | (injection ha with ha; subst ha; intro l h; cases h) | cases ha
  | func f => simp only [cA] at ha; injection ha with ha; subst ha; intro l h; cases h
theorem cT_cons {dst : Option Nat} {a : Al} {t : Nat} : cT c ((dst, a) :: ds) t = if dst = some t then some a else cT c ds t := by
  cases dst with
  | none => simp [cT, findD]
  | some u =>
    by_cases h : u = t
    · simp [cT, findD, h]
    · simp [cT, findD, h]
theorem getD_set (tmps : Array Value) (d t : Nat) (v : Value) (hd : d < tmps.size) : (tmps.setIfInBounds d v).getD t undef = if d = t then v else tmps.getD t undef := by
  simp only [Array.getD_eq_getD_getElem?, Array.getElem?_setIfInBounds]
  by_cases h : d = t
  · subst h; simp [hd]
  · simp [h]
theorem Act.put_tmps (a : Act) (d : Option Nat) (v : Value) : (a.put d v).tmps = (match d with | some d => a.tmps.setIfInBounds d v | none => a.tmps) := by cases d <;> rfl
theorem put_getD (a : Act) (d : Option Nat) (v : Value) (t : Nat) (hd : ∀ u, d = some u → u < a.tmps.size) : (a.put d v).tmps.getD t undef = if d = some t then v else a.tmps.getD t undef := by
  cases d with
  | none => simp [Act.put]
  | some u =>
    show (a.tmps.setIfInBounds u v).getD t undef = _
    rw [getD_set _ _ _ _ (hd u rfl)]
    simp
theorem put_size (a : Act) (d : Option Nat) (v : Value) : (a.put d v).tmps.size = a.tmps.size := by cases d <;> simp [Act.put]
theorem put_defers (a : Act) (d : Option Nat) (v : Value) : (a.put d v).defers = a.defers := by cases d <;> rfl
theorem dst_lt {o : Oper} {a : Act} (hd : dstOk c o = true) (hs : a.tmps.size = c.nt) : ∀ u, o.dst = some u → u < a.tmps.size := by
  intro u hu
  unfold dstOk at hd
  rw [hu] at hd
  rw [hs]; simpa using hd
theorem findD_cons {dst : Option Nat} {a : Al} {t : Nat} : findD t ((dst, a) :: ds) = if dst = some t then some a else findD t ds := by
  cases dst with
  | none => rfl
  | some u => simp [findD]
theorem env_put {a : Act} {dst : Option Nat} {al : Al} {v' : Value} (hr : RegR m e b c ds n a.tmps) (hd : ∀ u, dst = some u → u < a.tmps.size) :
    ∀ t s, slot c.esc t = some s → findD t ((dst, al) :: ds) = none → ∀ v, e.get s = some v → VR m v ((a.put dst v').tmps.getD t undef) := by
  intro t s h1 h2 v hv
  rw [findD_cons] at h2
  split at h2
  · cases h2
  · rename_i hne
    rw [put_getD _ _ _ _ hd, if_neg hne]
    exact hr.env t s h1 h2 v hv
/-- an operation's value is put in its place -/
theorem RegR.step {a : Act} {o : Oper} {v v' : Value} (hr : RegR m e b c ds n a.tmps) (hd : dstOk c o = true) (hv : VR m v v') : RegR m e (.cons v b) c ((o.dst, .lv n) :: ds) (n + 1) (a.put o.dst v').tmps := by
  refine ⟨?_, fun t al ha => ?_, by rw [put_size]; exact hr.size, env_put hr (dst_lt hd hr.size)⟩
  · intro x hx l hl
    simp only [List.mem_cons] at hx
    rcases hx with rfl | hx
    · injection hl with hl; omega
    · have := hr.lt x hx l hl; omega
  · rw [put_getD _ _ _ _ (dst_lt hd hr.size)]
    rw [cT_cons] at ha
    intro k hk
    split at ha
    · injection ha with ha; subst ha
      rename_i hdt
      rw [if_pos hdt]
      have : gLoc (n + 1 - 1 - n) e (.cons v b) k = true := hk
      rw [show n + 1 - 1 - n = 0 by omega, gLoc0] at this
      exact ⟨v, hv, this⟩
    · rename_i hdt
      rw [if_neg hdt]
      rw [alG_cons (cT_lt hr.lt ha)] at hk
      exact hr.val t al ha k hk
/-- a copy -/
theorem RegR.copy {a : Act} {o : Oper} {al : Al} {v' : Value} (hr : RegR m e b c ds n a.tmps) (hd : dstOk c o = true) (hl : ∀ l, al = .lv l → l < n) (hv : GV m e b (alG n al) v') : RegR m e b c ((o.dst, al) :: ds) n (a.put o.dst v').tmps := by
  refine ⟨?_, fun t al' ha => ?_, by rw [put_size]; exact hr.size, env_put hr (dst_lt hd hr.size)⟩
  · intro x hx l hxl
    simp only [List.mem_cons] at hx
    rcases hx with rfl | hx
    · exact hl l hxl
    · exact hr.lt x hx l hxl
  · rw [put_getD _ _ _ _ (dst_lt hd hr.size)]
    rw [cT_cons] at ha
    split at ha
    · injection ha with ha; subst ha
      rename_i hdt
      rw [if_pos hdt]; exact hv
    · rename_i hdt
      rw [if_neg hdt]; exact hr.val t al' ha
theorem RegR.opV {a : Act} (hr : RegR m e b c ds n a.tmps) (hg : GM m c.ng) (x : Operand) : OpV m e b c ds n a.eval x := by
  intro g hgx
  unfold cG at hgx
  rw [Option.map_eq_some_iff] at hgx
  obtain ⟨al, h1, rfl⟩ := hgx
  cases x with
  | tmp t => exact hr.val t al h1
  | const v =>
    simp only [cA] at h1
    split at h1
    · rename_i hp
      injection h1 with h1; subst h1
      intro k hk
      exact ⟨v, VR.plainV hp, hk⟩
    · cases h1
  | global q =>
    simp only [cA] at h1
    split at h1
    · rename_i hp
      injection h1 with h1; subst h1
      obtain ⟨p, h2, h3, h4⟩ := hg q hp
      intro k hk
      refine ⟨_, .ptr (a' := ⟨q, 0, none⟩) ⟨rfl, p, h2, by rw [h3, h4]; simp⟩, hk⟩
    · cases h1
  | func q =>
    simp only [cA] at h1
    injection h1 with h1; subst h1
    intro k hk
    exact ⟨_, .func .nil .nil, hk⟩
/-! ### guards -/
theorem wanted_bool {ops : Array Oper} {o : Oper} {a : Act} {j : Nat} {want : Bool} {p : Oper} {d : Nat} (hg : o.guard = some (j, want)) (hj : ops[j]? = some p) (hd : p.dst = some d) :
    (∀ t, a.tmps.getD d undef = .bool t → Region.wanted o (yielded ops a.tmps) = (t == want)) ∧ ((∀ t, a.tmps.getD d undef ≠ .bool t) → Region.wanted o (yielded ops a.tmps) = false) := by
  have hy : yielded ops a.tmps j = match a.tmps[d]? with | some (.bool b) => some b | _ => none := by
    simp [yielded, hj, hd]
    split <;> simp_all
  unfold Region.wanted
  simp only [hg, hy]
  rw [Array.getD_eq_getD_getElem?]
  cases hq : a.tmps[d]? with
  | none =>
    refine ⟨fun t ht => ?_, fun _ => rfl⟩
    simp [undef] at ht
  | some v =>
    simp only [Option.getD_some]
    refine ⟨fun t ht => ?_, fun hn => ?_⟩
    · subst ht; cases t <;> cases want <;> rfl
    · cases v <;> first | rfl | exact absurd rfl (hn _)
theorem want_rec (want t : Bool) : (Bool.rec (bnot want) want t : Bool) = (t == want) := by cases want <;> cases t <;> rfl
theorem guard_inv {ops : Array Oper} {o : Oper} {a : Act} {cl : Cl} {F : F} {k : KV} (hall : c.all = ops) (hr : RegR m e b c ds n a.tmps)
    (hh : (@Option.rec Ab.F (fun _ => Ab.F) oFail (fun f => f) (cGuard c ds n o F)) cl e b h k = true) :
    (Region.wanted o (yielded ops a.tmps) = true ∧ F cl e b h k = true) ∨ (Region.wanted o (yielded ops a.tmps) = false ∧ k top h = true) := by
  cases hgd : o.guard with
  | none =>
    have : cGuard c ds n o F = some F := by unfold cGuard; rw [hgd]
    rw [this] at hh
    exact .inl ⟨by simp [Region.wanted, hgd], hh⟩
  | some jw =>
    obtain ⟨j, want⟩ := jw
    have hcg : cGuard c ds n o F = (guardG c ds n j).map fun x => oGuard x want F := by unfold cGuard; rw [hgd]
    rw [hcg] at hh
    cases hg : guardG c ds n j with
    | none => rw [hg] at hh; exact ffa hh
    | some x =>
      rw [hg] at hh
      unfold guardG at hg
      split at hg
      · rename_i p hp
        split at hg
        · rename_i d hd
          rw [Option.map_eq_some_iff] at hg
          obtain ⟨al, h1, rfl⟩ := hg
          have hv := hr.val d al h1
          have hh : alG n al e b (fun v => vBool v (fun t => Bool.rec (k top h) (F cl e b h k) (Bool.rec (bnot want) want t)) (k top h)) = true := hh
          obtain ⟨v, h2, h3⟩ := hv _ hh
          rw [hall] at hp
          obtain ⟨w1, w2⟩ := wanted_bool (a := a) hgd hp hd
          by_cases hb : ∃ t, v = .bool t
          · obtain ⟨t, rfl⟩ := hb
            have h3 : (Bool.rec (k top h) (F cl e b h k) (Bool.rec (bnot want) want t) : Bool) = true := h3
            rw [want_rec] at h3
            generalize hq : a.tmps.getD d undef = v' at h2
            cases h2
            rw [w1 t hq]
            rcases rec_inv h3 with ⟨h4, h5⟩ | ⟨h4, h5⟩
            · exact .inr ⟨h4, h5⟩
            · exact .inl ⟨h4, h5⟩
          · have hnb : ∀ t, v ≠ .bool t := fun t ht => hb ⟨t, ht⟩
            refine .inr ⟨w2 (h2.notBool hnb), ?_⟩
            rcases vBool_inv h3 with ⟨t, ht, _⟩ | h4
            · exact absurd ht (hnb t)
            · exact h4
        · cases hg
      · cases hg
theorem topU : VR m Ab.top undef := VR.top _ (by intro b hb; cases hb)
/-- an operation of a region, its guard looked at -/
theorem oper_in (hC : Cok X.P c) {cl : Cl} (hcl : SoundCl X c.ng cl) {ops : Array Oper} {o : Oper} {i : Nat} (hi : ops[i]? = some o) (hall : c.all = ops) (hs : Sim X m h w) {a : Act} (hr : RegR m e b c ds n a.tmps) (hgm : GM m c.ng) {k : KV}
    (hh : cOper c o ds n cl e b h k = true) {r : Option Nat} {K : Act → World → Prop} {Q : Exit → Act → World → Prop} (hn : ∀ v' w', Done X m h w k v' w' → K (a.put o.dst v') w') : wpOpIn (wideAt r) 0 X.P ops Q i K a w := by
  unfold wpOpIn
  simp only [hi]
  rcases guard_inv hall hr hh with ⟨h1, h2⟩ | ⟨h1, h2⟩
  · rw [if_pos h1]
    cases hf : cOp c o.dst ds n o.type o.op with
    | none => rw [hf] at h2; exact ffa h2
    | some f =>
      rw [hf] at h2
      exact op_in hC hgm hcl hf hs (fun x _ => hr.opV hgm x) h2 hn
  · rw [if_neg (by rw [h1]; simp)]
    exact ⟨fun _ _ => trivial, hn undef w (Done.of hs topU h2)⟩
end Go.Ab
end
section
namespace Go.Ab
variable {X : Cx} {m m' : M} {h h' : Hp} {w w' : World}
variable {e : E} {b : Bd} {c : Ct} {ds : Ds} {n : Nat}
/-! ### what a region hands on -/
noncomputable def E.set (e : E) (s : Nat) (v : Value) : E := match s with
  | 0 => ⟨v, e.r1, e.r2, e.r3, e.r4, e.r5, e.r6, e.r7, e.t⟩
  | 1 => ⟨e.r0, v, e.r2, e.r3, e.r4, e.r5, e.r6, e.r7, e.t⟩
  | 2 => ⟨e.r0, e.r1, v, e.r3, e.r4, e.r5, e.r6, e.r7, e.t⟩
  | 3 => ⟨e.r0, e.r1, e.r2, v, e.r4, e.r5, e.r6, e.r7, e.t⟩
  | 4 => ⟨e.r0, e.r1, e.r2, e.r3, v, e.r5, e.r6, e.r7, e.t⟩
  | 5 => ⟨e.r0, e.r1, e.r2, e.r3, e.r4, v, e.r6, e.r7, e.t⟩
  | 6 => ⟨e.r0, e.r1, e.r2, e.r3, e.r4, e.r5, v, e.r7, e.t⟩
  | 7 => ⟨e.r0, e.r1, e.r2, e.r3, e.r4, e.r5, e.r6, v, e.t⟩
  | n + 8 => ⟨e.r0, e.r1, e.r2, e.r3, e.r4, e.r5, e.r6, e.r7, e.t.set n (some v)⟩
theorem pS_put {s : Nat} {v : Value} {e : E} {k : E → Bool} (hh : pSl s v e k = true) : k (e.set s v) = true := by
  match s with
  | 0 => exact hh
  | 1 => exact hh
  | 2 => exact hh
  | 3 => exact hh
  | 4 => exact hh
  | 5 => exact hh
  | 6 => exact hh
  | 7 => exact hh
  | n + 8 => exact put_inv (k := fun t => k ⟨e.r0, e.r1, e.r2, e.r3, e.r4, e.r5, e.r6, e.r7, t⟩) hh
theorem E.get_tail (e : E) (n : Nat) : e.get (n + 8) = e.t.at n := rfl
theorem E.get_set (e : E) (s : Nat) (v : Value) (s' : Nat) : (e.set s v).get s' = if s' = s then some v else e.get s' := by
  by_cases hs : s' = s
  · subst hs
    rw [if_pos rfl]
    match s' with
    | 0 | 1 | 2 | 3 | 4 | 5 | 6 | 7 => rfl
    | n + 8 => rw [E.get_tail]; show (e.t.set n (some v)).at n = _; rw [Tr.at_set]; simp
  · rw [if_neg hs]
    match s, s' with
    | 0, 1 | 0, 2 | 0, 3 | 0, 4 | 0, 5 | 0, 6 | 0, 7 => rfl
    | 1, 0 | 1, 2 | 1, 3 | 1, 4 | 1, 5 | 1, 6 | 1, 7 => rfl
    | 2, 0 | 2, 1 | 2, 3 | 2, 4 | 2, 5 | 2, 6 | 2, 7 => rfl
    | 3, 0 | 3, 1 | 3, 2 | 3, 4 | 3, 5 | 3, 6 | 3, 7 => rfl
    | 4, 0 | 4, 1 | 4, 2 | 4, 3 | 4, 5 | 4, 6 | 4, 7 => rfl
    | 5, 0 | 5, 1 | 5, 2 | 5, 3 | 5, 4 | 5, 6 | 5, 7 => rfl
    | 6, 0 | 6, 1 | 6, 2 | 6, 3 | 6, 4 | 6, 5 | 6, 7 => rfl
    | 7, 0 | 7, 1 | 7, 2 | 7, 3 | 7, 4 | 7, 5 | 7, 6 => rfl
    | 0, 0 | 1, 1 | 2, 2 | 3, 3 | 4, 4 | 5, 5 | 6, 6 | 7, 7 => exact absurd rfl hs
    | 0, _ + 8 | 1, _ + 8 | 2, _ + 8 | 3, _ + 8 | 4, _ + 8 | 5, _ + 8 | 6, _ + 8 | 7, _ + 8 => rfl
    | _ + 8, 0 | _ + 8, 1 | _ + 8, 2 | _ + 8, 3 | _ + 8, 4 | _ + 8, 5 | _ + 8, 6 | _ + 8, 7 => rfl
    | n + 8, n' + 8 =>
      rw [E.get_tail, E.get_tail]
      show (e.t.set n (some v)).at n' = _
      rw [Tr.at_set, if_neg (by omega)]
theorem slot_at {esc : List Nat} {t s : Nat} (h : slot esc t = some s) : esc[s]? = some t := by
  unfold slot at h
  rw [List.findIdx?_eq_some_iff_getElem] at h
  obtain ⟨h1, h2, _⟩ := h
  rw [List.getElem?_eq_getElem h1]
  simpa using h2
theorem slot_inj {esc : List Nat} {t t' s : Nat} (h : slot esc t = some s) (h' : slot esc t' = some s) : t = t' := by
  have := slot_at h; rw [slot_at h'] at this; injection this with this; exact this.symm
theorem flush_inv {esc : List Nat} {e0 : E} {T : Nat → Value} {k : E → Bool} : ∀ {ds : Ds} {seen : List Nat} {e : E},
    (∀ t s al, slot esc t = some s → t ∉ seen → findD t ds = some al → GV m e0 b (alG n al) (T t)) →
    (∀ t s, slot esc t = some s → (t ∈ seen ∨ findD t ds = none) → ∀ v, e.get s = some v → VR m v (T t)) →
    flush b k e0 (cFl esc n ds seen) e = true → ∃ e', k e' = true ∧ ∀ t s, slot esc t = some s → ∀ v, e'.get s = some v → VR m v (T t)
  | [], seen, e, hV, hB, hh => ⟨e, hh, fun t s hs v hv => hB t s hs (.inr rfl) v hv⟩
  | (none, a) :: l, seen, e, hV, hB, hh => flush_inv (ds := l) (fun t s al h1 h2 h3 => hV t s al h1 h2 h3) (fun t s h1 h2 => hB t s h1 h2) hh
  | (some t, a) :: l, seen, e, hV, hB, hh => by
    unfold cFl at hh
    have fd : ∀ t', t' ≠ t → findD t' ((some t, a) :: l) = findD t' l := fun t' h => by rw [findD_cons]; simp [Ne.symm h]
    split at hh
    · rename_i s hs
      split at hh
      · rename_i hc
        have hc : t ∈ seen := by simpa using hc
        refine flush_inv (ds := l) (fun t' s' al h1 h2 h3 => hV t' s' al h1 h2 ?_) (fun t' s' h1 h2 => hB t' s' h1 ?_) hh
        · rw [fd t' (fun e => h2 (e ▸ hc))]; exact h3
        · by_cases ht : t' = t
          · exact .inl (ht ▸ hc)
          · rw [fd t' ht]; exact h2
      · rename_i hc
        have hc : t ∉ seen := by simpa using hc
        have hh : alG n a e0 b (fun v => pSl s v e (flush b k e0 (cFl esc n l (t :: seen)))) = true := hh
        obtain ⟨v, h1, h2⟩ := hV t s a hs hc (by rw [findD_cons]; simp) _ hh
        have h3 := pS_put h2
        refine flush_inv (ds := l) (fun t' s' al g1 g2 g3 => hV t' s' al g1 (fun h => g2 (by simp [h])) ?_) (fun t' s' g1 g2 u hu => ?_) h3
        · rw [fd t' (fun e => g2 (by simp [e]))]; exact g3
        · rw [E.get_set] at hu
          by_cases ht : t' = t
          · subst ht
            rw [hs] at g1; injection g1 with g1; subst g1
            rw [if_pos rfl] at hu
            injection hu with hu; subst hu; exact h1
          · rw [if_neg (fun he => ht (slot_inj g1 (by rw [he]; exact hs)))] at hu
            refine hB t' s' g1 ?_ u hu
            rcases g2 with g2 | g2
            · simp only [List.mem_cons] at g2
              exact .inl (g2.resolve_left ht)
            · exact .inr (by rw [fd t' ht]; exact g2)
    · rename_i hs
      have ne : ∀ {t' s'}, slot esc t' = some s' → t' ≠ t := fun h e => by subst e; rw [hs] at h; cases h
      exact flush_inv (ds := l) (fun t' s' al h1 h2 h3 => hV t' s' al h1 h2 (by rw [fd t' (ne h1)]; exact h3)) (fun t' s' h1 h2 => hB t' s' h1 (by rw [fd t' (ne h1)]; exact h2)) hh
/-- at a region's end -/
theorem RegR.flush {a : Act} (hr : RegR m e b c ds n a.tmps) {k : E → Bool} (hh : Ab.flush b k e (cFl c.esc n ds []) e = true) : ∃ e', k e' = true ∧ EnvR m c.esc e' a.tmps := by
  obtain ⟨e', h1, h2⟩ := flush_inv (T := fun t => a.tmps.getD t undef) (m := m) (fun t s al h1 h2 h3 => hr.val t al (by unfold cT; rw [h3])) (fun t s h1 h2 v hv => by
    rcases h2 with h2 | h2
    · simp at h2
    · exact hr.env t s h1 h2 v hv) hh
  exact ⟨e', h1, h2⟩
end Go.Ab
end
section
namespace Go.Ab
variable {X : Cx} {m m' : M} {h h' : Hp} {w w' : World}
variable {e : E} {b : Bd} {c : Ct} {ds : Ds} {n : Nat}
/-- what is asked at a region's end -/
def PostN (X : Cx) (c : Ct) (m : M) (h : Hp) (w : World) (a : Act) (k : KE) (R : Act → World → Prop) : Prop :=
  ∀ (e' : E) (h' : Hp) (m' : M) (a' : Act) (w' : World), Sim X m' h' w' → Tn m h w m' h' w' → EnvR m' c.esc e' a'.tmps → a'.tmps.size = c.nt → a'.defers = a.defers → k e' h' = true → R a' w'
theorem PostN.after {a a' : Act} {k : KE} {R : Act → World → Prop} (ht : Tn m h w m' h' w') (hd : a'.defers = a.defers) (hp : PostN X c m h w a k R) : PostN X c m' h' w' a' k R :=
  fun e2 h2 m2 a2 w2 s t v z d q => hp e2 h2 m2 a2 w2 s (ht.trans t) v z (d.trans hd) q
theorem moved_inv {o : Oper} {x : Operand} (h : moved o = some x) : o.guard = none ∧ (o.op = .move x ∨ o.op = .assign x) := by
  unfold moved at h
  split at h
  · rename_i y h1 h2; injection h with h; subst h; exact ⟨h1, .inl h2⟩
  · rename_i y h1 h2; injection h with h; subst h; exact ⟨h1, .inr h2⟩
  · cases h
theorem move_in {ops : Array Oper} {o : Oper} {i : Nat} (hi : ops[i]? = some o) {x : Operand} (hm : moved o = some x) {r : Option Nat} {P : Program} {K : Act → World → Prop} {Q : Exit → Act → World → Prop} {a : Act} {w : World}
    (hn : K (a.put o.dst (a.eval x)) w) : wpOpIn (wideAt r) 0 P ops Q i K a w := by
  obtain ⟨h1, h2⟩ := moved_inv hm
  unfold wpOpIn
  simp only [hi]
  rw [if_pos (by simp [Region.wanted, h1])]
  refine ⟨fun _ _ => trivial, ?_⟩
  rw [Oper.semAt_eq _ _ _ (by rcases h2 with h2 | h2 <;> rw [h2] <;> intro c hc <;> cases hc)]
  have : (execOp a.eval o).run P w = .ok (.value (a.eval x)) w := by rcases h2 with h2 | h2 <;> simp [execOp, h2]
  rw [this]
  exact hn
theorem ops_in (hC : Cok X.P c) {cl : Cl} (hcl : SoundCl X c.ng cl) {ops : Array Oper} (hall : c.all = ops) {r : Option Nat} {Q : Exit → Act → World → Prop} {k : KE} : ∀ (l : List Oper) (i : Nat) (ds : Ds) (n : Nat) (il : IL) (b : Bd) (m : M) (h : Hp) (w : World) (a : Act),
    ops.toList.drop i = l → cOps c l ds n = some il → Sim X m h w → RegR m e b c ds n a.tmps → GM m c.ng → run il cl e b h k = true → PostN X c m h w a k (Q .normal) → wpOpsIn (wideAt r) 0 X.P ops Q (List.range' i l.length) a w
  | [], i, ds, n, il, b, m, h, w, a, hd, hc, hs, hr, hg, hh, hp => by
    injection hc with hc; subst hc
    have hh : Ab.flush b (fun e' => k e' h) e (cFl c.esc n ds []) e = true := hh
    obtain ⟨e', h1, h2⟩ := hr.flush hh
    exact hp e' h m a w hs (Tn.refl _ _ _) h2 hr.size rfl h1
  | o :: l, i, ds, n, il, b, m, h, w, a, hd, hc, hs, hr, hg, hh, hp => by
    have hi : ops[i]? = some o := by
      have : (ops.toList.drop i)[0]? = some o := by rw [hd]; rfl
      simpa using this
    have hd' : ops.toList.drop (i + 1) = l := by
      have : (ops.toList.drop i).drop 1 = l := by rw [hd]; rfl
      rw [List.drop_drop] at this; exact this
    rw [List.length_cons, List.range'_succ, wpOpsIn_cons]
    simp only [cOps] at hc
    split at hc
    case isFalse => cases hc
    rename_i hdst
    split at hc
    · rename_i x hx
      simp only [Option.bind_eq_bind, Option.bind_eq_some_iff] at hc
      obtain ⟨al, h1, h2⟩ := hc
      refine move_in hi hx ?_
      have hgv := hr.opV (a := a) hg x (alG n al) (by unfold cG; rw [h1]; rfl)
      exact ops_in hC hcl hall l (i + 1) _ n il b m h w _ hd' h2 hs (hr.copy hdst (cA_lt hr.lt h1) hgv) hg hh (hp.after (Tn.refl _ _ _) (put_defers _ _ _))
    · simp only [Option.bind_eq_bind, Option.bind_eq_some_iff, Option.pure_def, Option.some.injEq] at hc
      obtain ⟨il', h1, rfl⟩ := hc
      have hh : cOper c o ds n cl e b h (fun v h' => run il' cl e (.cons v b) h' k) = true := hh
      refine oper_in hC hcl hi hall hs hr hg hh ?_
      intro v' w' hdone
      obtain ⟨m', h', v, d1, d2, d3, d4⟩ := hdone
      exact ops_in hC hcl hall l (i + 1) _ (n + 1) il' (.cons v b) m' h' w' _ hd' h1 d2 ((hr.mono d3.sub).step hdst d1) (hg.mono d3.sub) d4 (hp.after d3 (put_defers _ _ _))
theorem region_in (hC : Cok X.P c) {cl : Cl} (hcl : SoundCl X c.ng cl) {ops : Array Oper} {id : Nat} {r : Option Nat} {Q : Exit → Act → World → Prop} {k : KE} {il : IL} {a : Act} (hc : cOps { c with all := ops } ops.toList [] 0 = some il)
    (hs : Sim X m h w) (he : EnvR m c.esc e a.tmps) (hz : a.tmps.size = c.nt) (hg : GM m c.ng) (hh : run il cl e .nil h k = true) (hp : PostN X c m h w a k (Q .normal)) : (Code.region id ops false).wpIn (wideAt r) 0 X.P Q a w := by
  refine wpIn_region ?_
  have hC' : Cok X.P { c with all := ops } := ⟨hC.ty, hC.lies, hC.flat⟩
  have := ops_in (c := { c with all := ops }) (e := e) hC' hcl (ops := ops) rfl (r := r) (Q := Q) (k := k) ops.toList 0 [] 0 il .nil m h w a (by simp) hc hs (RegR.start (c := { c with all := ops }) he hz) hg hh hp
  rw [List.range_eq_range']
  simpa using this
end Go.Ab
end
section
namespace Go.Ab
/-! ### what is had, is had whatever is asked of it -/
def Par {α : Type} (f : (α → Bool) → Bool) : Prop := ∃ o : Option α, ∀ k, f k = o.elim false k
theorem par_val {α : Type} (v : α) : Par (fun k => k v) := ⟨some v, fun _ => rfl⟩
theorem par_f {α : Type} : Par (fun (_ : α → Bool) => false) := ⟨none, fun _ => rfl⟩
theorem par_bind {α β : Type} {f : (α → Bool) → Bool} {g : α → (β → Bool) → Bool} (hf : Par f) (hg : ∀ a, Par (g a)) : Par (fun k => f (fun a => g a k)) := by
  obtain ⟨o, ho⟩ := hf
  cases o with
  | none => exact ⟨none, fun k => ho _⟩
  | some a =>
    obtain ⟨o, ho2⟩ := hg a
    exact ⟨o, fun k => by show f _ = _; rw [ho]; exact ho2 k⟩
theorem par_rec {α : Type} {f g : (α → Bool) → Bool} (c : Bool) (hf : Par f) (hg : Par g) : Par (fun k => Bool.rec (f k) (g k) c) := by cases c <;> assumption
theorem Tr.get_eq {α : Type} : ∀ (p : Pth) (t : Tr α) (k : α → Bool), Tr.get p t k = (t.look p).elim false k
  | .e, t, k => by cases t with | mk l v r => cases v <;> rfl
  | .o p, t, k => by
    cases t with | mk l v r =>
    cases l with
    | none => rfl
    | some l => exact Tr.get_eq p l k
  | .i p, t, k => by
    cases t with | mk l v r =>
    cases r with
    | none => rfl
    | some r => exact Tr.get_eq p r k
def nthBd : Nat → Bd → Option Value
  | _, .nil => none
  | 0, .cons v _ => some v
  | i + 1, .cons _ b => nthBd i b
theorem nthK_eq (k : K1) : ∀ (i : Nat) (b : Bd), nthK k i b = (nthBd i b).elim false k
  | 0, .nil => rfl
  | 0, .cons v b => rfl
  | i + 1, .nil => rfl
  | i + 1, .cons v b => nthK_eq k i b
theorem gLoc_eq (i : Nat) (e : E) (b : Bd) (k : K1) : gLoc i e b k = (nthBd i b).elim false k := by
  match i with
  | 0 => cases b <;> rfl
  | 1 =>
    cases b with
    | nil => rfl
    | cons v b => cases b <;> rfl
  | i + 2 => exact nthK_eq k (i + 2) b
theorem gS_eq (s : Nat) (e : E) (b : Bd) (k : K1) : gSl s e b k = (e.get s).elim false k := by
  match s with
  | 0 | 1 | 2 | 3 | 4 | 5 | 6 | 7 => rfl
  | n + 8 => show Tr.get (pth n) e.t k = _; rw [Tr.get_eq, E.get_tail, Tr.at]
noncomputable def den (e : E) (b : Bd) (n : Nat) : Al → Option Value
  | .lv l => nthBd (n - 1 - l) b
  | .sl s => e.get s
  | .cv v => some v
theorem alG_den (e : E) (b : Bd) (n : Nat) (al : Al) (k : K1) : alG n al e b k = (den e b n al).elim false k := by
  cases al with
  | lv l => exact gLoc_eq _ _ _ _
  | sl s => exact gS_eq _ _ _ _
  | cv v => rfl
def PG (g : G) : Prop := ∀ e b, Par (g e b)
theorem alG_par (n : Nat) (al : Al) : PG (alG n al) := fun e b => ⟨den e b n al, fun k => alG_den e b n al k⟩
theorem cG_par {c : Ct} {ds : Ds} {n : Nat} {x : Operand} {g : G} (h : cG c ds n x = some g) : PG g := by
  unfold cG at h
  rw [Option.map_eq_some_iff] at h
  obtain ⟨al, _, rfl⟩ := h
  exact alG_par n al
/-! #### operations that hang on their operands alone -/
def PurF (F : F) : Prop := ∀ e b, ∃ o : Option Value, ∀ cl h k, F cl e b h k = o.elim false (fun v => k v h)
theorem PurF.of {F : F} (Q : E → Bd → (Value → Bool) → Bool) (hQ : ∀ e b, Par (Q e b)) (hF : ∀ cl e b h k, F cl e b h k = Q e b (fun v => k v h)) : PurF F := by
  intro e b
  obtain ⟨o, ho⟩ := hQ e b
  exact ⟨o, fun cl h k => by rw [hF, ho]⟩
variable {g g1 g2 g3 : G}
theorem pur_move (h1 : PG g) : PurF (oMove g) := PurF.of (fun e b k => g e b k) (fun e b => h1 e b) (fun _ _ _ _ _ => rfl)
theorem pur_pick (h1 : PG g1) (h2 : PG g2) (h3 : PG g3) : PurF (oPick g1 g2 g3) :=
  PurF.of (fun e b k => g1 e b (fun t => vBool t (fun t => Bool.rec (g3 e b k) (g2 e b k) t) (ff 180))) (fun e b => par_bind (h1 e b) fun v => by
    cases v with
    | bool t => exact par_rec t (h3 e b) (h2 e b)
    | _ => exact par_f) (fun _ _ _ _ _ => rfl)
theorem par_cells (v : Value) : Par (vCells v) := by
  cases v with
  | chan a => exact par_f
  | tuple a => exact par_f
  | agg a => exact par_val _
  | _ => exact par_val _
theorem lenK_eq : ∀ (l : List Value) (n : Nat) (k : Nat → Bool), lenK l n k = k (n + l.length)
  | [], n, k => rfl
  | v :: l, n, k => by
    show lenK l (n + 1) k = _
    rw [lenK_eq l (n + 1) k, List.length_cons]; congr 1; omega
theorem lenIs_eq (c n : Nat) (l : List Value) (k : Bool) : lenIs c n l k = Bool.rec false k (Nat.beq (0 + l.length) n) := by
  unfold lenIs; rw [lenK_eq]; rfl
theorem par_lenIs {α : Type} {f : (α → Bool) → Bool} (c n : Nat) (l : List Value) (hf : Par f) : Par (fun k => lenIs c n l (f k)) := by
  simp only [lenIs_eq]
  exact par_rec _ par_f hf
theorem par_parts (e : E) (b : Bd) : ∀ (ps : List (Nat × Nat × G)) (c : List Value), (∀ x ∈ ps, PG x.2.2) → Par (parts ps e b c)
  | [], c, _ => par_val c
  | x :: l, c, h => by
    show Par (fun k => x.2.2 e b (fun v => vCells v (fun vs => lenIs 147 x.2.1 vs (parts l e b (setL vs x.1 c) k))))
    exact par_bind (h x (by simp) e b) fun v => par_bind (par_cells v) fun vs => par_lenIs 147 x.2.1 vs (par_parts e b l (setL vs x.1 c) fun y hy => h y (by simp [hy]))
theorem pur_build {z : List Value} {ps : List (Nat × Nat × G)} (h : ∀ x ∈ ps, PG x.2.2) : PurF (oBuild z ps) :=
  PurF.of (fun e b k => parts ps e b z (fun c => k (.agg ⟨c⟩))) (fun e b => par_bind (par_parts e b ps z h) fun c => par_val _) (fun _ _ _ _ _ => rfl)
theorem nilC_par (v : Value) : (∀ k, nilC v k = k) ∨ (∀ k, nilC v k = false) := by
  cases v with
  | pointer a => cases a <;> first | exact .inl fun k => rfl | exact .inr fun k => rfl
  | func fn a b => cases fn <;> first | exact .inl fun k => rfl | exact .inr fun k => rfl
  | _ => first | exact .inl fun k => rfl | exact .inr fun k => rfl
theorem pur_nil (h1 : PG g) : PurF (oNil g) :=
  PurF.of (fun e b k => g e b (fun v => nilC v (k v))) (fun e b => par_bind (h1 e b) fun v => by
    rcases nilC_par v with h | h
    · simp only [h]; exact par_val v
    · simp only [h]; exact par_f) (fun _ _ _ _ _ => rfl)
/-- two operands -/
def PurB (f : BF) : Prop := ∀ x y, ∃ o : Option Value, ∀ h k, f x y h k = o.elim false (fun v => k v h)
theorem pur_bin {f : BF} (hf : PurB f) (h1 : PG g1) (h2 : PG g2) : PurF (oBin f g1 g2) := by
  intro e b
  obtain ⟨o1, e1⟩ := h1 e b
  obtain ⟨o2, e2⟩ := h2 e b
  cases o1 with
  | none => exact ⟨none, fun cl h k => e1 _⟩
  | some x =>
    cases o2 with
    | none => exact ⟨none, fun cl h k => by show g1 e b _ = _; rw [e1]; exact e2 _⟩
    | some y =>
      obtain ⟨o, ho⟩ := hf x y
      exact ⟨o, fun cl h k => by show g1 e b _ = _; rw [e1]; show g2 e b _ = _; rw [e2]; exact ho h k⟩
theorem PurB.of {f : BF} (Q : Value → Value → (Value → Bool) → Bool) (hQ : ∀ x y, Par (Q x y)) (hF : ∀ x y h k, f x y h k = Q x y (fun v => k v h)) : PurB f := by
  intro x y
  obtain ⟨o, ho⟩ := hQ x y
  exact ⟨o, fun h k => by rw [hF, ho]⟩
theorem par_ints {α : Type} {f : IntKind → Int → Int → (α → Bool) → Bool} (c : Nat) (hf : ∀ k a b, Par (f k a b)) (x y : Value) : Par (fun k => ints x y (fun kd a b => f kd a b k) (ff c)) := by
  cases x with
  | int i a =>
    cases y with
    | int j b => exact par_rec _ par_f (hf i a b)
    | _ => exact par_f
  | _ => exact par_f
theorem par_pr {α : Type} (s : Sem α) : Par (pr s) := by
  cases s <;> first | exact par_val _ | exact par_f
theorem pur_bAdd : PurB bAdd := PurB.of (fun x y k => ints x y (fun kd a b => k (.int kd (wr kd (iadd a b)))) (ff 18)) (par_ints 18 fun k a b => par_val _) (fun _ _ _ _ => rfl)
theorem pur_bSub : PurB bSub := PurB.of (fun x y k => ints x y (fun kd a b => k (.int kd (wr kd (isub a b)))) (ff 19)) (par_ints 19 fun k a b => par_val _) (fun _ _ _ _ => rfl)
theorem pur_bMul : PurB bMul := PurB.of (fun x y k => ints x y (fun kd a b => k (.int kd (wr kd (Int.mul a b)))) (ff 20)) (par_ints 20 fun k a b => par_val _) (fun _ _ _ _ => rfl)
theorem pur_bDiv (op : BinOp) : PurB (bDiv op) := PurB.of (fun x y k => ints x y (fun kd a b => Bool.rec (pr (Op.intDiv op kd a b) k) (ff 21) (ieq b (.ofNat 0))) (ff 21)) (par_ints 21 fun k a b => par_rec _ (par_pr _) par_f) (fun _ _ _ _ => rfl)
theorem pur_bBits (op : BinOp) : PurB (bBits op) := PurB.of (fun x y k => ints x y (fun kd a b => pr (Op.intBits op kd a b) k) (ff 17)) (par_ints 17 fun k a b => par_pr _) (fun _ _ _ _ => rfl)
theorem pur_bShift (op : BinOp) : PurB (bShift op) := PurB.of (fun x y k => vInt x (fun kd a => vInt y (fun j b => Bool.rec (pr (Op.shift op kd a j b) k) (ff 22) (ilt b (.ofNat 0))) (ff 22)) (ff 22)) (fun x y => by
  cases x with
  | int i a =>
    cases y with
    | int j b => exact par_rec _ (par_pr _) par_f
    | _ => exact par_f
  | _ => exact par_f) (fun _ _ _ _ => rfl)
theorem pur_bLss : PurB bLss := PurB.of (fun x y k => ints x y (fun _ a b => k (.bool (ilt a b))) (ff 23)) (par_ints 23 fun k a b => par_val _) (fun _ _ _ _ => rfl)
theorem pur_bGtr : PurB bGtr := PurB.of (fun x y k => ints x y (fun _ a b => k (.bool (ilt b a))) (ff 23)) (par_ints 23 fun k a b => par_val _) (fun _ _ _ _ => rfl)
theorem pur_bLeq : PurB bLeq := PurB.of (fun x y k => ints x y (fun _ a b => k (.bool (bnot (ilt b a)))) (ff 23)) (par_ints 23 fun k a b => par_val _) (fun _ _ _ _ => rfl)
theorem pur_bGeq : PurB bGeq := PurB.of (fun x y k => ints x y (fun _ a b => k (.bool (bnot (ilt a b)))) (ff 23)) (par_ints 23 fun k a b => par_val _) (fun _ _ _ _ => rfl)
theorem pur_bCat : PurB bCat := PurB.of (fun x y k => vStr x (fun s => vStr y (fun t => Bool.rec (ff 18) (k (.string ⟨⟨s.data.toList ++ t.data.toList⟩⟩)) (Nat.ble (Nat.add s.data.toList.length t.data.toList.length) 1000000000)) (ff 18)) (ff 18)) (fun x y => by
  cases x with
  | string s =>
    cases y with
    | string t => exact par_rec _ par_f (par_val _)
    | _ => exact par_f
  | _ => exact par_f) (fun _ _ _ _ => rfl)
/-- an equality -/
def PurE (f : Value → Value → Hp → (Bool → Bool) → Bool) : Prop := ∀ x y, ∃ o : Option Bool, ∀ h k, f x y h k = o.elim false k
theorem PurE.eql {f : Value → Value → Hp → (Bool → Bool) → Bool} (hf : PurE f) : PurB (bEql f) := by
  intro x y
  obtain ⟨o, ho⟩ := hf x y
  cases o with
  | none => exact ⟨none, fun h k => ho h _⟩
  | some r => exact ⟨some (.bool r), fun h k => ho h _⟩
theorem PurE.neq {f : Value → Value → Hp → (Bool → Bool) → Bool} (hf : PurE f) : PurB (bNeq f) := by
  intro x y
  obtain ⟨o, ho⟩ := hf x y
  cases o with
  | none => exact ⟨none, fun h k => ho h _⟩
  | some r => exact ⟨some (.bool (bnot r)), fun h k => ho h _⟩
theorem PurE.of {f : Value → Value → Hp → (Bool → Bool) → Bool} (Q : Value → Value → (Bool → Bool) → Bool) (hQ : ∀ x y, Par (Q x y)) (hF : ∀ x y h k, f x y h k = Q x y k) : PurE f := by
  intro x y
  obtain ⟨o, ho⟩ := hQ x y
  exact ⟨o, fun h k => by rw [hF, ho]⟩
theorem pur_eI : PurE eI := PurE.of (fun x y k => ints x y (fun _ a b => k (ieq a b)) (ff 15)) (par_ints 15 fun k a b => par_val _) (fun _ _ _ _ => rfl)
theorem pur_eS : PurE eS := PurE.of (fun x y k => vStr x (fun s => vStr y (fun t => k (bytesEq s.data.toList t.data.toList)) (ff 16)) (ff 16)) (fun x y => by
  cases x with
  | string s =>
    cases y with
    | string t => exact par_val _
    | _ => exact par_f
  | _ => exact par_f) (fun _ _ _ _ => rfl)
theorem pur_eB : PurE eB := PurE.of (fun x y k => vBool x (fun a => vBool y (fun b => k (Bool.rec (bnot b) b a)) (ff 17)) (ff 17)) (fun x y => by
  cases x with
  | bool s =>
    cases y with
    | bool t => exact par_val _
    | _ => exact par_f
  | _ => exact par_f) (fun _ _ _ _ => rfl)
theorem pur_eNI : PurE eNI := by
  intro x y
  cases x <;> first | exact ⟨some true, fun h k => rfl⟩ | exact ⟨some false, fun h k => rfl⟩ | exact ⟨none, fun h k => rfl⟩
theorem pur_eNF : PurE eNF := by
  intro x y
  cases x <;> first | exact ⟨some true, fun h k => rfl⟩ | exact ⟨some false, fun h k => rfl⟩ | exact ⟨none, fun h k => rfl⟩
theorem pur_eNS : PurE eNS := by
  intro x y
  cases x with
  | slice a n c => cases a <;> first | exact ⟨some true, fun h k => rfl⟩ | exact ⟨some false, fun h k => rfl⟩
  | _ => exact ⟨none, fun h k => rfl⟩
theorem pur_eNM : PurE eNM := by
  intro x y
  cases x with
  | map a => cases a <;> first | exact ⟨some true, fun h k => rfl⟩ | exact ⟨some false, fun h k => rfl⟩
  | _ => exact ⟨none, fun h k => rfl⟩
theorem par_sc (x y : Value) : Par (scEq x y) := by
  cases x with
  | int i a =>
    cases y with
    | int j b => exact par_rec _ par_f (par_val _)
    | _ => exact par_f
  | string s =>
    cases y with
    | string t => exact par_val _
    | _ => exact par_f
  | bool s =>
    cases y with
    | bool t => exact par_val _
    | _ => exact par_f
  | _ => exact par_f
theorem par_scL : ∀ (a b : List Value), Par (scEqL a b)
  | [], [] => par_val true
  | [], _ :: _ => par_f
  | _ :: _, [] => par_f
  | x :: a, y :: b => by
    show Par (fun k => scEq x y (fun r => Bool.rec (k false) (scEqL a b k) r))
    exact par_bind (par_sc x y) fun r => par_rec r (par_val false) (par_scL a b)
theorem par_scK {α : Type} {f : (α → Bool) → Bool} (n : Nat) (v : Value) (hf : Par f) : Par (fun k => scK n v (f k)) := by
  cases v with
  | int i a => exact par_rec _ par_f hf
  | string s => exact par_rec _ par_f hf
  | bool s => exact par_rec _ par_f hf
  | _ => exact par_f
theorem par_typed {α : Type} {f : (α → Bool) → Bool} (hf : Par f) : ∀ (ks : List Nat) (l : List Value), Par (fun k => typed ks l (f k))
  | [], [] => hf
  | [], _ :: _ => par_f
  | _ :: _, [] => par_f
  | n :: ks, v :: l => par_scK n v (par_typed hf ks l)
theorem pur_eA (ks : List Nat) : PurE (eA ks) := PurE.of (fun x y k => vAgg x (fun a => vAgg y (fun b => typed ks a (typed ks b (scEqL a b k))) (ff 19)) (ff 19)) (fun x y => by
  cases x with
  | agg a =>
    cases y with
    | agg b => exact par_typed (par_typed (par_scL _ _) _ _) _ _
    | _ => exact par_f
  | _ => exact par_f) (fun _ _ _ _ => rfl)
theorem pur_neg (op : UnOp) (h1 : PG g) : PurF (oNeg op g) :=
  PurF.of (fun e b k => g e b (fun x => vInt x (fun kd n => pr (Op.unary op (.int kd n)) k) (ff 189))) (fun e b => par_bind (h1 e b) fun v => by
    cases v with
    | int kd n => exact par_pr _
    | _ => exact par_f) (fun _ _ _ _ _ => rfl)
theorem pur_not (h1 : PG g) : PurF (oNot g) :=
  PurF.of (fun e b k => g e b (fun x => vBool x (fun t => k (.bool (bnot t))) (ff 189))) (fun e b => par_bind (h1 e b) fun v => by
    cases v with
    | bool t => exact par_val _
    | _ => exact par_f) (fun _ _ _ _ _ => rfl)
theorem pur_cvI (kd : IntKind) (h1 : PG g) : PurF (oCvI kd g) :=
  PurF.of (fun e b k => g e b (fun x => vInt x (fun _ n => k (.int kd (wr kd n))) (ff 120))) (fun e b => par_bind (h1 e b) fun v => by
    cases v with
    | int kd n => exact par_val _
    | _ => exact par_f) (fun _ _ _ _ _ => rfl)
theorem pur_cvS (h1 : PG g) : PurF (oCvS g) :=
  PurF.of (fun e b k => g e b (fun x => vInt x (fun _ n => k (.string (Utf8.encode n))) (ff 121))) (fun e b => par_bind (h1 e b) fun v => by
    cases v with
    | int kd n => exact par_val _
    | _ => exact par_f) (fun _ _ _ _ _ => rfl)
theorem pur_iface (t : TypeId) (h1 : PG g) : PurF (oIface t g) :=
  PurF.of (fun e b k => g e b (fun v => k (.iface t v))) (fun e b => par_bind (h1 e b) fun v => par_val _) (fun _ _ _ _ _ => rfl)
theorem par_evL (e : E) (b : Bd) : ∀ (gs : List G), (∀ g ∈ gs, PG g) → Par (evL gs e b)
  | [], _ => par_val []
  | g :: gs, h => by
    show Par (fun k => g e b (fun v => evL gs e b (fun l => k (v :: l))))
    exact par_bind (h g (by simp) e b) fun v => par_bind (par_evL e b gs fun x hx => h x (by simp [hx])) fun l => par_val (v :: l)
theorem par_evO (e : E) (b : Bd) (go : Option G) (h : ∀ g, go = some g → PG g) : Par (evO go e b) := by
  cases go with
  | none => exact par_val none
  | some g =>
    show Par (fun k => g e b (fun v => k (some v)))
    exact par_bind (h g rfl e b) fun v => par_val (some v)
theorem pur_func (f : Nat) {l1 l2 : List G} (h1 : ∀ g ∈ l1, PG g) (h2 : ∀ g ∈ l2, PG g) : PurF (oFunc f l1 l2) :=
  PurF.of (fun e b k => evL l1 e b (fun l => evL l2 e b (fun m => k (.func (.func f) ⟨l⟩ ⟨m⟩)))) (fun e b => par_bind (par_evL e b l1 h1) fun l => par_bind (par_evL e b l2 h2) fun m => par_val _) (fun _ _ _ _ _ => rfl)
theorem pur_FA (off : Nat) (h1 : PG g) : PurF (oFA off g) :=
  PurF.of (fun e b k => g e b (fun x => vPtr x (fun a => k (.pointer (some (addrAdd a off)))) (ff 193))) (fun e b => par_bind (h1 e b) fun v => by
    cases v with
    | pointer a => cases a <;> first | exact par_val _ | exact par_f
    | _ => exact par_f) (fun _ _ _ _ _ => rfl)
theorem par_mkv (ag : Bool) (cs : List Value) : Par (mkv ag cs) := by
  cases ag with
  | true => exact par_val _
  | false => cases cs <;> first | exact par_val _ | exact par_f
theorem pur_field (off n : Nat) (ag : Bool) (h1 : PG g) : PurF (oField off n ag g) :=
  PurF.of (fun e b k => g e b (fun x => vAgg x (fun cs => mkv ag (takeL n (dropL off cs)) k) (ff 145))) (fun e b => par_bind (h1 e b) fun v => by
    cases v with
    | agg a => exact par_mkv _ _
    | _ => exact par_f) (fun _ _ _ _ _ => rfl)
theorem par_iNat {α : Type} {f : Nat → (α → Bool) → Bool} (n : Int) (hf : ∀ n, Par (f n)) : Par (fun k => iNat n (fun m => f m k)) := by
  cases n with
  | ofNat n => exact hf n
  | negSucc n => exact par_f
theorem pur_IAS (s : Nat) (h1 : PG g1) (h2 : PG g2) : PurF (oIAS s g1 g2) :=
  PurF.of (fun e b k => g1 e b (fun x => g2 e b (fun i => vInt i (fun _ n => iNat n (fun i => vSl x (fun a len _ => oK 131 a (fun a => Bool.rec (ff 132) (k (.pointer (some (addrAdd a (Nat.mul i s))))) (Nat.ble (Nat.succ i) len))) (ff 133))) (ff 134))))
    (fun e b => par_bind (h1 e b) fun x => par_bind (h2 e b) fun i => by
      cases i with
      | int kd n =>
        refine par_iNat n fun i => ?_
        cases x with
        | slice a len c =>
          cases a with
          | none => exact par_f
          | some a => exact par_rec _ par_f (par_val _)
        | _ => exact par_f
      | _ => exact par_f) (fun _ _ _ _ _ => rfl)
theorem pur_IAA (s len : Nat) (h1 : PG g1) (h2 : PG g2) : PurF (oIAA s len g1 g2) :=
  PurF.of (fun e b k => g1 e b (fun x => g2 e b (fun i => vInt i (fun _ n => iNat n (fun i => vPtr x (fun a => Bool.rec (ff 135) (k (.pointer (some (addrAdd a (Nat.mul i s))))) (Nat.ble (Nat.succ i) len)) (ff 136))) (ff 136))))
    (fun e b => par_bind (h1 e b) fun x => par_bind (h2 e b) fun i => by
      cases i with
      | int kd n =>
        refine par_iNat n fun i => ?_
        cases x with
        | pointer a =>
          cases a with
          | none => exact par_f
          | some a => exact par_rec _ par_f (par_val _)
        | _ => exact par_f
      | _ => exact par_f) (fun _ _ _ _ _ => rfl)
theorem par_nthB : ∀ (l : List UInt8) (n : Nat), Par (nthB l n)
  | [], _ => par_f
  | b :: l, 0 => par_val b
  | b :: l, n + 1 => par_nthB l n
theorem pur_IxS (h1 : PG g1) (h2 : PG g2) : PurF (oIxS g1 g2) :=
  PurF.of (fun e b k => g1 e b (fun x => g2 e b (fun i => vInt i (fun _ n => iNat n (fun i => vStr x (fun s => nthB s.data.toList i (fun b => k (.int .u8 (.ofNat b.toNat)))) (ff 137))) (ff 137))))
    (fun e b => par_bind (h1 e b) fun x => par_bind (h2 e b) fun i => by
      cases i with
      | int kd n =>
        refine par_iNat n fun i => ?_
        cases x with
        | string s => exact par_bind (par_nthB _ _) fun b => par_val _
        | _ => exact par_f
      | _ => exact par_f) (fun _ _ _ _ _ => rfl)
theorem pur_IxA (s len : Nat) (ag : Bool) (h1 : PG g1) (h2 : PG g2) : PurF (oIxA s len ag g1 g2) :=
  PurF.of (fun e b k => g1 e b (fun x => g2 e b (fun i => vInt i (fun _ n => iNat n (fun i => vAgg x (fun cs => Bool.rec (ff 141) (lenIs 141 (Nat.mul len s) cs (mkv ag (takeL s (dropL (Nat.mul i s) cs)) k)) (Nat.ble (Nat.succ i) len)) (ff 142))) (ff 143))))
    (fun e b => par_bind (h1 e b) fun x => par_bind (h2 e b) fun i => by
      cases i with
      | int kd n =>
        refine par_iNat n fun i => ?_
        cases x with
        | agg a => exact par_rec _ par_f (par_lenIs _ _ _ (par_mkv _ _))
        | _ => exact par_f
      | _ => exact par_f) (fun _ _ _ _ _ => rfl)
theorem par_nthV : ∀ (n : Nat) (l : List Value), Par (fun k => nthV k n l)
  | 0, [] => par_f
  | 0, v :: l => par_val v
  | n + 1, [] => par_f
  | n + 1, v :: l => par_nthV n l
theorem pur_extract (i : Nat) (h1 : PG g) : PurF (oExtract i g) :=
  PurF.of (fun e b k => g e b (fun x => vTup x (fun l => nthV k i l) (ff 194))) (fun e b => par_bind (h1 e b) fun v => by
    cases v with
    | tuple a => exact par_nthV _ _
    | _ => exact par_f) (fun _ _ _ _ _ => rfl)
theorem pur_min (h1 : PG g1) (h2 : PG g2) : PurF (oMin g1 g2) :=
  PurF.of (fun e b k => g1 e b (fun x => g2 e b (fun y => ints x y (fun kd a c => k (.int kd (Bool.rec a c (ilt c a)))) (ff 162)))) (fun e b => par_bind (h1 e b) fun x => par_bind (h2 e b) fun y => par_ints 162 (fun k a b => par_val _) x y) (fun _ _ _ _ _ => rfl)
theorem pur_max (h1 : PG g1) (h2 : PG g2) : PurF (oMax g1 g2) :=
  PurF.of (fun e b k => g1 e b (fun x => g2 e b (fun y => ints x y (fun kd a c => k (.int kd (Bool.rec a c (ilt a c)))) (ff 162)))) (fun e b => par_bind (h1 e b) fun x => par_bind (h2 e b) fun y => par_ints 162 (fun k a b => par_val _) x y) (fun _ _ _ _ _ => rfl)
theorem pur_cap (h1 : PG g) : PurF (oCap g) :=
  PurF.of (fun e b k => g e b (fun x => vSl x (fun a n c => Option.rec (Bool.rec (ff 163) (Bool.rec (ff 163) (k (goInt 0)) (Nat.beq n 0)) (Nat.beq c 0)) (fun _ => Bool.rec (ff 163) (k (goInt (capLow c))) (capExact c)) a) (ff 163))) (fun e b => par_bind (h1 e b) fun v => by
    cases v with
    | slice a n c =>
      cases a with
      | none => exact par_rec _ par_f (par_rec _ par_f (par_val _))
      | some a => exact par_rec _ par_f (par_val _)
    | _ => exact par_f) (fun _ _ _ _ _ => rfl)
theorem pur_lenL (h1 : PG g) : PurF (oLenL g) :=
  PurF.of (fun e b k => g e b (fun x => vSl x (fun _ n _ => k (goInt n)) (ff 251))) (fun e b => par_bind (h1 e b) fun v => by
    cases v with
    | slice a n c => exact par_val _
    | _ => exact par_f) (fun _ _ _ _ _ => rfl)
theorem pur_lenS (h1 : PG g) : PurF (oLenS g) :=
  PurF.of (fun e b k => g e b (fun x => vStr x (fun s => k (goInt s.data.toList.length)) (ff 251))) (fun e b => par_bind (h1 e b) fun v => by
    cases v with
    | string s => exact par_val _
    | _ => exact par_f) (fun _ _ _ _ _ => rfl)
theorem par_bnd (c y : Nat) (v : Value) : Par (bnd c y v) := by
  cases v with
  | int kd n => exact par_iNat n fun m => par_rec _ par_f (par_val m)
  | _ => exact par_f
theorem par_bndO (c y : Nat) (v : Option Value) (d : Nat) : Par (bndO c y v d) := by
  cases v with
  | none => exact par_val d
  | some v => exact par_bnd c y v
theorem pur_slS {go gh : Option G} (h1 : PG g) (h2 : ∀ x, go = some x → PG x) (h3 : ∀ x, gh = some x → PG x) : PurF (oSlS g go gh) :=
  PurF.of (fun e b k => g e b (fun x => evO go e b (fun lo => evO gh e b (fun hi => vStr x (fun s => sliceS s.data.toList lo hi k) (ff 63))))) (fun e b => par_bind (h1 e b) fun v => par_bind (par_evO e b go h2) fun lo => par_bind (par_evO e b gh h3) fun hi => by
    cases v with
    | string s =>
      show Par (fun (k : Value → Bool) => bndO 50 s.data.toList.length hi s.data.toList.length (fun h => bndO 51 h lo 0 (fun l => k (Value.string ⟨⟨(s.data.toList.take h).drop l⟩⟩))))
      exact par_bind (par_bndO _ _ _ _) fun h => par_bind (par_bndO _ _ _ _) fun l => par_val _
    | _ => exact par_f) (fun _ _ _ _ _ => rfl)
end Go.Ab
end
section
namespace Go.Ab
/-! ### reads -/
/-- what lived, lives on as it was -/
structure HExt (h h' : Hp) : Prop where
  cells : ∀ b, h.blk b ≠ none → ∀ k ky, h'.cells b k ky = h.cells b k ky
  obj : ∀ b, h.oat b ≠ none → ∀ k, h'.obj b k = h.obj b k
def ParX {α : Type} (h : Hp) (f : Hp → (α → Bool) → Bool) : Prop := ∃ o : Option α, (∀ k, f h k = o.elim false k) ∧ ∀ h', HExt h h' → o.isSome = true → ∀ k, f h' k = o.elim false k
variable {h h' : Hp} {g g1 g2 g3 : G}
theorem Par.x {α : Type} {f : (α → Bool) → Bool} (hf : Par f) : ParX h (fun _ => f) := let ⟨o, ho⟩ := hf; ⟨o, ho, fun _ _ _ => ho⟩
theorem parx_f {α : Type} : ParX h (fun _ (_ : α → Bool) => false) := par_f.x
theorem parx_val {α : Type} (v : α) : ParX h (fun _ k => k v) := (par_val v).x
theorem parx_bind {α β : Type} {f : Hp → (α → Bool) → Bool} {q : α → Hp → (β → Bool) → Bool} (hf : ParX h f) (hq : ∀ a, ParX h (q a)) : ParX h (fun h k => f h (fun a => q a h k)) := by
  obtain ⟨o, h1, h2⟩ := hf
  cases o with
  | none => exact ⟨none, fun k => h1 _, fun _ _ hs => by cases hs⟩
  | some a =>
    obtain ⟨o, h3, h4⟩ := hq a
    exact ⟨o, fun k => by show f h _ = _; rw [h1]; exact h3 k, fun h' hx hs k => by show f h' _ = _; rw [h2 h' hx rfl]; exact h4 h' hx hs k⟩
theorem parx_rec {α : Type} {f q : Hp → (α → Bool) → Bool} (c : Bool) (hf : ParX h f) (hq : ParX h q) : ParX h (fun h k => Bool.rec (f h k) (q h k) c) := by cases c <;> assumption
def Yl.look (b : Nat) : Yl → Option (Nat × List Value × TypeId)
  | .nil => none
  | .cons i s c e l => if i = b then some (s, c, e) else l.look b
theorem Yl.at_eq (b : Nat) (k : Nat → List Value → TypeId → Bool) : ∀ (y : Yl), Yl.at b k y = (y.look b).elim false (fun x => k x.1 x.2.1 x.2.2)
  | .nil => rfl
  | .cons i s c e l => by
    show (Bool.rec (Yl.at b k l) (k s c e) (Nat.beq i b) : Bool) = _
    unfold Yl.look
    cases hb : Nat.beq i b with
    | true => rw [if_pos (beq_iff.1 hb)]; rfl
    | false => rw [if_neg (beq_f.1 hb)]; exact Yl.at_eq b k l
theorem par_cells2 {α : Type} (h : Hp) (b : Nat) {f : CB → (α → Bool) → Bool} {q : Nat → List Value → TypeId → (α → Bool) → Bool} (hf : ∀ c, Par (f c)) (hq : ∀ s c e, Par (q s c e)) :
    Par (fun k => h.cells b (fun c => f c k) (fun s c e => q s c e k)) := by
  unfold Hp.cells
  refine par_rec _ ?_ ?_
  · exact par_bind ⟨h.t.look (pth b), fun k => Tr.get_eq _ _ k⟩ hf
  · have : ∀ k : α → Bool, Yl.at b (fun s c e => q s c e k) h.y = (h.y.look b).elim false (fun x => q x.1 x.2.1 x.2.2 k) := fun k => Yl.at_eq b _ h.y
    cases hl : h.y.look b with
    | none => exact ⟨none, fun k => by have := this k; rw [hl] at this; exact this⟩
    | some x =>
      obtain ⟨o, ho⟩ := hq x.1 x.2.1 x.2.2
      exact ⟨o, fun k => by have := this k; rw [hl] at this; exact this.trans (ho k)⟩
theorem cells_none {b : Nat} (hb : h.blk b = none) (k : CB → Bool) (ky : Nat → List Value → TypeId → Bool) : h.cells b k ky = false := by
  cases hc : h.cells b k ky with
  | false => rfl
  | true => obtain ⟨c, h1, _⟩ := Hp.cells_inv hc; rw [hb] at h1; cases h1
theorem parx_cells {α : Type} (b : Nat) {f : CB → (α → Bool) → Bool} {q : Nat → List Value → TypeId → (α → Bool) → Bool} (hf : ∀ c, Par (f c)) (hq : ∀ s c e, Par (q s c e)) :
    ParX h (fun h k => h.cells b (fun c => f c k) (fun s c e => q s c e k)) := by
  cases hb : h.blk b with
  | none => exact ⟨none, fun k => cells_none hb _ _, fun _ _ hs => by cases hs⟩
  | some c =>
    obtain ⟨o, ho⟩ := par_cells2 h b hf hq
    exact ⟨o, ho, fun h' hx _ k => (hx.cells b (by rw [hb]; simp) _ _).trans (ho k)⟩
theorem obj_none {b : Nat} (hb : h.oat b = none) (k : AObj → Bool) : h.obj b k = false := by
  cases hc : h.obj b k with
  | false => rfl
  | true => obtain ⟨c, h1, _⟩ := Hp.obj_inv hc; rw [hb] at h1; cases h1
theorem parx_obj {α : Type} (b : Nat) {f : AObj → (α → Bool) → Bool} (hf : ∀ c, Par (f c)) : ParX h (fun h k => h.obj b (fun c => f c k)) := by
  cases hb : h.oat b with
  | none => exact ⟨none, fun k => obj_none hb _, fun _ _ hs => by cases hs⟩
  | some c =>
    have hp : Par (fun k => h.obj b (fun c => f c k)) := by
      unfold Hp.obj
      exact par_rec _ par_f (par_bind ⟨h.o.look (pth (Nat.mod b ob)), fun k => Tr.get_eq _ _ k⟩ hf)
    obtain ⟨o, ho⟩ := hp
    exact ⟨o, ho, fun h' hx _ k => (hx.obj b (by rw [hb]; simp) _).trans (ho k)⟩
def RdF (F : F) : Prop := ∀ e b h, ∃ o : Option Value, (∀ cl k, F cl e b h k = o.elim false (fun v => k v h)) ∧ ∀ h', HExt h h' → o.isSome = true → ∀ cl k, F cl e b h' k = o.elim false (fun v => k v h')
theorem RdF.of {F : F} (Q : E → Bd → Hp → (Value → Bool) → Bool) (hQ : ∀ e b h, ParX h (Q e b)) (hF : ∀ cl e b h k, F cl e b h k = Q e b h (fun v => k v h)) : RdF F := by
  intro e b h
  obtain ⟨o, h1, h2⟩ := hQ e b h
  exact ⟨o, fun cl k => by rw [hF, h1], fun h' hx hs cl k => by rw [hF, h2 h' hx hs]⟩
theorem PurF.rd {F : F} (hF : PurF F) : RdF F := fun e b h => let ⟨o, ho⟩ := hF e b; ⟨o, fun cl k => ho cl h k, fun h' _ _ cl k => ho cl h' k⟩
theorem par_get {α : Type} (p : Pth) (t : Tr α) : Par (Tr.get p t) := ⟨t.look p, fun k => Tr.get_eq p t k⟩
theorem par_chunks (t : Tr (List Value)) : ∀ (n q : Nat), Par (chunks t n q)
  | 0, q => par_val []
  | n + 1, q => by
    show Par (fun k => t.get (pth q) (fun c => chunks t n (q + 1) (fun r => k (c :: r))))
    exact par_bind (par_get _ _) fun c => par_bind (par_chunks t n (q + 1)) fun r => par_val _
theorem par_rdS (t : Tr (List Value)) (s off n : Nat) : Par (rdS t s off n) := by
  unfold rdS
  exact par_rec _ (par_rec _ par_f (par_bind (par_get _ _) fun c => par_val _)) (par_bind (par_chunks _ _ _) fun cs => par_val _)
theorem par_rd (t : Tr (List Value)) (s off n : Nat) : Par (rd t s off n) := by
  unfold rd
  exact par_rec _ (par_rdS t s off n) (par_get _ _)
theorem par_rdY (s : Nat) (c : List Value) (off n : Nat) : Par (rdY s c off n) := by
  unfold rdY rdYS
  exact par_rec _ (par_rec _ par_f (par_val _)) (par_val _)
theorem parx_spot {α : Type} {f : Hp → (α → Bool) → Bool} (a : Addr) (hf : ParX h f) : ParX h (fun h k => spot0 a (f h k)) := by
  unfold spot0
  cases a.spot with
  | none => exact hf
  | some s => exact parx_f
theorem parx_loadC (a : Addr) (n : Nat) : ParX h (fun h => loadC h a n) := by
  unfold loadC
  exact parx_spot a (parx_cells a.block (fun c => par_rd c.t c.s a.off n) (fun s c _ => par_rdY s c a.off n))
theorem par_rd1 (c : CB) (off : Nat) : Par (rd1 c off) := by
  show Par (fun k => c.t.get (pth (Nat.div off c.s)) (fun l => nthV k (Nat.mod off c.s) l))
  exact par_bind (par_get _ _) fun l => par_nthV _ _
theorem parx_load1 (a : Addr) : ParX h (fun h => load1 h a) := by
  unfold load1
  exact parx_spot a (parx_cells a.block (f := fun c k => rd1 c a.off k) (q := fun _ c _ k => nthV k a.off c) (fun c => par_rd1 c a.off) (fun s c _ => par_nthV _ _))
theorem rd_load1 (h1 : PG g) : RdF (oLoad1 g) :=
  RdF.of (fun e b h k => g e b (fun a => vPtr a (fun a => load1 h a k) (ff 181))) (fun e b h => parx_bind (h1 e b).x fun v => by
    cases v with
    | pointer a =>
      cases a with
      | none => exact parx_f
      | some a => exact parx_load1 a
    | _ => exact parx_f) (fun _ _ _ _ _ => rfl)
theorem rd_loadN (n : Nat) (h1 : PG g) : RdF (oLoadN n g) :=
  RdF.of (fun e b h k => g e b (fun a => vPtr a (fun a => loadC h a n (fun cs => k (.agg ⟨cs⟩))) (ff 182))) (fun e b h => parx_bind (h1 e b).x fun v => by
    cases v with
    | pointer a =>
      cases a with
      | none => exact parx_f
      | some a => exact parx_bind (parx_loadC a n) fun cs => parx_val _
    | _ => exact parx_f) (fun _ _ _ _ _ => rfl)
/-! #### maps -/
theorem par_keyEq (x y : Value) : Par (keyEq x y) := by
  unfold keyEq
  cases x with
  | agg a =>
    cases y with
    | agg b => exact par_scL _ _
    | _ => exact par_f
  | _ => exact par_sc _ _
theorem par_keyK {α : Type} {f : (α → Bool) → Bool} (kd : KD) (v : Value) (hf : Par f) : Par (fun k => keyK kd v (f k)) := by
  cases kd with
  | sc n => exact par_scK n v hf
  | ag ks =>
    cases v with
    | agg a => exact par_typed hf _ _
    | _ => exact par_f
theorem parx_keyK {α : Type} {f : Hp → (α → Bool) → Bool} (kd : KD) (v : Value) (hf : ParX h f) : ParX h (fun h k => keyK kd v (f h k)) := by
  have : ParX h (fun h (k : α → Bool) => (fun (k : Unit → Bool) => keyK kd v (k ())) (fun _ => f h k)) := parx_bind (f := fun _ (k : Unit → Bool) => keyK kd v (k ())) (par_keyK kd v (par_val ())).x (fun _ => hf)
  exact this
theorem par_findE (x : Value) : ∀ (l : List (Value × Value × Nat)), Par (fun k => findE x k l)
  | [] => par_val none
  | y :: l => by
    show Par (fun k => keyEq x y.1 (fun r => Bool.rec (findE x k l) (k (some y.2.1)) r))
    exact par_bind (par_keyEq _ _) fun r => par_rec r (par_findE x l) (par_val _)
theorem par_findU (x : Value) : ∀ (l : List (Value × Value)) (acc : Option Value), Par (fun k => findU x k l acc)
  | [], acc => par_val acc
  | y :: l, acc => by
    show Par (fun k => keyEq x y.1 (fun r => Bool.rec (findU x k l acc) (findU x k l (some y.2)) r))
    exact par_bind (par_keyEq _ _) fun r => par_rec r (par_findU x l acc) (par_findU x l _)
theorem par_lookR (z : Value) (ok : Bool) (r : Option Value) : Par (fun k => lookR z ok k r) := by
  unfold lookR
  cases r with
  | none => exact par_rec _ (par_val _) (par_val _)
  | some v => exact par_rec _ (par_val _) (par_val _)
theorem parx_lookup (kd : KD) (z x y : Value) (ok : Bool) : ParX h (fun h k => alookup h kd z x y ok k) := by
  unfold alookup
  refine parx_keyK kd y ?_
  cases x with
  | map r =>
    cases r with
    | none => exact (par_lookR z ok none).x
    | some b =>
      refine parx_obj b (f := fun o k => objM 83 o (fun es _ => findE y (lookR z ok k) es) (fun es => findU y (lookR z ok k) es none)) fun o => ?_
      cases o with
      | amap es c => exact par_bind (par_findE y es) fun r => par_lookR z ok r
      | amapU es => exact par_bind (par_findU y es none) fun r => par_lookR z ok r
      | _ => exact par_f
  | _ => exact parx_f
theorem rd_look (kd : KD) (z : Value) (ok : Bool) (h1 : PG g1) (h2 : PG g2) : RdF (oLook kd z ok g1 g2) :=
  RdF.of (fun e b h k => g1 e b (fun x => g2 e b (fun i => alookup h kd z x i ok k))) (fun e b h => parx_bind (h1 e b).x fun x => parx_bind (h2 e b).x fun i => parx_lookup kd z x i ok) (fun _ _ _ _ _ => rfl)
/-! #### pointers, slices -/
theorem parx_plain {α : Type} {f : Hp → (α → Bool) → Bool} (b : Nat) (hf : ParX h f) : ParX h (fun h k => plainAt h b (f h k)) := by
  have h1 : ParX h (fun h (k : Unit → Bool) => plainAt h b (k ())) := by
    unfold plainAt
    refine parx_cells b (f := fun c k => Option.rec (k ()) (fun _ => ff 13) c.fz) (q := fun _ _ _ k => k ()) (fun c => ?_) (fun _ _ _ => par_val ())
    cases c.fz with
    | none => exact par_val ()
    | some _ => exact par_f
  exact parx_bind h1 (fun _ => hf)
theorem parx_ptrEq (a b : Addr) : ParX h (fun h => ptrEq h a b) := by
  unfold ptrEq
  exact parx_rec _ (parx_plain _ (parx_plain _ (parx_val _))) (parx_val _)
theorem parx_eP (x y : Value) : ParX h (fun h k => eP x y h k) := by
  unfold eP
  cases x with
  | pointer a =>
    cases y with
    | pointer b =>
      cases a with
      | none => exact parx_val _
      | some a =>
        cases b with
        | none => exact parx_val _
        | some b => exact parx_ptrEq a b
    | _ => exact parx_f
  | _ => exact parx_f
theorem rd_eP (h1 : PG g1) (h2 : PG g2) : RdF (oBin (bEql eP) g1 g2) :=
  RdF.of (fun e b h k => g1 e b (fun x => g2 e b (fun y => eP x y h (fun r => k (.bool r))))) (fun e b h => parx_bind (h1 e b).x fun x => parx_bind (h2 e b).x fun i => parx_bind (parx_eP x i) fun r => parx_val _) (fun _ _ _ _ _ => rfl)
theorem rd_nP (h1 : PG g1) (h2 : PG g2) : RdF (oBin (bNeq eP) g1 g2) :=
  RdF.of (fun e b h k => g1 e b (fun x => g2 e b (fun y => eP x y h (fun r => k (.bool (bnot r)))))) (fun e b h => parx_bind (h1 e b).x fun x => parx_bind (h2 e b).x fun i => parx_bind (parx_eP x i) fun r => parx_val _) (fun _ _ _ _ _ => rfl)
theorem parx_esOk {α : Type} {f : Hp → (α → Bool) → Bool} (size l : Nat) (a : Addr) (hf : ParX h f) : ParX h (fun h k => esOk h size l a (f h k)) := by
  have h1 : ParX h (fun h (k : Unit → Bool) => esOk h size l a (k ())) := by
    unfold esOk
    exact parx_rec _ (parx_cells a.block (f := fun c k => Bool.rec (ff 49) (k ()) (Nat.beq c.s size)) (q := fun s _ _ k => Bool.rec (ff 49) (k ()) (Nat.beq s size)) (fun c => par_rec (f := fun _ => ff 49) (g := fun k => k ()) _ par_f (par_val ())) (fun s _ _ => par_rec (f := fun _ => ff 49) (g := fun k => k ()) _ par_f (par_val ()))) (parx_val ())
  exact parx_bind h1 (fun _ => hf)
theorem parx_sliceB (size : Nat) (a : Addr) (m : Nat) (ex : Bool) (l u : Nat) : ParX h (fun h => sliceB h size a m ex l u) := by
  unfold sliceB
  exact parx_rec _ (parx_rec _ parx_f (parx_rec _ parx_f (parx_rec _ (parx_rec _ (parx_val _) (parx_val _)) (parx_val _)))) (parx_rec _ (parx_esOk _ _ _ (parx_val _)) (parx_val _))
theorem parx_sliceA (size : Nat) (a : Addr) (len cap : Nat) (ex : Bool) (lo hi mx : Option Value) : ParX h (fun h => sliceA h size a len cap ex lo hi mx) := by
  unfold sliceA
  cases mx with
  | none => exact parx_bind (par_bndO _ _ _ _).x fun u => parx_bind (par_bndO _ _ _ _).x fun l => parx_sliceB _ _ _ _ _ _
  | some mv =>
    refine parx_rec _ (parx_bind (par_bnd _ _ _).x fun m => ?_) parx_f
    cases hi with
    | none => exact parx_f
    | some hv => exact parx_bind (par_bnd _ _ _).x fun u => parx_bind (par_bndO _ _ _ _).x fun l => parx_sliceB _ _ _ _ _ _
theorem par_sliceNil (n c : Nat) (lo hi mx : Option Value) : Par (sliceNil n c lo hi mx) := by
  unfold sliceNil
  exact par_rec _ par_f (par_bind (par_bndO _ _ _ _) fun _ => par_bind (par_bndO _ _ _ _) fun _ => par_bind (par_bndO _ _ _ _) fun _ => par_rec _ par_f (par_rec _ par_f (par_val _)))
variable {go gh gm : Option G}
theorem rd_slL (size : Nat) (h1 : PG g) (h2 : ∀ x, go = some x → PG x) (h3 : ∀ x, gh = some x → PG x) (h4 : ∀ x, gm = some x → PG x) : RdF (oSlL size g go gh gm) :=
  RdF.of (fun e b h k => g e b (fun x => evO go e b (fun lo => evO gh e b (fun hi => evO gm e b (fun mx => vSl x (fun a n c => Option.rec (sliceNil n c lo hi mx k) (fun a => sliceA h size a n (capLow c) (capExact c) lo hi mx k) a) (ff 63))))))
    (fun e b h => parx_bind (h1 e b).x fun v => parx_bind (par_evO e b go h2).x fun lo => parx_bind (par_evO e b gh h3).x fun hi => parx_bind (par_evO e b gm h4).x fun mx => by
      cases v with
      | slice a n c =>
        cases a with
        | none => exact (par_sliceNil n c lo hi mx).x
        | some a => exact parx_sliceA size a n (capLow c) (capExact c) lo hi mx
      | _ => exact parx_f) (fun _ _ _ _ _ => rfl)
theorem sliceT (h h' : Hp) (size : Nat) (a : Addr) (len cap : Nat) (lo hi mx : Option Value) (k : K1) : sliceA h size a len cap true lo hi mx k = sliceA h' size a len cap true lo hi mx k := rfl
theorem par_sliceT (h : Hp) (size : Nat) (a : Addr) (len cap : Nat) (lo hi mx : Option Value) : Par (sliceA h size a len cap true lo hi mx) := let ⟨o, ho, _⟩ := parx_sliceA (h := h) size a len cap true lo hi mx; ⟨o, ho⟩
theorem pur_slA (size n : Nat) (h1 : PG g) (h2 : ∀ x, go = some x → PG x) (h3 : ∀ x, gh = some x → PG x) (h4 : ∀ x, gm = some x → PG x) : PurF (oSlA size n g go gh gm) :=
  PurF.of (fun e b k => g e b (fun x => evO go e b (fun lo => evO gh e b (fun hi => evO gm e b (fun mx => vPtr x (fun a => spot0 a (sliceA ⟨.nil, .lf, .lf, 0, 0, 0⟩ size a n n true lo hi mx k)) (ff 63))))))
    (fun e b => par_bind (h1 e b) fun v => par_bind (par_evO e b go h2) fun lo => par_bind (par_evO e b gh h3) fun hi => par_bind (par_evO e b gm h4) fun mx => by
      cases v with
      | pointer a =>
        cases a with
        | none => exact par_f
        | some a =>
          show Par (fun k => spot0 a (sliceA ⟨.nil, .lf, .lf, 0, 0, 0⟩ size a n n true lo hi mx k))
          unfold spot0
          cases a.spot with
          | none => exact par_sliceT _ _ _ _ _ _ _ _
          | some s => exact par_f
      | _ => exact par_f) (fun _ _ _ _ _ => rfl)
end Go.Ab
end
section
namespace Go.Ab
variable {X : Cx} {m m' : M} {h h' : Hp} {w w' : World} {P : Program}
variable {c : Ct} {ds : Ds} {n : Nat} {d : Option Nat} {ty : TypeId} {F : F}
theorem cL_par : ∀ {xs : List Operand} {gs : List G}, cL c ds n xs = some gs → ∀ g ∈ gs, PG g
  | [], gs, h => by injection h with h; subst h; simp
  | x :: l, gs, h => by
    simp only [cL, Option.bind_eq_bind, Option.bind_eq_some_iff, Option.pure_def, Option.some.injEq] at h
    obtain ⟨g, h1, l', h2, rfl⟩ := h
    intro q hq
    simp only [List.mem_cons] at hq
    rcases hq with rfl | hq
    · exact cG_par h1
    · exact cL_par h2 q hq
theorem cO_par {x : Option Operand} {go : Option G} (h : cO c ds n x = some go) : ∀ g, go = some g → PG g := by
  cases x with
  | none => injection h with h; subst h; intro g hg; cases hg
  | some y =>
    simp only [cO, Option.map_eq_some_iff] at h
    obtain ⟨g, h1, rfl⟩ := h
    intro q hq
    injection hq with hq; subst hq
    exact cG_par h1
theorem cParts_par {len : Nat} {place : Nat → Option (Nat × Nat)} : ∀ {ps : List (Nat × Operand)} {qs : List (Nat × Nat × G)}, cParts c ds n len place ps = some qs → ∀ x ∈ qs, PG x.2.2
  | [], qs, h => by injection h with h; subst h; simp
  | (i, x) :: l, qs, h => by
    simp only [cParts, Option.bind_eq_bind, Option.bind_eq_some_iff] at h
    obtain ⟨⟨o, s⟩, h1, h2⟩ := h
    simp only at h2
    split at h2
    · simp only [Option.bind_eq_bind, Option.bind_eq_some_iff, Option.pure_def, Option.some.injEq] at h2
      obtain ⟨g, h3, l', h4, rfl⟩ := h2
      intro q hq
      simp only [List.mem_cons] at hq
      rcases hq with rfl | hq
      · exact cG_par h3
      · exact cParts_par h4 q hq
    · cases h2
theorem cEq_pur {t : TypeId} {y : Operand} {q : Value → Value → Hp → (Bool → Bool) → Bool} (h : cEq c t y = some q) (hp : isPtr c.P t = false) : PurE q := by
  unfold cEq at h
  unfold isPtr at hp
  split at h
  · injection h with h; subst h; exact pur_eI
  · injection h with h; subst h; exact pur_eS
  · injection h with h; subst h; exact pur_eB
  · rename_i hu; rw [hu] at hp; cases hp
  · split at h <;> first | (injection h with h; subst h; exact pur_eNI) | cases h
  · split at h <;> first | (injection h with h; subst h; exact pur_eNS) | cases h
  · split at h <;> first | (injection h with h; subst h; exact pur_eNM) | cases h
  · split at h <;> first | (injection h with h; subst h; exact pur_eNF) | cases h
  · rw [Option.map_eq_some_iff] at h
    obtain ⟨ks, h1, rfl⟩ := h
    exact pur_eA ks
  · cases h
theorem cBin_pur {op : BinOp} {t : TypeId} {y : Operand} {q : BF} (h : cBin c op t y = some q) (hp : isPtr c.P t = false) : PurB q := by
  unfold cBin at h
  split at h
  · rw [Option.map_eq_some_iff] at h
    obtain ⟨r, h1, rfl⟩ := h
    exact (cEq_pur h1 hp).eql
  · rw [Option.map_eq_some_iff] at h
    obtain ⟨r, h1, rfl⟩ := h
    exact (cEq_pur h1 hp).neq
  · split at h
    · split at h <;> first | cases h | (injection h with h; subst h)
      · exact pur_bAdd
      · exact pur_bSub
      · exact pur_bMul
      · exact pur_bDiv _
      · exact pur_bDiv _
      · exact pur_bBits _
      · exact pur_bBits _
      · exact pur_bBits _
      · exact pur_bBits _
      · exact pur_bShift _
      · exact pur_bShift _
      · exact pur_bLss
      · exact pur_bGtr
      · exact pur_bLeq
      · exact pur_bGeq
    · split at h
      · injection h with h; subst h; exact pur_bCat
      · cases h
    · cases h
theorem cBin_rd {op : BinOp} {t : TypeId} {y : Operand} {q : BF} {g1 g2 : G} (h : cBin c op t y = some q) (hp : isPtr c.P t = true) (h1 : PG g1) (h2 : PG g2) : RdF (oBin q g1 g2) := by
  unfold isPtr at hp
  split at hp
  case h_2 => cases hp
  rename_i el hu
  unfold cBin at h
  split at h
  · rw [Option.map_eq_some_iff] at h
    obtain ⟨r, h3, rfl⟩ := h
    unfold cEq at h3
    rw [hu] at h3
    simp only at h3
    split at h3
    · split at h3
      · cases h3
      · injection h3 with h3; subst h3; exact rd_eP h1 h2
    · cases h3
  · rw [Option.map_eq_some_iff] at h
    obtain ⟨r, h3, rfl⟩ := h
    unfold cEq at h3
    rw [hu] at h3
    simp only at h3
    split at h3
    · split at h3
      · cases h3
      · injection h3 with h3; subst h3; exact rd_nP h1 h2
    · cases h3
  · rw [hu] at h; cases h
theorem pur_call {x : Call} (hp : pureOp c.P (.call x) = true) (h : cOp c d ds n ty (.call x) = some F) : PurF F := by
  obtain ⟨callee, args, argTypes⟩ := x
  cases callee with
  | builtin bi =>
    simp only [cOp] at h
    cases bi with
    | min =>
      unfold cBuiltin at h
      split at h <;> first | contradiction | skip
      · simp only [Option.bind_eq_bind, Option.bind_eq_some_iff, Option.pure_def, Option.some.injEq] at h
        obtain ⟨g1, hg1, g2, hg2, rfl⟩ := h
        exact pur_min (cG_par hg1) (cG_par hg2)
      · simp at h
    | max =>
      unfold cBuiltin at h
      split at h <;> first | contradiction | skip
      · simp only [Option.bind_eq_bind, Option.bind_eq_some_iff, Option.pure_def, Option.some.injEq] at h
        obtain ⟨g1, hg1, g2, hg2, rfl⟩ := h
        exact pur_max (cG_par hg1) (cG_par hg2)
      · simp at h
    | cap =>
      unfold cBuiltin at h
      split at h <;> first | contradiction | skip
      · split at h
        · rw [Option.map_eq_some_iff] at h
          obtain ⟨g, hg, rfl⟩ := h
          exact pur_cap (cG_par hg)
        · cases h
      · simp at h
    | len =>
      unfold cBuiltin at h
      simp only [pureOp] at hp
      split at h <;> first | contradiction | skip
      · rename_i t ts y hts has
        rw [hts] at hp
        simp only at hp
        split at h
        · rw [Option.map_eq_some_iff] at h
          obtain ⟨g, hg, rfl⟩ := h
          exact pur_lenL (cG_par hg)
        · rw [Option.map_eq_some_iff] at h
          obtain ⟨g, hg, rfl⟩ := h
          exact pur_lenS (cG_par hg)
        · rename_i hu; rw [hu] at hp; cases hp
        · cases h
      · simp at h
    | _ => simp [pureOp] at hp
  | value f => simp [pureOp] at hp
  | invoke r m => simp [pureOp] at hp
theorem op_pur {op : Op} (hp : pureOp c.P op = true) (h : cOp c d ds n ty op = some F) : PurF F := by
  cases op with
  | move x =>
    simp only [cOp, Option.map_eq_some_iff] at h
    obtain ⟨g, hg, rfl⟩ := h; exact pur_move (cG_par hg)
  | assign x =>
    simp only [cOp, Option.map_eq_some_iff] at h
    obtain ⟨g, hg, rfl⟩ := h; exact pur_move (cG_par hg)
  | pick a x y =>
    simp only [cOp, Option.bind_eq_bind, Option.bind_eq_some_iff, Option.pure_def, Option.some.injEq] at h
    obtain ⟨g1, hg1, g2, hg2, g3, hg3, rfl⟩ := h
    exact pur_pick (cG_par hg1) (cG_par hg2) (cG_par hg3)
  | build t ps =>
    simp only [cOp, Option.bind_eq_bind, Option.bind_eq_some_iff] at h
    obtain ⟨⟨s, ag⟩, h1, h2⟩ := h
    simp only at h2
    split at h2
    case isFalse => cases h2
    split at h2
    · split at h2
      case isFalse => cases h2
      simp only [Option.bind_eq_bind, Option.bind_eq_some_iff, Option.pure_def, Option.some.injEq] at h2
      obtain ⟨qs, hq, rfl⟩ := h2
      exact pur_build (cParts_par hq)
    · simp only [Option.bind_eq_bind, Option.bind_eq_some_iff, Option.pure_def, Option.some.injEq] at h2
      obtain ⟨⟨len, e1, size, ag1⟩, ha, qs, hq, rfl⟩ := h2
      exact pur_build (cParts_par hq)
  | nilCheck x =>
    simp only [cOp, Option.map_eq_some_iff] at h
    obtain ⟨g, hg, rfl⟩ := h; exact pur_nil (cG_par hg)
  | binOp op t x y u =>
    simp only [cOp, Option.bind_eq_bind, Option.bind_eq_some_iff, Option.pure_def, Option.some.injEq] at h
    obtain ⟨q, hq, g1, hg1, g2, hg2, rfl⟩ := h
    simp only [pureOp, Bool.not_eq_true'] at hp
    exact pur_bin (cBin_pur hq hp) (cG_par hg1) (cG_par hg2)
  | unOp op t x =>
    simp only [cOp, Option.bind_eq_bind, Option.bind_eq_some_iff] at h
    obtain ⟨g, hg, h2⟩ := h
    split at h2 <;> first | cases h2 | (simp only [Option.pure_def, Option.some.injEq] at h2; subst h2)
    · exact pur_not (cG_par hg)
    · exact pur_neg _ (cG_par hg)
    · exact pur_neg _ (cG_par hg)
  | convert s t x =>
    simp only [cOp, Option.bind_eq_bind, Option.bind_eq_some_iff] at h
    obtain ⟨g, hg, h2⟩ := h
    simp only [pureOp, quietConv] at hp
    unfold cConv at h2
    split at hp
    · rename_i e1 e2
      rw [e1, e2] at h2
      injection h2 with h2; subst h2; exact pur_cvI _ (cG_par hg)
    · rename_i e1 e2
      rw [e1, e2] at h2
      injection h2 with h2; subst h2; exact pur_cvS (cG_par hg)
    · cases hp
  | makeInterface t x =>
    simp only [cOp] at h
    split at h
    · cases h
    · rw [Option.map_eq_some_iff] at h
      obtain ⟨g, hg, rfl⟩ := h; exact pur_iface _ (cG_par hg)
    · cases h
  | makeFunc fn a q =>
    simp only [cOp] at h
    split at h
    · simp only [Option.bind_eq_bind, Option.bind_eq_some_iff, Option.pure_def, Option.some.injEq] at h
      obtain ⟨g1, hg1, g2, hg2, rfl⟩ := h
      exact pur_func _ (cL_par hg1) (cL_par hg2)
    · cases h
  | slice t x lo hi mx =>
    simp only [cOp, Option.bind_eq_bind, Option.bind_eq_some_iff] at h
    obtain ⟨g, hg, gl, hgl, gh, hgh, h2⟩ := h
    simp only [pureOp, isSlice, Bool.not_eq_true'] at hp
    split at h2
    · split at h2
      · simp only [Option.pure_def, Option.some.injEq] at h2; subst h2
        exact pur_slS (cG_par hg) (cO_par hgl) (cO_par hgh)
      · cases h2
    · rename_i el hu; rw [hu] at hp; cases hp
    · simp only [Option.bind_eq_bind, Option.bind_eq_some_iff, Option.pure_def, Option.some.injEq] at h2
      obtain ⟨⟨e1, size, ag⟩, h1, gm, hgm, rfl⟩ := h2
      exact pur_slA _ _ (cG_par hg) (cO_par hgl) (cO_par hgh) (cO_par hgm)
    · cases h2
  | fieldAddr t x q =>
    simp only [cOp, Option.bind_eq_bind, Option.bind_eq_some_iff] at h
    obtain ⟨⟨off, s, ag⟩, h1, h2⟩ := h
    simp only at h2
    split at h2
    · cases h2
    · rw [Option.map_eq_some_iff] at h2
      obtain ⟨g, hg, rfl⟩ := h2
      exact pur_FA _ (cG_par hg)
  | field t x q =>
    simp only [cOp, Option.bind_eq_bind, Option.bind_eq_some_iff] at h
    obtain ⟨⟨off, s, ag⟩, h1, ⟨z, ag2⟩, h5, h2⟩ := h
    simp only at h2
    split at h2
    · rw [Option.map_eq_some_iff] at h2
      obtain ⟨g, hg, rfl⟩ := h2
      exact pur_field _ _ _ (cG_par hg)
    · cases h2
  | indexAddr t x i =>
    simp only [cOp, Option.bind_eq_bind, Option.bind_eq_some_iff] at h
    obtain ⟨g, hg, j, hj, h2⟩ := h
    split at h2
    · simp only [Option.bind_eq_bind, Option.bind_eq_some_iff, Option.pure_def, Option.some.injEq] at h2
      obtain ⟨⟨e1, size, ag⟩, h1, rfl⟩ := h2
      exact pur_IAS _ (cG_par hg) (cG_par hj)
    · simp only [Option.bind_eq_bind, Option.bind_eq_some_iff, Option.pure_def, Option.some.injEq] at h2
      obtain ⟨⟨e1, size, ag⟩, h1, rfl⟩ := h2
      exact pur_IAA _ _ (cG_par hg) (cG_par hj)
    · cases h2
  | index t x i =>
    simp only [cOp, Option.bind_eq_bind, Option.bind_eq_some_iff] at h
    obtain ⟨g, hg, j, hj, h2⟩ := h
    split at h2
    · simp only [Option.pure_def, Option.some.injEq] at h2; subst h2
      exact pur_IxS (cG_par hg) (cG_par hj)
    · simp only [Option.bind_eq_bind, Option.bind_eq_some_iff, Option.pure_def, Option.some.injEq] at h2
      obtain ⟨⟨e1, size, ag⟩, h1, rfl⟩ := h2
      exact pur_IxA _ _ _ (cG_par hg) (cG_par hj)
    · cases h2
  | extract x i =>
    simp only [cOp, Option.map_eq_some_iff] at h
    obtain ⟨g, hg, rfl⟩ := h; exact pur_extract _ (cG_par hg)
  | call x => exact pur_call hp h
  | _ => simp [pureOp] at hp
theorem op_rd {op : Op} (hp : readOp c.P op = true) (h : cOp c d ds n ty op = some F) : RdF F := by
  cases op with
  | load t a =>
    simp only [cOp, Option.bind_eq_bind, Option.bind_eq_some_iff] at h
    obtain ⟨⟨s, ag⟩, h1, g, hg, h2⟩ := h
    simp only at h2
    split at h2
    · simp only [Option.pure_def, Option.some.injEq] at h2; subst h2; exact rd_loadN _ (cG_par hg)
    · split at h2
      · simp only [Option.pure_def, Option.some.injEq] at h2; subst h2; exact rd_load1 (cG_par hg)
      · cases h2
  | lookup t x i ok =>
    simp only [cOp] at h
    split at h
    · simp only [Option.bind_eq_bind, Option.bind_eq_some_iff, Option.pure_def, Option.some.injEq] at h
      obtain ⟨z, hz, kd, hkd, g, hg, j, hj, rfl⟩ := h
      exact rd_look _ _ _ (cG_par hg) (cG_par hj)
    · cases h
  | binOp op t x y u =>
    simp only [cOp, Option.bind_eq_bind, Option.bind_eq_some_iff, Option.pure_def, Option.some.injEq] at h
    obtain ⟨q, hq, g1, hg1, g2, hg2, rfl⟩ := h
    simp only [readOp] at hp
    exact cBin_rd hq hp (cG_par hg1) (cG_par hg2)
  | slice t x lo hi mx =>
    simp only [cOp, Option.bind_eq_bind, Option.bind_eq_some_iff] at h
    obtain ⟨g, hg, gl, hgl, gh, hgh, h2⟩ := h
    simp only [readOp, isSlice] at hp
    split at hp
    case h_2 => cases hp
    rename_i el hu
    rw [hu] at h2
    simp only [Option.bind_eq_bind, Option.bind_eq_some_iff, Option.pure_def, Option.some.injEq] at h2
    obtain ⟨⟨e1, size, ag⟩, h1, gm, hgm, rfl⟩ := h2
    exact rd_slL _ (cG_par hg) (cO_par hgl) (cO_par hgh) (cO_par hgm)
  | _ => simp [readOp] at hp
/-! ### what makes a block -/
noncomputable def nw (y : Bool) (h : Hp) (s : Nat) (t : TypeId) (vs : List Value) (k : KV) : Bool := if y then newY h s t vs k else newV h s t vs k
/-- a new block of cells: old or young, its size, its elements' type -/
structure MkB (P : Program) (c : Ct) (ds : Ds) (n : Nat) (o : Oper) (F : Ab.F) (y : Bool) (s : Nat) (t : TypeId) : Prop where
  fn : ∀ e b, ∃ ov : Option (List Value), (∀ cl h k, F cl e b h k = ov.elim false (fun vs => nw y h s t vs k)) ∧ ∀ vs, ov = some vs → ∀ (m : M) (ρ : Operand → Value), (∀ x ∈ o.op.operands.toList, OpV m e b c ds n ρ x) →
    (∀ v ∈ vs, isCell v = true) ∧ vs.length = s ∧ ∃ vs', VRL m vs vs' ∧ ∀ w, (execOp ρ o).run P w = .ok (.value (.pointer (some ⟨w.heap.size, 0, none⟩))) (w.alloc (.cells vs'.toArray t))
structure MkR (P : Program) (c : Ct) (ds : Ds) (n : Nat) (o : Oper) (F : Ab.F) (s : Nat) (el : TypeId) (z : List Value) : Prop where
  fn : ∀ e b, ∃ ov : Option (Nat × Nat), (∀ cl h k, F cl e b h k = ov.elim false (fun x => h.newC ⟨ztr z x.2, x.2, s, el, none⟩ (fun q h' => k (.slice (some ⟨q, 0, none⟩) x.1 (2 * x.2 + 1)) h'))) ∧
    ∀ x, ov = some x → ∀ (m : M) (ρ : Operand → Value), (∀ x ∈ o.op.operands.toList, OpV m e b c ds n ρ x) → ∃ cs : Array Value, (∀ w, (execOp ρ o).run P w = .ok (.value (.slice (some ⟨w.heap.size, 0, none⟩) x.1 x.2)) (w.alloc (.cells cs el))) ∧ ∀ (m : M) (q : Nat), BlkR m ⟨ztr z x.2, x.2, s, el, none⟩ ⟨q, 0, cs.size, s⟩ (.cells cs el)
theorem made_blk {z : List Value} {s : Nat} {el : TypeId} {v : Value} (hz : z.length = s) (hv : ∀ m, VRL m z z) (hc : ∀ v ∈ z, isCell v = true) (i4 : v.cells.toList = z) (n : Nat) (m : M) (q : Nat) :
    BlkR m ⟨ztr z n, n, s, el, none⟩ ⟨q, 0, (madeCells v.cells (n * s)).size, s⟩ (.cells (madeCells v.cells (n * s)) el) := by
  have hT := made_trie (m := m) hz (hv m) hc i4 n
  refine ⟨_, (0, 0), rfl, Trie.blk (p := ⟨q, 0, (madeCells v.cells (n * s)).size, s⟩) ?_ rfl rfl (by simp [size_madeCells]) rfl ⟨0, by simp⟩⟩
  simpa using hT
theorem mk_row (hC : Cok P c) {o : Oper} {t : TypeId} {l q : Operand} (ho : o.op = .makeSlice t l q) (h : cOp c d ds n ty (.makeSlice t l q) = some F) : ∃ s el z, MkR P c ds n o F s el z := by
  simp only [cOp, Option.bind_eq_bind, Option.bind_eq_some_iff] at h
  obtain ⟨⟨el, size, ag⟩, h1, h2⟩ := h
  obtain ⟨hu, hk, i, i1, i2, i3⟩ := sliceElem_ok hC.ty h1
  simp only at h2
  split at h2
  case isFalse => cases h2
  rename_i hz
  have hz := zOk_ok hC.ty hk hz
  simp only [Option.bind_eq_bind, Option.bind_eq_some_iff, Option.pure_def, Option.some.injEq] at h2
  obtain ⟨g1, hg1, g2, hg2, rfl⟩ := h2
  refine ⟨size, el, zOf c.P el, ⟨fun e b => ?_⟩⟩
  have hq : Par (fun (kk : (Nat × Nat) → Bool) => g1 e b (fun l => g2 e b (fun c => vInt c (fun _ c => iNat c (fun c => bnd 157 c l (fun l => Bool.rec (ff 158) (kk (l, c)) (Nat.ble c 1000000)))) (ff 159)))) := by
    refine par_bind (cG_par hg1 e b) fun lv => par_bind (cG_par hg2 e b) fun cv => ?_
    cases cv with
    | int kd cn =>
      refine par_iNat cn fun cn => ?_
      exact par_bind (par_bnd 157 cn lv) fun ln => par_rec _ par_f (par_val (ln, cn))
    | _ => exact par_f
  obtain ⟨ov, hov⟩ := hq
  refine ⟨ov, fun cl h k => hov (fun x => h.newC ⟨ztr (zOf c.P el) x.2, x.2, size, el, none⟩ (fun q h' => k (.slice (some ⟨q, 0, none⟩) x.1 (2 * x.2 + 1)) h')), fun x hx m ρ hop => ?_⟩
  subst hx
  classical
  have h3 : g1 e b (fun l => g2 e b (fun c => vInt c (fun _ c => iNat c (fun c => bnd 157 c l (fun l => Bool.rec (ff 158) (decide ((l, c) = x)) (Nat.ble c 1000000)))) (ff 159))) = true := (hov (fun y => decide (y = x))).trans (by simp)
  obtain ⟨lv, e1, e2⟩ := hop l (by rw [ho]; simp [Op.operands]) g1 hg1 _ h3
  obtain ⟨cv, e3, e4⟩ := hop q (by rw [ho]; simp [Op.operands]) g2 hg2 _ e2
  rcases vInt_inv e4 with ⟨kc, cn, rfl, f1⟩ | f1
  case inr => exact ffa f1
  obtain ⟨cn, rfl, f1⟩ := iNat_inv f1
  rcases vInt_inv f1 with ⟨kl, ln, rfl, f2⟩ | f2
  case inr => exact ffa f2
  obtain ⟨ln, rfl, f2⟩ := iNat_inv f2
  obtain ⟨f3, f4⟩ := rec_t f2
  have f3 := ble_iff.1 f3
  obtain ⟨f5, f6⟩ := rec_t f4
  have f5 := ble_iff.1 f5
  have hxx : (ln, cn) = x := by simpa using f6
  subst hxx
  generalize hl : ρ l = l' at e1
  generalize hqv : ρ q = q' at e3
  cases e1; cases e3
  obtain ⟨i', v, j1, j2, j3, j4⟩ := hz.info
  rw [i1] at j1; injection j1 with j1; subst j1
  refine ⟨madeCells v.cells (cn * size), fun w => ?_, fun m b => made_blk hz.len hz.vr hz.cell j4 cn m b⟩
  have hbc : i.bytes * cn ≤ 1000000 * 1000000 := Nat.mul_le_mul i3 f5
  have hrun := run_make (P := P) w t el i v hu i1 j3 kl kc (Int.ofNat ln) (Int.ofNat cn) (Int.natCast_nonneg _) (Int.ofNat_le.2 f3)
        (by have : (i.bytes : Int) * Int.ofNat cn = ((i.bytes * cn : Nat) : Int) := by simp
            rw [this]; omega) (by have : Int.ofNat cn = (cn : Int) := rfl
                                  rw [this]; omega)
  have he : execOp ρ o = (do pure (.value (← Instr.makeSlice t (ρ l) (ρ q)))) := by simp [execOp, ho]
  rw [he, hl, hqv]
  have hrun' : (Instr.makeSlice t (.int kl (ln : Int)) (.int kc (cn : Int))).run P w = .ok (.slice (some ⟨w.heap.size, 0, none⟩) ln cn) (w.alloc (.cells (madeCells v.cells (cn * size)) el)) := by
    rw [← i2]; exact hrun
  simp [hrun']
theorem op_mk (hC : Cok P c) {o : Oper} (hp : makeOp o.op = true) (h : cOp c d ds n ty o.op = some F) : ((∃ y s t, MkB P c ds n o F y s t) ∧ (∀ t r, o.op ≠ .makeMap t r) ∧ ∀ t l q, o.op ≠ .makeSlice t l q) ∨ ((∃ s el z, MkR P c ds n o F s el z) ∧ ∃ t l q, o.op = .makeSlice t l q) ∨ ((∃ t, o.op = .makeMap t none) ∧ F = oMap) := by
  have ho : o.op = o.op := rfl
  revert ho hp h
  generalize hop : o.op = op
  intro hp h _
  have ho := hop
  cases op with
  | alloc t =>
    left
    simp only [cOp, Option.bind_eq_bind, Option.bind_eq_some_iff] at h
    obtain ⟨⟨s, ag⟩, h1, h2⟩ := h
    have hk := tkind_ok hC.ty h1
    simp only at h2
    split at h2
    case isFalse => cases h2
    rename_i hz
    have hz := zOk_ok hC.ty hk hz
    obtain ⟨i, v, i1, i2, i3, i4⟩ := hz.info
    refine ⟨⟨isLoc c.loc d, s, t, ⟨fun e b => ⟨some (zOf c.P t), fun cl h k => ?_, fun vs hv m ρ hx => ?_⟩⟩⟩, ⟨fun t r e => (by cases e), fun t l q e => (by cases e)⟩⟩
    · injection h2 with h2; subst h2
      unfold nw
      cases isLoc c.loc d <;> rfl
    · injection hv with hv; subst hv
      refine ⟨hz.cell, hz.len, zOf c.P t, hz.vr m, fun w => ?_⟩
      have he : execOp ρ o = (do pure (.value (← Instr.alloc t true (.tuple #[])))) := by simp [execOp, ho]
      have hcs : v.cells = (zOf c.P t).toArray := Array.ext' (by rw [i4])
      have hr := alloc_run (P := P) i1 i3 w
      rw [he]
      simp [hr, hcs]
  | box t x =>
    left
    simp only [cOp, Option.bind_eq_bind, Option.bind_eq_some_iff, Option.pure_def, Option.some.injEq] at h
    obtain ⟨⟨s, ag⟩, h1, g, hg, h2⟩ := h
    refine ⟨⟨isLoc c.loc d, s, t, ⟨fun e b => ?_⟩⟩, ⟨fun t r e => (by cases e), fun t l q e => (by cases e)⟩⟩
    have hq : Par (fun (k : List Value → Bool) => g e b (fun v => vCells v (fun vs => lenIs 49 s vs (k vs)))) := by
      exact par_bind (cG_par hg e b) fun v => par_bind (par_cells v) fun vs => par_lenIs 49 s vs (par_val vs)
    obtain ⟨ov, hov⟩ := hq
    refine ⟨ov, fun cl h k => ?_, fun vs hv m ρ hx => ?_⟩
    · subst h2
      unfold nw
      cases isLoc c.loc d
      · exact hov (fun vs => newV h s t vs k)
      · exact hov (fun vs => newY h s t vs k)
    · subst hv
      have hx := hx x (by rw [ho]; simp [Op.operands]) g hg
      classical
      have h3 : g e b (fun v => vCells v (fun u => lenIs 49 s u (decide (u = vs)))) = true := (hov (fun u => decide (u = vs))).trans (by simp)
      obtain ⟨v, h4, h5⟩ := hx _ h3
      obtain ⟨l, h6, h7, h8⟩ := cells_rel h4 h5
      obtain ⟨h9, h10⟩ := lenIs_inv h6
      have : l = vs := by simpa using h10
      subst this
      refine ⟨h8, h9, _, h7, fun w => ?_⟩
      have he : execOp ρ o = (do pure (.value (← Instr.box t (ρ x)))) := by simp [execOp, ho]
      have hr := box_run (P := P) (w := w) t (ρ x)
      rw [he]
      simp [hr]
  | makeSlice t l q => exact .inr (.inl ⟨mk_row hC ho h, t, l, q, rfl⟩)
  | makeMap t r =>
    right; right
    simp only [cOp] at h
    cases r with
    | some r => cases h
    | none => injection h with h; subst h; exact ⟨⟨t, rfl⟩, rfl⟩
  | _ => simp [makeOp] at hp
end Go.Ab
end
section
namespace Go.Ab
theorem enum_mem : ∀ (l : List Oper) (k i : Nat) (o : Oper), (i, o) ∈ enum k l ↔ k ≤ i ∧ l[i - k]? = some o
  | [], k, i, o => by simp [enum]
  | p :: l, k, i, o => by
    simp only [enum, List.mem_cons, Prod.mk.injEq, enum_mem l (k + 1) i o]
    constructor
    · rintro (⟨rfl, rfl⟩ | ⟨h1, h2⟩)
      · simp
      · refine ⟨by omega, ?_⟩
        rw [show i - k = (i - (k + 1)) + 1 by omega]; simpa using h2
    · rintro ⟨h1, h2⟩
      by_cases h : i = k
      · subst h; simp at h2; exact .inl ⟨rfl, h2.symm⟩
      · refine .inr ⟨by omega, ?_⟩
        rw [show i - k = (i - (k + 1)) + 1 by omega] at h2; simpa using h2
theorem enum0 {ops : Array Oper} {i : Nat} {o : Oper} : (i, o) ∈ enum 0 ops.toList ↔ ops[i]? = some o := by
  rw [enum_mem]; simp
theorem dirM_fold (l : List Edge) : ∀ (s k : Nat), (l.foldl (fun s e => if Region.binds .any e then s ||| 2 ^ e.on else s) s).testBit k = true ↔ s.testBit k = true ∨ ∃ e ∈ l, Region.binds .any e = true ∧ e.on = k := by
  induction l with
  | nil => intro s k; simp
  | cons e l ih =>
    intro s k
    rw [List.foldl_cons, ih]
    by_cases hb : Region.binds .any e = true
    · simp only [hb, if_true, Nat.testBit_or, Nat.testBit_two_pow, Bool.or_eq_true, decide_eq_true_eq, List.mem_cons]
      constructor
      · rintro ((h | h) | ⟨e', h1, h2, h3⟩)
        · exact .inl h
        · exact .inr ⟨e, .inl rfl, hb, h⟩
        · exact .inr ⟨e', .inr h1, h2, h3⟩
      · rintro (h | ⟨e', rfl | h1, h2, h3⟩)
        · exact .inl (.inl h)
        · exact .inl (.inr h3)
        · exact .inr ⟨e', h1, h2, h3⟩
    · simp only [hb, if_false, List.mem_cons]
      constructor
      · rintro (h | ⟨e', h1, h2, h3⟩)
        · exact .inl h
        · exact .inr ⟨e', .inr h1, h2, h3⟩
      · rintro (h | ⟨e', rfl | h1, h2, h3⟩)
        · exact .inl h
        · exact absurd h2 hb
        · exact .inr ⟨e', h1, h2, h3⟩
theorem dirM_bit (o : Oper) (k : Nat) : (dirM o).testBit k = true ↔ ∃ e ∈ o.after, Region.binds .any e = true ∧ e.on = k := by
  unfold dirM
  rw [dirM_fold]
  simp
/-- what comes before what is in it, is in it -/
def Dn (ops : Array Oper) (S : Nat → Prop) : Prop := ∀ i o, ops[i]? = some o → S i → ∀ k, (dirM o).testBit k = true → S k
theorem closeM_sub {ops : Array Oper} {S : Nat → Prop} (hD : Dn ops S) : ∀ (l : List (Nat × Nat)) (s : Nat), (∀ x ∈ l, ∃ o, ops[x.1]? = some o ∧ x.2 = dirM o) → (∀ k, s.testBit k = true → S k) → ∀ k, (closeM l s).testBit k = true → S k
  | [], s, _, hs, k, hk => hs k hk
  | (i, d) :: l, s, hl, hs, k, hk => by
    refine closeM_sub hD l _ (fun x hx => hl x (by simp [hx])) ?_ k hk
    intro j hj
    split at hj
    · rename_i hi
      rw [Nat.testBit_or, Bool.or_eq_true] at hj
      rcases hj with hj | hj
      · exact hs j hj
      · obtain ⟨o, h1, h2⟩ := hl (i, d) (by simp)
        simp only at h1 h2
        subst h2
        exact hD i o h1 (hs i hi) j hj
    · exact hs j hj
theorem dirs_mem {ops : Array Oper} {x : Nat × Nat} : x ∈ dirs ops ↔ ∃ o, ops[x.1]? = some o ∧ x.2 = dirM o := by
  unfold dirs
  rw [List.mem_map]
  constructor
  · rintro ⟨⟨i, o⟩, h1, rfl⟩; exact ⟨o, enum0.1 h1, rfl⟩
  · rintro ⟨o, h1, h2⟩; exact ⟨(x.1, o), enum0.2 h1, by simp [← h2]⟩
def anc (ops : Array Oper) (o : Oper) : Nat := closeM (dirs ops).reverse (dirM o)
theorem rev_ok {ops : Array Oper} : ∀ x ∈ (dirs ops).reverse, ∃ o, ops[x.1]? = some o ∧ x.2 = dirM o := fun x hx => dirs_mem.1 (List.mem_reverse.1 hx)
theorem anc_sub {ops : Array Oper} {S : Nat → Prop} (hD : Dn ops S) {o : Oper} (h : ∀ k, (dirM o).testBit k = true → S k) {k : Nat} (hk : (anc ops o).testBit k = true) : S k :=
  closeM_sub hD _ _ rev_ok h k hk
theorem restOk_spec {D j : Nat} : ∀ {l : List (Nat × Nat)}, restOk D j l = true → ∀ x ∈ l, D.testBit x.1 = true ∨ ¬ (x.2 &&& D) = x.2 ∨ x.1 = j
  | [], _, x, hx => by simp at hx
  | (i, d) :: l, h, x, hx => by
    simp only [restOk, Bool.and_eq_true, Bool.or_eq_true, Bool.not_eq_true', beq_eq_false_iff_ne, beq_iff_eq] at h
    simp only [List.mem_cons] at hx
    rcases hx with rfl | hx
    · rcases h.1 with (h1 | h1) | h1
      · exact .inl h1
      · exact .inr (.inl h1)
      · exact .inr (.inr h1)
    · exact restOk_spec h.2 x hx
theorem allIn_spec {D : Nat} : ∀ {l : List (Nat × Nat)}, allIn D l = true → ∀ x ∈ l, D.testBit x.1 = true
  | [], _, x, hx => by simp at hx
  | (i, d) :: l, h, x, hx => by
    simp only [allIn, Bool.and_eq_true] at h
    simp only [List.mem_cons] at hx
    rcases hx with rfl | hx
    · exact h.1
    · exact allIn_spec h.2 x hx
theorem and_of_sub {d D : Nat} (h : ∀ k, d.testBit k = true → D.testBit k = true) : d &&& D = d := by
  apply Nat.eq_of_testBit_eq
  intro k
  rw [Nat.testBit_and]
  cases hd : d.testBit k with
  | false => rfl
  | true => rw [h k hd]; rfl
theorem sub_of_and {d D : Nat} (h : d &&& D = d) (k : Nat) (hk : d.testBit k = true) : D.testBit k = true := by
  rw [← h, Nat.testBit_and, Bool.and_eq_true] at hk; exact hk.2
theorem writers_mem {rv : List (Nat × Nat)} : ∀ {l : List (Nat × Oper)} {x : Nat × Nat × Nat}, x ∈ writers rv l ↔ ∃ o, (x.2.1, o) ∈ l ∧ o.dst = some x.1 ∧ x.2.2 = closeM rv (dirM o)
  | [], x => by simp [writers]
  | (i, o) :: l, x => by
    unfold writers
    split
    · rename_i d hd
      rw [List.mem_cons, writers_mem (l := l)]
      constructor
      · rintro (rfl | ⟨p, h1, h2⟩)
        · exact ⟨o, by simp, hd, rfl⟩
        · exact ⟨p, by simp [h1], h2⟩
      · rintro ⟨p, h1, h2, h3⟩
        simp only [List.mem_cons, Prod.mk.injEq] at h1
        rcases h1 with ⟨h1, rfl⟩ | h1
        · left
          rw [hd] at h2; injection h2 with h2
          obtain ⟨x1, x2, x3⟩ := x
          simp only at h1 h2 h3
          simp [h1, h2, h3]
        · exact .inr ⟨p, h1, h2, h3⟩
    · rename_i hd
      rw [writers_mem (l := l)]
      constructor
      · rintro ⟨p, h1, h2⟩; exact ⟨p, by simp [h1], h2⟩
      · rintro ⟨p, h1, h2, h3⟩
        simp only [List.mem_cons, Prod.mk.injEq] at h1
        rcases h1 with ⟨h1, rfl⟩ | h1
        · rw [hd] at h2; cases h2
        · exact ⟨p, h1, h2, h3⟩
theorem onceW_spec : ∀ {ws : List (Nat × Nat × Nat)}, onceW ws = true → ∀ x ∈ ws, ∀ y ∈ ws, x.1 = y.1 → x.2.1 = y.2.1
  | [], _, x, hx => by simp at hx
  | (d, j, B) :: l, h, x, hx => by
    simp only [onceW, Bool.and_eq_true, List.all_eq_true, Bool.not_eq_true', beq_eq_false_iff_ne] at h
    intro y hy e
    simp only [List.mem_cons] at hx hy
    rcases hx with rfl | hx <;> rcases hy with rfl | hy
    · rfl
    · exact absurd e.symm (h.1 y hy)
    · exact absurd e (h.1 x hx)
    · exact onceW_spec h.2 x hx y hy e
theorem apartW_spec {i A t : Nat} : ∀ {ws : List (Nat × Nat × Nat)}, apartW i A t ws = true → ∀ x ∈ ws, x.1 = t → A.testBit x.2.1 = true ∨ x.2.2.testBit i = true
  | [], _, x, hx => by simp at hx
  | (d, j, B) :: l, h, x, hx => by
    simp only [apartW, Bool.and_eq_true, Bool.or_eq_true, Bool.not_eq_true', beq_eq_false_iff_ne] at h
    intro e
    simp only [List.mem_cons] at hx
    rcases hx with rfl | hx
    · rcases h.1 with (h1 | h1) | h1
      · exact absurd e h1
      · exact .inl h1
      · exact .inr h1
    · exact apartW_spec h.2 x hx e
theorem ckOk_spec {A D : Nat} {ts : List Nat} : ∀ {ws : List (Nat × Nat × Nat)}, ckOk A D ts ws = true → ∀ x ∈ ws, x.1 ∈ ts → D.testBit x.2.1 = true → A.testBit x.2.1 = true
  | [], _, x, hx => by simp at hx
  | (d, j, B) :: l, h, x, hx => by
    simp only [ckOk, Bool.and_eq_true, Bool.or_eq_true, Bool.not_eq_true', List.contains_iff_mem] at h
    intro e f
    simp only [List.mem_cons] at hx
    rcases hx with rfl | hx
    · rcases h.1 with (h1 | h1) | h1
      · exfalso
        have : ts.contains d = true := by simpa using e
        rw [this] at h1; cases h1
      · simp only at f; rw [f] at h1; cases h1
      · exact h1
    · exact ckOk_spec h.2 x hx e f
/-- what is known of a region that draws -/
structure DrawF (P : Ty) (ops : Array Oper) : Prop where
  once : ∀ (i j : Nat) (o p : Oper) (d : Nat), ops[i]? = some o → ops[j]? = some p → o.dst = some d → p.dst = some d → i = j
  low : ∀ (i : Nat) (o : Oper) (k : Nat), ops[i]? = some o → (dirM o).testBit k = true → k < i
  apart : ∀ (i : Nat) (o : Oper) (t j : Nat) (p : Oper), ops[i]? = some o → t ∈ looksT ops o → ops[j]? = some p → p.dst = some t → (anc ops o).testBit j = true ∨ (anc ops p).testBit i = true
def wsOf (ops : Array Oper) : List (Nat × Nat × Nat) := writers (dirs ops).reverse (enum 0 ops.toList)
theorem ws_mem {ops : Array Oper} {j : Nat} {p : Oper} {d : Nat} (h1 : ops[j]? = some p) (h2 : p.dst = some d) : (d, j, anc ops p) ∈ wsOf ops := writers_mem.2 ⟨p, enum0.2 h1, h2, rfl⟩
theorem drawOk_spec {P : Ty} {ops : Array Oper} (h : drawOk P ops = true) : DrawF P ops ∧ chk P ops (dirs ops) (dirs ops).reverse (wsOf ops) (mkPlan P ops) 0 0 0 0 = true := by
  unfold drawOk at h
  simp only [Bool.and_eq_true, List.all_eq_true] at h
  obtain ⟨⟨⟨h1, h2⟩, h3⟩, h4⟩ := h
  refine ⟨⟨?_, ?_, ?_⟩, h4⟩
  · intro i j o p d a1 a2 a3 a4
    exact onceW_spec h1 (d, i, anc ops o) (ws_mem a1 a3) (d, j, anc ops p) (ws_mem a2 a4) rfl
  · intro i o k a1 a2
    have := h2 (i, o) (enum0.2 a1)
    have hlt : dirM o < 2 ^ i := by simpa [Nat.blt_eq] using this
    by_cases hk : k < i
    · exact hk
    · exfalso
      have : (dirM o).testBit k = false := Nat.testBit_lt_two_pow (Nat.lt_of_lt_of_le hlt (Nat.pow_le_pow_right (by omega) (by omega)))
      rw [this] at a2; cases a2
  · intro i o t j p a1 a2 a3 a4
    have := h3 (i, o) (enum0.2 a1) t a2
    exact apartW_spec this (t, j, anc ops p) (ws_mem a3 a4) rfl
end Go.Ab
end
section
namespace Go.Ab
variable {X : Cx} {m m' : M} {h h' : Hp} {w w' : World}
/-! ### blocks made ahead -/
theorem Sim.fill (hs : Sim X m h w) {b : Nat} {p : Pl} {o : Obj} (hm : m b = none) (hl : h.live b) (hp : p.b = w.heap.size) (hlr : LR X (m.put b p) h b p o) :
    Sim X (m.put b p) h (w.alloc o) ∧ ∀ m0 h0 w0, Tn m0 h0 w0 m h w → h0.fresh b → Tn m0 h0 w0 (m.put b p) h (w.alloc o) := by
  have hle : m.le (m.put b p) := M.le_put hm
  have old : ∀ b' p', (m.put b p) b' = some p' → b' ≠ b → m b' = some p' := fun b' p' h1 h2 => by rw [M.put_other m p h2] at h1; exact h1
  refine ⟨⟨hs.wf, ?_, ?_, ?_, ?_, hs.stat.step (w' := w.alloc o) ⟨rfl, rfl⟩ (by simp) fun r hr hu => ⟨by rw [alloc_heap, if_neg (by omega)], fun b' p' hb => by
      by_cases e : b' = b
      · subst e; rw [M.put_same] at hb; injection hb with hb; subst hb; omega
      · exact hu b' p' (old b' p' hb e)⟩⟩, ?_⟩
  · intro b' p' hb hl'
    by_cases e : b' = b
    · subst e
      rw [M.put_same] at hb; injection hb with hb; subst hb
      exact ⟨o, by rw [alloc_heap, hp]; simp, hlr⟩
    · have hb := old b' p' hb e
      obtain ⟨o', h1, h2, h3⟩ := hs.rel b' p' hb hl'
      have := hs.bound b' p' hb
      exact ⟨o', by rw [alloc_heap, if_neg (by omega)]; exact h1, fun c hc => (h2 c hc).mono hle, fun x hx => ⟨(h3 x hx).1.mono hle, (h3 x hx).2⟩⟩
  · intro b1 b2 p1 p2 l1 l2 e1 e2 e
    by_cases c1 : b1 = b <;> by_cases c2 : b2 = b
    · rw [c1, c2]
    · exfalso
      have := hs.bound b2 p2 (old b2 p2 e2 c2)
      subst c1; rw [M.put_same] at e1; injection e1 with e1; subst e1; omega
    · exfalso
      have := hs.bound b1 p1 (old b1 p1 e1 c1)
      subst c2; rw [M.put_same] at e2; injection e2 with e2; subst e2; omega
    · exact hs.inj b1 b2 p1 p2 l1 l2 (old _ _ e1 c1) (old _ _ e2 c2) e
  · intro b' hf
    have : b' ≠ b := fun e => by subst e; exact hs.wf.blk_not_fresh hl hf
    rw [M.put_other m p this]; exact hs.fresh b' hf
  · intro b' p' hb
    have hsz : (w.alloc o).heap.size = w.heap.size + 1 := by simp
    rw [hsz]
    by_cases e : b' = b
    · subst e; rw [M.put_same] at hb; injection hb with hb; subst hb; omega
    · have := hs.bound b' p' (old b' p' hb e); omega
  · intro m0 h0 w0 t hf
    refine ⟨t.sub.trans hle, ?_, ?_, ?_, t.fresh⟩
    · intro b' p' hb
      by_cases e : b' = b
      · subst e; exact .inr hf
      · exact t.new b' p' (old b' p' hb e)
    · intro r hr hu
      obtain ⟨h1, h2⟩ := t.old r hr hu
      have := t.size
      refine ⟨by rw [alloc_heap, if_neg (by omega)]; exact h1, fun b' p' hb => ?_⟩
      by_cases e : b' = b
      · subst e; rw [M.put_same] at hb; injection hb with hb; subst hb; omega
      · exact h2 b' p' (old b' p' hb e)
    · have hsz : (w.alloc o).heap.size = w.heap.size + 1 := by simp
      have := t.size
      omega
theorem Sim.more (hs : Sim X m h w) (hwf : h'.wf) (hb : ∀ b, h.live b → h'.blk b = h.blk b ∧ h'.oat b = h.oat b) (hn : ∀ b, h'.live b → h.live b ∨ h.fresh b) (hf : ∀ b, h'.fresh b → h.fresh b) : Sim X m h' w ∧ Tn m h w m h' w := by
  have lv : ∀ b p, m b = some p → h'.live b → h.live b := fun b p hm hl => by
    rcases hn b hl with h1 | h1
    · exact h1
    · rw [hs.fresh b h1] at hm; cases hm
  refine ⟨⟨hwf, ?_, ?_, fun b h1 => hs.fresh b (hf b h1), hs.bound, hs.stat⟩, ⟨M.le.refl m, fun b p h1 => .inl h1, fun r hr hu => ⟨rfl, hu⟩, Nat.le_refl _, hf⟩⟩
  · intro b p hm hl
    have hl := lv b p hm hl
    obtain ⟨o, h1, h2, h3⟩ := hs.rel b p hm hl
    obtain ⟨e1, e2⟩ := hb b hl
    exact ⟨o, h1, fun c hc => h2 c (by rw [← e1]; exact hc), fun x hx => h3 x (by rw [← e2]; exact hx)⟩
  · intro b1 b2 p1 p2 l1 l2 e1 e2 e
    exact hs.inj b1 b2 p1 p2 (lv _ _ e1 l1) (lv _ _ e2 l2) e1 e2 e
theorem cells_eq (h : Hp) (b : Nat) (k : CB → Bool) (ky : Nat → List Value → TypeId → Bool) : h.cells b k ky = if yb ≤ b then Yl.at b ky h.y else (h.t.at b).elim false k := by
  unfold Hp.cells
  cases hb : Nat.ble yb b with
  | true => rw [if_pos (ble_iff.1 hb)]
  | false =>
    have := ble_f.1 hb
    rw [if_neg (by omega)]
    show h.t.get (pth b) k = _
    rw [Tr.get_eq, Tr.at]
theorem obj_eq (h : Hp) (b : Nat) (k : AObj → Bool) : h.obj b k = (h.oat b).elim false k := by
  unfold Hp.obj Hp.oat
  rw [natmod, natdiv]
  cases hb : Nat.beq (b / ob) 1 with
  | true =>
    rw [if_pos (beq_iff.1 hb)]
    show h.o.get (pth (b % ob)) k = _
    rw [Tr.get_eq, Tr.at]
  | false => rw [if_neg (beq_f.1 hb)]; rfl
/-- one more block -/
structure Grows (h h' : Hp) (q : Nat) : Prop where
  fresh : h.fresh q
  wf : h.wf → h'.wf
  blk : ∀ b, b ≠ q → h'.blk b = h.blk b
  oat : ∀ b, b ≠ q → h'.oat b = h.oat b
  fr : ∀ b, h'.fresh b → h.fresh b
  ext : h.wf → HExt h h'
theorem Grows.sim {q : Nat} (g : Grows h h' q) (hs : Sim X m h w) : Sim X m h' w ∧ Tn m h w m h' w := by
  have ne : ∀ b, h.live b → b ≠ q := fun b hl e => hs.wf.blk_not_fresh hl (e ▸ g.fresh)
  refine hs.more (g.wf hs.wf) (fun b hl => ⟨g.blk b (ne b hl), g.oat b (ne b hl)⟩) (fun b hl => ?_) g.fr
  by_cases e : b = q
  · exact .inr (e ▸ g.fresh)
  · left; unfold Hp.live at hl ⊢; rw [← g.blk b e, ← g.oat b e]; exact hl
theorem grows_B (hw : h.wf) (hn : h.nt ≤ 1000000000) (c : CB) : Grows h (h.addB c) h.nt := by
  have e1 := yb_eq
  have e2 := ob_eq
  have hnt := hw.nt
  refine ⟨.inl ⟨by omega, Nat.le_refl _⟩, fun hw => hw.addB hn c, fun b hb => by rw [Hp.blk_addB hw]; simp [hb], fun b hb => rfl, ?_, fun hw => ⟨fun b hb k ky => ?_, fun b hb k => rfl⟩⟩
  · intro b hb
    rcases hb with ⟨h1, h2⟩ | h1 | h1
    · have h2 : h.nt + 1 ≤ b := h2
      exact .inl ⟨h1, by omega⟩
    · exact .inr (.inl h1)
    · exact .inr (.inr h1)
  · rw [cells_eq, cells_eq]
    split
    · rfl
    · rename_i hlt
      have : b ≠ h.nt := by
        intro e
        have hf : h.fresh b := .inl ⟨by omega, by omega⟩
        exact hb (blk_of_fresh hw hf).1
      show ((h.t.set h.nt (some c)).at b).elim false k = _
      rw [Tr.at_set, if_neg this]
theorem grows_Y (hw : h.wf) (s : Nat) (vs : List Value) (e : TypeId) : Grows h (h.addY s vs e) h.ny := by
  have e1 := yb_eq
  have hny := hw.ny
  have hf : h.fresh h.ny := .inr (.inr ⟨hny, Nat.le_refl _⟩)
  refine ⟨hf, fun hw => hw.addY s vs e, fun b hb => by rw [Hp.blk_addY hw]; simp [hb], fun b hb => rfl, ?_, fun hw => ⟨fun b hb k ky => ?_, fun b hb k => rfl⟩⟩
  · intro b hb
    rcases hb with h1 | h1 | ⟨h1, h2⟩
    · exact .inl h1
    · exact .inr (.inl h1)
    · have h2 : h.ny + 1 ≤ b := h2
      exact .inr (.inr ⟨h1, by omega⟩)
  · have hne : b ≠ h.ny := fun e => hb (by rw [e]; exact (blk_of_fresh hw hf).1)
    rw [cells_eq, cells_eq]
    split
    · show (Bool.rec (Yl.at b ky h.y) (ky s vs e) (Nat.beq h.ny b) : Bool) = _
      rw [beq_f.2 (Ne.symm hne)]
    · rfl
theorem grows_O (hw : h.wf) (hn : h.no ≤ 1000000000) (x : AObj) : Grows h (h.addO x) (ob + h.no) := by
  have e1 := yb_eq
  have e2 := ob_eq
  have hf : h.fresh (ob + h.no) := .inr (.inl ⟨by omega, by omega, Nat.le_refl _⟩)
  refine ⟨hf, fun hw => hw.addO hn x, fun b hb => rfl, fun b hb => by rw [Hp.oat_addO hn]; simp [hb], ?_, fun hw => ⟨fun b hb k ky => rfl, fun b hb k => ?_⟩⟩
  · intro b hb
    rcases hb with h1 | ⟨h1, h2, h3⟩ | h1
    · exact .inl h1
    · have h3 : ob + (h.no + 1) ≤ b := h3
      exact .inr (.inl ⟨h1, h2, by omega⟩)
    · exact .inr (.inr h1)
  · have hne : b ≠ ob + h.no := fun e => hb (by rw [e]; exact (blk_of_fresh hw hf).2)
    rw [obj_eq, obj_eq, Hp.oat_addO hn, if_neg hne]
theorem nw_inv (hw : h.wf) {y : Bool} {s : Nat} {t : TypeId} {vs : List Value} {k : KV} (hh : nw y h s t vs k = true) : ∃ q h', Grows h h' q ∧ h'.blk q = some (one vs s t) ∧ k (.pointer (some ⟨q, 0, none⟩)) h' = true := by
  unfold nw at hh
  split at hh
  · have h2 := Hp.newY_inv hh
    exact ⟨_, _, grows_Y hw s vs t, by rw [Hp.blk_addY hw]; simp, h2⟩
  · obtain ⟨h1, h2⟩ := Hp.newC_inv hh
    exact ⟨_, _, grows_B hw h1 _, by rw [Hp.blk_addB hw]; simp, h2⟩
theorem oMap_inv (hw : h.wf) {cl : Cl} {e : E} {b : Bd} {k : KV} (hh : oMap cl e b h k = true) : ∃ q h', Grows h h' q ∧ h'.oat q = some (.amap [] 0) ∧ k (.map (some q)) h' = true := by
  obtain ⟨h1, h2⟩ := Hp.newO_inv (k := fun n h' => k (.map (some n)) h') hh
  exact ⟨_, _, grows_O hw h1 _, by rw [Hp.oat_addO h1]; simp, h2⟩
end Go.Ab
end
section
namespace Go.Ab
variable {X : Cx} {m m' : M} {h h' : Hp} {w w' : World}
variable {e : E} {b : Bd} {c : Ct} {ds : Ds} {n : Nat} {ops : Array Oper} {o : Oper}
/-! ### operands, by what they stand for -/
def DV (m : M) (e : E) (b : Bd) (n : Nat) (al : Al) (v' : Value) : Prop := ∀ v, den e b n al = some v → VR m v v'
theorem DV.mono {m m' : M} (hm : m.le m') {al : Al} {v' : Value} (h : DV m e b n al v') : DV m' e b n al v' := fun v hv => (h v hv).mono hm
theorem GV_den {al : Al} {v' : Value} : GV m e b (alG n al) v' ↔ DV m e b n al v' := by
  constructor
  · intro h v hv
    classical
    obtain ⟨u, h1, h2⟩ := h (fun u => decide (u = v)) (by rw [alG_den, hv]; simp)
    have : u = v := by simpa using h2
    exact this ▸ h1
  · intro h k hk
    rw [alG_den] at hk
    cases hd : den e b n al with
    | none => rw [hd] at hk; cases hk
    | some v => rw [hd] at hk; exact ⟨v, h v hd, hk⟩
theorem den_cons {al : Al} (hl : ∀ l, al = .lv l → l < n) (v : Value) : den e (.cons v b) (n + 1) al = den e b n al := by
  cases al with
  | lv l =>
    have := hl l rfl
    show nthBd (n + 1 - 1 - l) (.cons v b) = nthBd (n - 1 - l) b
    rw [show n + 1 - 1 - l = (n - 1 - l) + 1 by omega]; rfl
  | sl s => rfl
  | cv v => rfl
theorem den_top (v : Value) : den e (.cons v b) (n + 1) (.lv n) = some v := by
  show nthBd (n + 1 - 1 - n) (.cons v b) = some v
  rw [show n + 1 - 1 - n = 0 by omega]; rfl
/-- the temporaries that an operation looks at -/
def RegV (m : M) (e : E) (b : Bd) (c : Ct) (ds : Ds) (n : Nat) (ops : Array Oper) (o : Oper) (tmps : Array Value) : Prop := ∀ t ∈ looksT ops o, ∀ al, cT c ds t = some al → DV m e b n al (tmps.getD t undef)
theorem looks_op {t : Nat} (h : .tmp t ∈ o.op.operands.toList) : t ∈ looksT ops o := by
  unfold looksT
  exact List.mem_append_left _ (List.mem_filterMap.2 ⟨.tmp t, h, rfl⟩)
theorem looks_guard {j d : Nat} {want : Bool} {p : Oper} (hg : o.guard = some (j, want)) (hp : ops[j]? = some p) (hd : p.dst = some d) : d ∈ looksT ops o := by
  unfold looksT
  refine List.mem_append_right _ ?_
  simp [hg, hp, hd]
theorem RegV.opV {a : Act} (hr : RegV m e b c ds n ops o a.tmps) (hg : GM m c.ng) (x : Operand) (hx : x ∈ o.op.operands.toList) : OpV m e b c ds n a.eval x := by
  intro g hgx
  unfold cG at hgx
  rw [Option.map_eq_some_iff] at hgx
  obtain ⟨al, h1, rfl⟩ := hgx
  cases x with
  | tmp t => exact GV_den.2 (hr t (looks_op hx) al h1)
  | const v =>
    simp only [cA] at h1
    split at h1
    · rename_i hp
      injection h1 with h1; subst h1
      intro k hk
      exact ⟨v, VR.plainV hp, hk⟩
    · cases h1
  | global q =>
    simp only [cA] at h1
    split at h1
    · rename_i hp
      injection h1 with h1; subst h1
      obtain ⟨p, h2, h3, h4⟩ := hg q hp
      intro k hk
      exact ⟨_, .ptr (a' := ⟨q, 0, none⟩) ⟨rfl, p, h2, by rw [h3, h4]; simp⟩, hk⟩
    · cases h1
  | func q =>
    simp only [cA] at h1
    injection h1 with h1; subst h1
    intro k hk
    exact ⟨_, .func .nil .nil, hk⟩
/-- what a guard says -/
inductive AW (c : Ct) (ds : Ds) (n : Nat) (e : E) (b : Bd) (o : Oper) : Bool → Prop
  | nog (h : o.guard = none) : AW c ds n e b o true
  | grd {j : Nat} {want : Bool} {p : Oper} {d : Nat} {al : Al} {vg : Value} {res : Bool} (hg : o.guard = some (j, want)) (hp : c.all[j]? = some p) (hd : p.dst = some d) (hal : cT c ds d = some al) (hv : den e b n al = some vg)
      (hr : (∃ t, vg = .bool t ∧ res = (t == want)) ∨ ((∀ t, vg ≠ .bool t) ∧ res = false)) : AW c ds n e b o res
theorem AW.of_guard {j : Nat} {want : Bool} {x : G} (hg : o.guard = some (j, want)) (hx : guardG c ds n j = some x) {T U : Bool}
    (hh : x e b (fun v => vBool v (fun t => Bool.rec U T (Bool.rec (bnot want) want t)) U) = true) : (AW c ds n e b o true ∧ T = true) ∨ (AW c ds n e b o false ∧ U = true) := by
  unfold guardG at hx
  split at hx
  case h_2 => cases hx
  rename_i p hp
  split at hx
  case h_2 => cases hx
  rename_i d hd
  rw [Option.map_eq_some_iff] at hx
  obtain ⟨al, h1, rfl⟩ := hx
  rw [alG_den] at hh
  cases hv : den e b n al with
  | none => rw [hv] at hh; cases hh
  | some vg =>
    rw [hv] at hh
    have hh : vBool vg (fun t => Bool.rec U T (Bool.rec (bnot want) want t)) U = true := hh
    by_cases hb : ∃ t, vg = .bool t
    · obtain ⟨t, rfl⟩ := hb
      have hh : (Bool.rec U T (Bool.rec (bnot want) want t) : Bool) = true := hh
      rw [want_rec] at hh
      rcases rec_inv hh with ⟨h4, h5⟩ | ⟨h4, h5⟩
      · exact .inr ⟨.grd hg hp hd h1 hv (.inl ⟨t, rfl, h4.symm⟩), h5⟩
      · exact .inl ⟨.grd hg hp hd h1 hv (.inl ⟨t, rfl, h4.symm⟩), h5⟩
    · have hnb : ∀ t, vg ≠ .bool t := fun t ht => hb ⟨t, ht⟩
      rcases vBool_inv hh with ⟨t, ht, _⟩ | h4
      · exact absurd ht (hnb t)
      · exact .inr ⟨.grd hg hp hd h1 hv (.inr ⟨hnb, rfl⟩), h4⟩
theorem AW.eval {cl : Cl} {F : F} {k : KV} (hh : (@Option.rec Ab.F (fun _ => Ab.F) oFail (fun f => f) (cGuard c ds n o F)) cl e b h k = true) :
    (AW c ds n e b o true ∧ F cl e b h k = true) ∨ (AW c ds n e b o false ∧ k top h = true) := by
  cases hgd : o.guard with
  | none =>
    have : cGuard c ds n o F = some F := by unfold cGuard; rw [hgd]
    rw [this] at hh
    exact .inl ⟨.nog hgd, hh⟩
  | some jw =>
    obtain ⟨j, want⟩ := jw
    have hcg : cGuard c ds n o F = (guardG c ds n j).map fun x => oGuard x want F := by unfold cGuard; rw [hgd]
    rw [hcg] at hh
    cases hg : guardG c ds n j with
    | none => rw [hg] at hh; exact ffa hh
    | some x =>
      rw [hg] at hh
      exact AW.of_guard hgd hg hh
theorem AW.ck {cl : Cl} {f : Cl → E → Bd → Hp → Bool} {f' : Cl → E → Bd → Hp → Bool} (hc : cCkG c ds n o f = some f') (hh : f' cl e b h = true) :
    (AW c ds n e b o true ∧ f cl e b h = true) ∨ AW c ds n e b o false := by
  unfold cCkG at hc
  cases hgd : o.guard with
  | none => rw [hgd] at hc; injection hc with hc; subst hc; exact .inl ⟨.nog hgd, hh⟩
  | some jw =>
    obtain ⟨j, want⟩ := jw
    rw [hgd] at hc
    simp only [Option.map_eq_some_iff] at hc
    obtain ⟨x, hx, rfl⟩ := hc
    rcases AW.of_guard (T := f cl e b h) (U := true) hgd hx hh with h1 | h1
    · exact .inl h1
    · exact .inr h1.1
theorem AW.wanted {res : Bool} (ha : AW c ds n e b o res) (hall : c.all = ops) {a : Act} (hr : RegV m e b c ds n ops o a.tmps) : Region.wanted o (yielded ops a.tmps) = res := by
  cases ha with
  | nog hg => simp [Region.wanted, hg]
  | grd hg hp hd hal hv hres =>
    rw [hall] at hp
    have h2 := hr _ (looks_guard hg hp hd) _ hal _ hv
    obtain ⟨w1, w2⟩ := wanted_bool (a := a) hg hp hd
    rcases hres with ⟨t, rfl, rfl⟩ | ⟨hnb, rfl⟩
    · cases hq : a.tmps.getD _ undef with
      | bool u =>
        rw [hq] at h2
        cases h2
        exact w1 _ hq
      | _ => rw [hq] at h2; cases h2
    · exact w2 (h2.notBool hnb)
theorem AW.det {ds2 : Ds} {n2 : Nat} {b2 : Bd} {res res2 : Bool} (ha : AW c ds n e b o res) (ha2 : AW c ds2 n2 e b2 o res2) (hall : c.all = ops)
    (hl : ∀ t ∈ looksT ops o, ∀ al al2, cT c ds t = some al → cT c ds2 t = some al2 → den e b n al = den e b2 n2 al2) : res = res2 := by
  cases ha with
  | nog hg =>
    cases ha2 with
    | nog _ => rfl
    | grd hg2 _ _ _ _ _ => rw [hg] at hg2; cases hg2
  | grd hg hp hd hal hv hres =>
    cases ha2 with
    | nog hg2 => rw [hg] at hg2; cases hg2
    | grd hg2 hp2 hd2 hal2 hv2 hres2 =>
      rw [hg] at hg2; injection hg2 with hg2; injection hg2 with e1 e2; subst e1; subst e2
      rw [hp] at hp2; injection hp2 with hp2; subst hp2
      rw [hd] at hd2; injection hd2 with hd2; subst hd2
      have := hl _ (looks_guard hg (by rw [← hall]; exact hp) hd) _ _ hal hal2
      rw [hv, hv2] at this; injection this with this; subst this
      rcases hres with ⟨t, rfl, rfl⟩ | ⟨hnb, rfl⟩ <;> rcases hres2 with ⟨t2, ht2, rfl⟩ | ⟨hnb2, rfl⟩
      · injection ht2 with ht2; subst ht2; rfl
      · exact absurd rfl (hnb2 _)
      · exact absurd ht2 (hnb _)
      · rfl
/-! ### what is planned and not yet done -/
/-- where its operands stood when it was planned -/
structure RB (c : Ct) (ops : Array Oper) (e : E) (b : Bd) (n : Nat) (A : Nat → Al) (o : Oper) (ds1 : Ds) (n1 : Nat) (b1 : Bd) : Prop where
  le : n1 ≤ n
  link : ∀ al, (∀ l, al = .lv l → l < n1) → den e b n al = den e b1 n1 al
  look : ∀ t ∈ looksT ops o, ∀ al, cT c ds1 t = some al → (∀ l, al = .lv l → l < n1) ∧ ((∃ j p, ops[j]? = some p ∧ p.dst = some t ∧ (anc ops o).testBit j = true ∧ A j = al) ∨ ((∀ j p, ops[j]? = some p → p.dst = some t → (anc ops o).testBit j = false) ∧ ∃ s, slot c.esc t = some s ∧ al = .sl s))
inductive Kd (P : Program) (c : Ct) (e : E) (h0 : Hp) (al : Al) (val : Option Value) (o : Oper) (ds1 : Ds) (n1 : Nat) (b1 : Bd) (h : Hp) (mk : Option Nat) : Bool → Prop
  | moved {st : Bool} {x : Operand} (hm : moved o = some x) (ha : cA c ds1 x = some al) (hl : ∀ l, al = .lv l → l < n1) (hk : mk = none) : Kd P c e h0 al val o ds1 n1 b1 h mk st
  | no {st : Bool} (ha : AW c ds1 n1 e b1 o false) (hv : val = some top) (hk : mk = none) : Kd P c e h0 al val o ds1 n1 b1 h mk st
  | pur {st : Bool} {F : F} {v : Value} (ha : AW c ds1 n1 e b1 o true) (hc : cOp c o.dst ds1 n1 o.type o.op = some F) (hF : ∀ cl h k, F cl e b1 h k = k v h) (hv : val = some v) (hk : mk = none) : Kd P c e h0 al val o ds1 n1 b1 h mk st
  | rd {st : Bool} {v : Value} (ha : AW c ds1 n1 e b1 o true) (hr : readOp c.P o.op = true) (hv : val = some v) (hk : mk = none)
      (hc : st = true → ∃ F, cOp c o.dst ds1 n1 o.type o.op = some F ∧ RdF F ∧ ∀ cl k, F cl e b1 h k = k v h) : Kd P c e h0 al val o ds1 n1 b1 h mk st
  | mkB {st : Bool} {q : Nat} (ha : AW c ds1 n1 e b1 o true) (hm : makeOp o.op = true) (hn : (∀ t r, o.op ≠ .makeMap t r) ∧ ∀ t l q, o.op ≠ .makeSlice t l q) (hv : val = some (.pointer (some ⟨q, 0, none⟩))) (hk : mk = some q) (hf : h0.fresh q)
      (hc : st = true → ∃ s t vs, h.blk q = some (one vs s t) ∧ ∀ (m : M) (ρ : Operand → Value), (∀ x ∈ o.op.operands.toList, OpV m e b1 c ds1 n1 ρ x) →
        (∀ v ∈ vs, isCell v = true) ∧ vs.length = s ∧ ∃ vs', VRL m vs vs' ∧ ∀ w, (execOp ρ o).run P w = .ok (.value (.pointer (some ⟨w.heap.size, 0, none⟩))) (w.alloc (.cells vs'.toArray t))) : Kd P c e h0 al val o ds1 n1 b1 h mk st
  | mkR {st : Bool} {q : Nat} {ln cn : Nat} (ha : AW c ds1 n1 e b1 o true) (hm : ∃ t l r, o.op = .makeSlice t l r) (hv : val = some (.slice (some ⟨q, 0, none⟩) ln (2 * cn + 1))) (hk : mk = some q) (hf : h0.fresh q)
      (hc : st = true → ∃ cb s el, h.blk q = some cb ∧ ∀ (m : M) (ρ : Operand → Value), (∀ x ∈ o.op.operands.toList, OpV m e b1 c ds1 n1 ρ x) →
        ∃ cs : Array Value, (∀ w, (execOp ρ o).run P w = .ok (.value (.slice (some ⟨w.heap.size, 0, none⟩) ln cn)) (w.alloc (.cells cs el))) ∧ ∀ (m : M) (q : Nat), BlkR m cb ⟨q, 0, cs.size, s⟩ (.cells cs el)) : Kd P c e h0 al val o ds1 n1 b1 h mk st
  | mkM {st : Bool} {q : Nat} {t : TypeId} (ha : AW c ds1 n1 e b1 o true) (hm : o.op = .makeMap t none) (hv : val = some (.map (some q))) (hk : mk = some q) (hf : h0.fresh q)
      (hc : st = true → h.oat q = some (.amap [] 0)) : Kd P c e h0 al val o ds1 n1 b1 h mk st
/-- what is asked of a step that is no call -/
def Step (X : Cx) (m0 : M) (h0 : Hp) (w0 : World) (h : Hp) (m : M) (mk : Option Nat) (m' : M) (w' : World) : Prop :=
  Sim X m' h w' ∧ Tn m0 h0 w0 m' h w' ∧ m.le m' ∧ ∀ q p, m' q = some p → m q = some p ∨ mk = some q
theorem kd_in (hC : Cok X.P c) {cl : Cl} (hcl : SoundCl X c.ng cl) (hall : c.all = ops) {i : Nat} (hi : ops[i]? = some o) {m0 : M} {h0 : Hp} {w0 : World} {A : Nat → Al} {ds1 : Ds} {n1 : Nat} {b1 : Bd} {mk : Option Nat}
    (hb : RB c ops e b n A o ds1 n1 b1) (hk : Kd X.P c e h0 (A i) (den e b n (A i)) o ds1 n1 b1 h mk true) (hs : Sim X m h w) (ht : Tn m0 h0 w0 m h w) (hg : GM m c.ng) {a : Act} (hr : RegV m e b1 c ds1 n1 ops o a.tmps) (hmk : ∀ q, mk = some q → m q = none)
    {r : Option Nat} {Q : Exit → Act → World → Prop} {K : Act → World → Prop} (hK : ∀ m' v' w', Step X m0 h0 w0 h m mk m' w' → DV m' e b n (A i) v' → K (a.put o.dst v') w') : wpOpIn (wideAt r) 0 X.P ops Q i K a w := by
  have stay : Step X m0 h0 w0 h m mk m w := ⟨hs, ht, M.le.refl m, fun q p hq => .inl hq⟩
  cases hk with
  | moved hm ha hl hk =>
    refine move_in hi hm (hK m _ w stay ?_)
    rename_i x
    obtain ⟨_, hmv⟩ := moved_inv hm
    have h1 := hr.opV hg x (by rcases hmv with hmv | hmv <;> simp [hmv, Op.operands]) (alG n1 (A i)) (by unfold cG; rw [ha]; rfl)
    have h2 := GV_den.1 h1
    intro v hv
    rw [hb.link _ hl] at hv
    exact h2 v hv
  | no ha hv hk =>
    have hw := ha.wanted hall hr
    unfold wpOpIn
    simp only [hi]
    rw [if_neg (by rw [hw]; simp)]
    refine ⟨fun _ _ => trivial, hK m undef w stay ?_⟩
    intro v hv2
    rw [hv] at hv2; injection hv2 with hv2; subst hv2
    exact topU
  | pur ha hc hF hv hk =>
    have hw := ha.wanted hall hr
    unfold wpOpIn
    simp only [hi]
    rw [if_pos hw]
    classical
    rename_i F v
    refine op_in hC hg hcl hc hs (fun x hx => hr.opV hg x hx) (k := fun u h2 => decide (u = v ∧ h2 = h)) (cl := cl) (by rw [hF]; simp) ?_
    intro v' w' hd
    obtain ⟨m', h', u, d1, d2, d3, d4⟩ := hd
    have d4 : u = v ∧ h' = h := by simpa using d4
    obtain ⟨rfl, rfl⟩ := d4
    refine hK m' v' w' ⟨d2, ht.trans d3, d3.sub, fun q p hq => ?_⟩ ?_
    · rcases d3.new q p hq with h1 | h1
      · exact .inl h1
      · rw [d2.fresh q h1] at hq; cases hq
    · intro z hz
      rw [hv] at hz; injection hz with hz; subst hz; exact d1
  | rd ha hro hv hk hc =>
    rename_i v
    obtain ⟨F, hc, hR, hF⟩ := hc rfl
    have hw := ha.wanted hall hr
    unfold wpOpIn
    simp only [hi]
    rw [if_pos hw]
    classical
    refine op_in hC hg hcl hc hs (fun x hx => hr.opV hg x hx) (k := fun u h2 => decide (u = v ∧ h2 = h)) (cl := cl) (by rw [hF]; simp) ?_
    intro v' w' hd
    obtain ⟨m', h', u, d1, d2, d3, d4⟩ := hd
    have d4 : u = v ∧ h' = h := by simpa using d4
    obtain ⟨rfl, rfl⟩ := d4
    refine hK m' v' w' ⟨d2, ht.trans d3, d3.sub, fun q p hq => ?_⟩ ?_
    · rcases d3.new q p hq with h1 | h1
      · exact .inl h1
      · rw [d2.fresh q h1] at hq; cases hq
    · intro z hz
      rw [hv] at hz; injection hz with hz; subst hz; exact d1
  | mkB ha hm hn hv hk hf hc =>
    rename_i q
    obtain ⟨s, t, vs, hbl, hlaw⟩ := hc rfl
    have hw := ha.wanted hall hr
    unfold wpOpIn
    simp only [hi]
    rw [if_pos hw]
    obtain ⟨q1, q2, vs', q3, q4⟩ := hlaw m a.eval (fun x hx => hr.opV hg x hx)
    have hmn := hmk q hk
    refine ⟨fun _ _ => trivial, ?_⟩
    rw [Oper.semAt_eq _ _ _ (by intro z hz; rw [hz] at hm; cases hm), q4 w]
    have hlr : LR X (m.put q ⟨w.heap.size, 0, s, s⟩) h q ⟨w.heap.size, 0, s, s⟩ (.cells vs'.toArray t) := by
      refine ⟨fun cb hcb => ?_, fun x hx => ?_⟩
      · rw [hbl] at hcb; injection hcb with hcb; subst hcb
        exact (one_rel q3 q1 q2 t w.heap.size).mono (M.le_put hmn)
      · exfalso
        unfold Hp.oat at hx
        split at hx
        · rename_i ho
          have ho := div_ob.1 ho
          have := yb_eq; have := ob_eq
          unfold Hp.blk at hbl
          rw [if_neg (by omega)] at hbl
          have h1 := hs.wf.t q _ hbl
          have h2 := hs.wf.nt
          omega
        · cases hx
    obtain ⟨f1, f2⟩ := hs.fill (p := ⟨w.heap.size, 0, s, s⟩) (o := .cells vs'.toArray t) hmn (live_iff_blk hbl) rfl hlr
    refine hK _ _ _ ⟨f1, f2 m0 h0 w0 ht hf, M.le_put hmn, fun q' p' hq => ?_⟩ ?_
    · by_cases hqq : q' = q
      · subst hqq; exact .inr hk
      · rw [M.put_other m _ hqq] at hq; exact .inl hq
    · intro z hz
      rw [hv] at hz; injection hz with hz; subst hz
      exact .ptr ⟨rfl, _, M.put_same _ _ _, rfl⟩
  | mkR ha hm hv hk hf hc =>
    rename_i q ln cn
    obtain ⟨cb, s, el, hbl, hlaw⟩ := hc rfl
    have hw := ha.wanted hall hr
    unfold wpOpIn
    simp only [hi]
    rw [if_pos hw]
    obtain ⟨cs, q4, q3⟩ := hlaw m a.eval (fun x hx => hr.opV hg x hx)
    have hmn := hmk q hk
    refine ⟨fun _ _ => trivial, ?_⟩
    rw [Oper.semAt_eq _ _ _ (by obtain ⟨t, l, r, hm⟩ := hm; intro z hz; rw [hz] at hm; cases hm), q4 w]
    have hlr : LR X (m.put q ⟨w.heap.size, 0, cs.size, s⟩) h q ⟨w.heap.size, 0, cs.size, s⟩ (.cells cs el) := by
      refine ⟨fun cb' hcb => ?_, fun x hx => ?_⟩
      · rw [hbl] at hcb; injection hcb with hcb; subst hcb
        exact q3 _ _
      · exfalso
        unfold Hp.oat at hx
        split at hx
        · rename_i ho
          have ho := div_ob.1 ho
          have := yb_eq; have := ob_eq
          unfold Hp.blk at hbl
          rw [if_neg (by omega)] at hbl
          have h1 := hs.wf.t q _ hbl
          have h2 := hs.wf.nt
          omega
        · cases hx
    obtain ⟨f1, f2⟩ := hs.fill (p := ⟨w.heap.size, 0, cs.size, s⟩) (o := .cells cs el) hmn (live_iff_blk hbl) rfl hlr
    refine hK _ _ _ ⟨f1, f2 m0 h0 w0 ht hf, M.le_put hmn, fun q' p' hq => ?_⟩ ?_
    · by_cases hqq : q' = q
      · subst hqq; exact .inr hk
      · rw [M.put_other m _ hqq] at hq; exact .inl hq
    · intro z hz
      rw [hv] at hz; injection hz with hz; subst hz
      exact .slE _ _ ⟨rfl, _, M.put_same _ _ _, rfl⟩
  | mkM ha hm hv hk hf hc =>
    rename_i q t
    have hoa := hc rfl
    have hw := ha.wanted hall hr
    unfold wpOpIn
    simp only [hi]
    rw [if_pos hw]
    have hmn := hmk q hk
    refine ⟨fun _ _ => trivial, ?_⟩
    have hrun : (execOp a.eval o).run X.P w = .ok (.value (.map (some w.heap.size))) (w.alloc (.map #[] 0)) := by simp [execOp, hm, Instr.makeMap]
    rw [Oper.semAt_eq _ _ _ (by intro z hz; rw [hz] at hm; cases hm), hrun]
    have hlr : LR X (m.put q ⟨w.heap.size, 0, 0, 0⟩) h q ⟨w.heap.size, 0, 0, 0⟩ (.map #[] 0) := by
      refine ⟨fun cb hcb => ?_, fun x hx => ?_⟩
      · exfalso
        unfold Hp.oat at hoa
        split at hoa
        · rename_i ho
          have ho := div_ob.1 ho
          have := yb_eq; have := ob_eq
          unfold Hp.blk at hcb
          rw [if_neg (by omega)] at hcb
          have h1 := hs.wf.t q _ hcb
          have h2 := hs.wf.nt
          omega
        · cases hoa
      · rw [hoa] at hx; injection hx with hx; subst hx
        exact ⟨⟨#[], rfl, .nil, by simp⟩, rfl⟩
    obtain ⟨f1, f2⟩ := hs.fill (p := ⟨w.heap.size, 0, 0, 0⟩) (o := .map #[] 0) hmn (live_iff_oat hoa) rfl hlr
    refine hK _ _ _ ⟨f1, f2 m0 h0 w0 ht hf, M.le_put hmn, fun q' p' hq => ?_⟩ ?_
    · by_cases hqq : q' = q
      · subst hqq; exact .inr hk
      · rw [M.put_other m _ hqq] at hq; exact .inl hq
    · intro z hz
      rw [hv] at hz; injection hz with hz; subst hz
      exact .map (p := ⟨w.heap.size, 0, 0, 0⟩) (M.put_same _ _ _)
end Go.Ab
end
section
namespace Go.Ab
/-! ### equal, looked at cell by cell -/
theorem addrEq_sound {a b : Addr} (h : addrEq a b = true) : a = b := by
  unfold addrEq at h
  obtain ⟨h1, h⟩ := rec_t h
  obtain ⟨h2, h⟩ := rec_t h
  obtain ⟨ab, ao, as⟩ := a
  obtain ⟨bb, bo, bs⟩ := b
  have q1 : ab = bb := beq_iff.1 h1
  have q2 : ao = bo := beq_iff.1 h2
  clear h1 h2
  subst q1; subst q2
  cases as with
  | some s => exact ffa h
  | none =>
    cases bs with
    | some s => exact ffa h
    | none => rfl
theorem scEq_sound {a b : Value} (h : scEq a b (fun r => r) = true) : a = b := by
  cases a with
  | int i x => obtain ⟨r, h1, h2⟩ := scEq_inv (.int i x) h; exact h1.iff.1 h2
  | string s => obtain ⟨r, h1, h2⟩ := scEq_inv (.str s) h; exact h1.iff.1 h2
  | bool s => obtain ⟨r, h1, h2⟩ := scEq_inv (.bool s) h; exact h1.iff.1 h2
  | _ => exact ffa h
theorem veq1_sound {a b : Value} (h : veq1 a b = true) : a = b := by
  unfold veq1 at h
  split at h
  · rfl
  · rw [addrEq_sound h]
  · obtain ⟨h1, h2⟩ := rec_t h
    rw [beq_iff.1 h1, beq_iff.1 h2]
  · obtain ⟨h1, h⟩ := rec_t h
    obtain ⟨h2, h3⟩ := rec_t h
    rw [beq_iff.1 h1, beq_iff.1 h2, addrEq_sound h3]
  · rfl
  · rw [beq_iff.1 h]
  · rfl
  · rfl
  · rw [beq_iff.1 h]
  · exact scEq_sound h
theorem veqL_sound : ∀ {a b : List Value}, veqL a b = true → a = b
  | [], [], _ => rfl
  | [], _ :: _, h => ffa h
  | _ :: _, [], h => ffa h
  | x :: a, y :: b, h => by
    have h : (Bool.rec false (veqL a b) (veq1 x y) : Bool) = true := h
    obtain ⟨h1, h2⟩ := rec_t h
    rw [veq1_sound h1, veqL_sound h2]
theorem veq_sound {a b : Value} (h : veq a b = true) : a = b := by
  unfold veq at h
  rcases vAgg_inv h with ⟨l, rfl, h1⟩ | h1
  · rcases vAgg_inv h1 with ⟨l2, rfl, h2⟩ | h2
    · exact congrArg Value.agg (Array.ext' (veqL_sound h2))
    · exact ffa h2
  · rcases vTup_inv h1 with ⟨l, rfl, h3⟩ | h3
    · rcases vTup_inv h3 with ⟨l2, rfl, h2⟩ | h2
      · exact congrArg Value.tuple (Array.ext' (veqL_sound h2))
      · exact ffa h2
    · exact veq1_sound h3
theorem sameOne_inv {h h' : Hp} {b b' : Nat} {vs : List Value} {s : Nat} {t : TypeId} (hb : h'.blk b' = some (one vs s t)) (hh : sameOne h h' b b' = true) : h.blk b = some (one vs s t) := by
  unfold sameOne at hh
  obtain ⟨c, h1, h2⟩ := Hp.cells_inv hh
  rcases h2 with ⟨_, h2⟩ | ⟨_, s2, l2, e2, rfl, h2⟩
  · obtain ⟨c', h3, h4⟩ := Hp.cells_inv h2
    rw [hb] at h3; injection h3 with h3; subst h3
    rcases h4 with ⟨_, h4⟩ | ⟨_, _, _, _, _, h4⟩
    case inr => exact ffa h4
    obtain ⟨⟨tl, tv, tr⟩, cn, cs, ce, cf⟩ := c
    cases tv with
    | none => exact ffa h4
    | some l =>
      have h5 : (Bool.rec (ff 212) (Bool.rec (ff 212) (Bool.rec (ff 212) (Option.rec (Option.rec (Option.rec (veqL l vs) (fun _ => ff 212) tl) (fun _ => ff 212) tr) (fun _ => ff 212) cf) (Nat.beq cn 1)) (Nat.beq cs s)) (Nat.beq ce t) : Bool) = true := h4
      clear h4
      obtain ⟨e1, h6⟩ := rec_t h5
      obtain ⟨e2, h7⟩ := rec_t h6
      obtain ⟨e3, h4⟩ := rec_t h7
      clear h5 h6 h7
      have e1 := beq_iff.1 e1
      have e2 := beq_iff.1 e2
      have e3 := beq_iff.1 e3
      subst e1; subst e2; subst e3
      cases cf with
      | some _ => exact ffa h4
      | none =>
        cases tr with
        | some _ => exact ffa h4
        | none =>
          cases tl with
          | some _ => exact ffa h4
          | none =>
            have := veqL_sound h4
            subst this
            exact h1
  · obtain ⟨c', h3, h4⟩ := Hp.cells_inv h2
    rw [hb] at h3; injection h3 with h3; subst h3
    rcases h4 with ⟨_, h4⟩ | ⟨_, s3, l3, e3, he, h4⟩
    · exact ffa h4
    obtain ⟨e1, h4⟩ := rec_t h4
    obtain ⟨e4, h4⟩ := rec_t h4
    have e1 := beq_iff.1 e1
    have e4 := beq_iff.1 e4
    have := veqL_sound h4
    subst e1; subst e4; subst this
    rw [h1, he]
/-! ### the plan's invariant -/
variable {X : Cx} {m m' : M} {h h' : Hp} {w w' : World}
variable {e : E} {b b' : Bd} {c : Ct} {ds : Ds} {n n' : Nat} {ops : Array Oper} {o : Oper}
structure J (X : Cx) (c : Ct) (ops : Array Oper) (e : E) (m0 : M) (h0 : Hp) (w0 : World) (a0 : Act) (kf : KE) (cl : Cl) (l : List PI) (D fore need rm : Nat) (S : Nat → Prop) (A : Nat → Al) (mk : Nat → Option Nat)
    (ds : Ds) (n : Nat) (b : Bd) (il : IL) (m : M) (h : Hp) (w : World) (a : Act) : Prop where
  plan : cPlan c l ds n = some il
  chk : Ab.chk c.P ops (dirs ops) (dirs ops).reverse (wsOf ops) l D fore need rm = true
  run : Ab.run il cl e b h kf = true
  sim : Sim X m h w
  tn : Tn m0 h0 w0 m h w
  gm : GM m c.ng
  size : a.tmps.size = c.nt
  dfr : a.defers = a0.defers
  sd : ∀ i, S i → D.testBit i = true
  sdn : Dn ops S
  ddn : Dn ops (fun i => D.testBit i = true)
  dlt : ∀ i, D.testBit i = true → ∃ o, ops[i]? = some o ∧ dstOk c o = true
  loud : ∀ i o, D.testBit i = true → ops[i]? = some o → quietOp c.P o.op = false → S i
  fore : ∀ i, fore.testBit i = true → S i
  rmM : ∀ i o, D.testBit i = true → ops[i]? = some o → readOp c.P o.op = true ∨ makeOp o.op = true → rm.testBit i = true
  lt : ∀ x ∈ ds, ∀ l, x.2 = .lv l → l < n
  alt : ∀ i, D.testBit i = true → ∀ l, A i = .lv l → l < n
  ent : ∀ i o d, D.testBit i = true → ops[i]? = some o → o.dst = some d → findD d ds = some (A i)
  own : ∀ d al, findD d ds = some al → ∃ i o, D.testBit i = true ∧ ops[i]? = some o ∧ o.dst = some d ∧ A i = al
  val : ∀ i o d, S i → ops[i]? = some o → o.dst = some d → DV m e b n (A i) (a.tmps.getD d undef)
  env : ∀ d, (∀ i o, S i → ops[i]? = some o → o.dst ≠ some d) → ∀ s, slot c.esc d = some s → ∀ v, e.get s = some v → VR m v (a.tmps.getD d undef)
  rcd : ∀ i o, D.testBit i = true → ¬ S i → ops[i]? = some o → ∃ ds1 n1 b1, RB c ops e b n A o ds1 n1 b1 ∧ Kd X.P c e h0 (A i) (den e b n (A i)) o ds1 n1 b1 h (mk i) (!need.testBit i)
  mkU : ∀ i q, D.testBit i = true → ¬ S i → mk i = some q → m q = none
  mkI : ∀ i j q, D.testBit i = true → ¬ S i → D.testBit j = true → ¬ S j → mk i = some q → mk j = some q → i = j
variable {m0 : M} {h0 : Hp} {w0 : World} {a0 a : Act} {kf : KE} {cl : Cl} {l : List PI} {D fore need rm : Nat} {S : Nat → Prop} {A : Nat → Al} {mk : Nat → Option Nat} {il : IL}
theorem J.ancD (j : J X c ops e m0 h0 w0 a0 kf cl l D fore need rm S A mk ds n b il m h w a) {i : Nat} (hi : ops[i]? = some o) (hd : D.testBit i = true) {k : Nat} (hk : (anc ops o).testBit k = true) : D.testBit k = true :=
  anc_sub j.ddn (fun k hk => j.ddn i o hi hd k hk) hk
/-- where the operands of one stand that is to be planned -/
theorem J.look (hF : DrawF c.P ops) (j : J X c ops e m0 h0 w0 a0 kf cl l D fore need rm S A mk ds n b il m h w a) {i : Nat} (hi : ops[i]? = some o) (hni : D.testBit i = false) (hdir : ∀ k, (dirM o).testBit k = true → D.testBit k = true) : RB c ops e b n A o ds n b := by
  refine ⟨Nat.le_refl _, fun al _ => rfl, fun t ht al hal => ⟨cT_lt j.lt hal, ?_⟩⟩
  unfold cT at hal
  split at hal
  · rename_i al' hf
    injection hal with hal; subst hal
    obtain ⟨k, p, h1, h2, h3, h4⟩ := j.own t al' hf
    left
    refine ⟨k, p, h2, h3, ?_, h4⟩
    rcases hF.apart i o t k p hi ht h2 h3 with h5 | h5
    · exact h5
    · have := j.ancD h2 h1 h5
      rw [hni] at this; cases this
  · rename_i hf
    right
    rw [Option.map_eq_some_iff] at hal
    obtain ⟨s, h1, rfl⟩ := hal
    refine ⟨fun k p h2 h3 => ?_, s, h1, rfl⟩
    cases hk : (anc ops o).testBit k with
    | false => rfl
    | true =>
      have := anc_sub j.ddn hdir hk
      rw [j.ent k p t this h2 h3] at hf; cases hf
/-- its operands, when it is done -/
theorem J.regV (hF : DrawF c.P ops) (j : J X c ops e m0 h0 w0 a0 kf cl l D fore need rm S A mk ds n b il m h w a) {i : Nat} (hi : ops[i]? = some o) (hni : ¬ S i) (hdir : ∀ k, (dirM o).testBit k = true → S k) {ds1 : Ds} {n1 : Nat} {b1 : Bd} (hb : RB c ops e b n A o ds1 n1 b1) :
    RegV m e b1 c ds1 n1 ops o a.tmps := by
  intro t ht al hal
  obtain ⟨h1, h2⟩ := hb.look t ht al hal
  rcases h2 with ⟨k, p, h3, h4, h5, h6⟩ | ⟨h3, s, h4, h5⟩
  · have hS := anc_sub j.sdn hdir h5
    have h7 := j.val k p t hS h3 h4
    rw [h6] at h7
    intro v hv
    rw [← hb.link al h1] at hv
    exact h7 v hv
  · subst h5
    intro v hv
    refine j.env t (fun k p hk h6 h7 => ?_) s h4 v hv
    rcases hF.apart i o t k p hi ht h6 h7 with h8 | h8
    · rw [h3 k p h6 h7] at h8; cases h8
    · exact hni (anc_sub j.sdn (fun q hq => j.sdn k p h6 hk q hq) h8)
theorem J.put_val (hF : DrawF c.P ops) (j : J X c ops e m0 h0 w0 a0 kf cl l D fore need rm S A mk ds n b il m h w a) {i : Nat} (hi : ops[i]? = some o) (hdo : dstOk c o = true) (hni : ¬ S i) {m' : M} (hle : m.le m') {A' : Nat → Al} {b' : Bd} {n' : Nat} {v' : Value}
    (hA : ∀ k, S k → den e b' n' (A' k) = den e b n (A k)) (hv : DV m' e b' n' (A' i) v') :
    (∀ k p d, (S k ∨ k = i) → ops[k]? = some p → p.dst = some d → DV m' e b' n' (A' k) ((a.put o.dst v').tmps.getD d undef)) ∧
    (∀ d, (∀ k p, (S k ∨ k = i) → ops[k]? = some p → p.dst ≠ some d) → ∀ s, slot c.esc d = some s → ∀ v, e.get s = some v → VR m' v ((a.put o.dst v').tmps.getD d undef)) := by
  have hlt := dst_lt (a := a) hdo j.size
  constructor
  · intro k p d hk hp hd
    rw [put_getD _ _ _ _ hlt]
    by_cases he : k = i
    · subst he
      rw [hi] at hp; injection hp with hp; subst hp
      rw [if_pos hd]; exact hv
    · have hk := hk.resolve_right he
      rw [if_neg (fun hd2 => he (hF.once k i p o d hp hi hd hd2))]
      intro v hv2
      rw [hA k hk] at hv2
      exact (j.val k p d hk hp hd v hv2).mono hle
  · intro d hd s hs v hv2
    rw [put_getD _ _ _ _ hlt, if_neg (hd i o (.inr rfl) hi)]
    exact (j.env d (fun k p hk hp => hd k p (.inl hk) hp) s hs v hv2).mono hle
/-- one that was planned is done -/
theorem J.exec (hC : Cok X.P c) (hcl : SoundCl X c.ng cl) (hall : c.all = ops) (hF : DrawF c.P ops) (j : J X c ops e m0 h0 w0 a0 kf cl l D fore 0 rm S A mk ds n b il m h w a) {i : Nat} (hi : ops[i]? = some o) (hd : D.testBit i = true) (hni : ¬ S i)
    (hdir : ∀ k, (dirM o).testBit k = true → S k) {r : Option Nat} {Q : Exit → Act → World → Prop} {K : Act → World → Prop}
    (hK : ∀ m' w' a', J X c ops e m0 h0 w0 a0 kf cl l D fore 0 rm (fun k => S k ∨ k = i) A mk ds n b il m' h w' a' → K a' w') : wpOpIn (wideAt r) 0 X.P ops Q i K a w := by
  obtain ⟨ds1, n1, b1, hb, hk⟩ := j.rcd i o hd hni hi
  obtain ⟨o', hi', hdo⟩ := j.dlt i hd
  rw [hi] at hi'; injection hi' with hi'; subst hi'
  rw [Nat.zero_testBit] at hk
  refine kd_in hC hcl hall hi hb hk j.sim j.tn j.gm (j.regV hF hi hni hdir hb) (fun q hq => j.mkU i q hd hni hq) ?_
  intro m' v' w' hst hdv
  obtain ⟨s1, s2, s3, s4⟩ := hst
  obtain ⟨v1, v2⟩ := j.put_val hF hi hdo hni s3 (A' := A) (b' := b) (n' := n) (fun _ _ => rfl) hdv
  refine hK m' w' _ ⟨j.plan, j.chk, j.run, s1, s2, j.gm.mono s3, by rw [put_size]; exact j.size, by rw [put_defers]; exact j.dfr, ?_, ?_, j.ddn, j.dlt, fun k p a1 a2 a3 => .inl (j.loud k p a1 a2 a3), fun k hk => .inl (j.fore k hk), j.rmM, j.lt, j.alt, j.ent, j.own, v1, v2, ?_, ?_, ?_⟩
  · rintro k (hk | rfl)
    · exact j.sd k hk
    · exact hd
  · rintro k p hp (hk | rfl) q hq
    · exact .inl (j.sdn k p hp hk q hq)
    · rw [hi] at hp; injection hp with hp; subst hp; exact .inl (hdir q hq)
  · intro k p a1 a2 a3; exact j.rcd k p a1 (fun hk => a2 (.inl hk)) a3
  · intro k q a1 a2 a3
    cases hq : m' q with
    | none => rfl
    | some p =>
      exfalso
      rcases s4 q p hq with h1 | h1
      · rw [j.mkU k q a1 (fun hk => a2 (.inl hk)) a3] at h1; cases h1
      · exact a2 (.inr (j.mkI k i q a1 (fun hk => a2 (.inl hk)) hd hni a3 h1))
  · intro k k' q a1 a2 a3 a4 a5 a6; exact j.mkI k k' q a1 (fun hk => a2 (.inl hk)) a3 (fun hk => a4 (.inl hk)) a5 a6
theorem RB.extend {A' : Nat → Al} {ds1 : Ds} {n1 : Nat} {b1 : Bd} (hb : RB c ops e b n A o ds1 n1 b1) (hle : n ≤ n') (hden : ∀ al, (∀ l, al = .lv l → l < n) → den e b' n' al = den e b n al) (hA : ∀ k, (anc ops o).testBit k = true → A' k = A k) : RB c ops e b' n' A' o ds1 n1 b1 := by
  refine ⟨Nat.le_trans hb.le hle, fun al hl => ?_, fun t ht al hal => ?_⟩
  · rw [hden al (fun l h => Nat.lt_of_lt_of_le (hl l h) hb.le)]; exact hb.link al hl
  · obtain ⟨h1, h2⟩ := hb.look t ht al hal
    refine ⟨h1, ?_⟩
    rcases h2 with ⟨k, p, h3, h4, h5, h6⟩ | h3
    · exact .inl ⟨k, p, h3, h4, h5, by rw [hA k h5]; exact h6⟩
    · exact .inr h3
theorem Kd.grow {P : Program} {al : Al} {val : Option Value} {ds1 : Ds} {n1 : Nat} {b1 : Bd} {mk : Option Nat} {q : Nat} (hw : h.wf) (hg : Grows h h' q) (hk : Kd P c e h0 al val o ds1 n1 b1 h mk true) : Kd P c e h0 al val o ds1 n1 b1 h' mk true := by
  cases hk with
  | moved hm ha hl hk => exact .moved hm ha hl hk
  | no ha hv hk => exact .no ha hv hk
  | pur ha hc hF hv hk => exact .pur ha hc hF hv hk
  | rd ha hr hv hk hc =>
    rename_i v
    obtain ⟨F, h1, h2, h3⟩ := hc rfl
    refine .rd ha hr hv hk fun _ => ⟨F, h1, h2, ?_⟩
    obtain ⟨ov, e1, e2⟩ := h2 e b1 h
    classical
    have h4 := h3 (fun _ _ _ _ => true) (fun u _ => decide (u = v))
    rw [e1] at h4
    cases ov with
    | none => simp at h4
    | some u =>
      have : u = v := by simpa using h4
      subst this
      exact fun cl k => e2 h' (hg.ext hw) rfl cl k
  | mkB ha hm hn hv hk hf hc =>
    refine .mkB ha hm hn hv hk hf fun _ => ?_
    obtain ⟨s, t, vs, h1, h2⟩ := hc rfl
    refine ⟨s, t, vs, ?_, h2⟩
    rw [hg.blk _ (fun e => by subst e; rw [(blk_of_fresh hw hg.fresh).1] at h1; cases h1)]; exact h1
  | mkR ha hm hv hk hf hc =>
    refine .mkR ha hm hv hk hf fun _ => ?_
    obtain ⟨cb, s, el, h1, h2⟩ := hc rfl
    refine ⟨cb, s, el, ?_, h2⟩
    rw [hg.blk _ (fun e => by subst e; rw [(blk_of_fresh hw hg.fresh).1] at h1; cases h1)]; exact h1
  | mkM ha hm hv hk hf hc =>
    refine .mkM ha hm hv hk hf fun _ => ?_
    have h1 := hc rfl
    rw [hg.oat _ (fun e => by subst e; rw [(blk_of_fresh hw hg.fresh).2] at h1; cases h1)]; exact h1
theorem Kd.live {P : Program} {al : Al} {val : Option Value} {ds1 : Ds} {n1 : Nat} {b1 : Bd} {mk : Option Nat} {q : Nat} (hk : Kd P c e h0 al val o ds1 n1 b1 h mk true) (hq : mk = some q) : h.live q := by
  cases hk with
  | moved hm ha hl hk => rw [hk] at hq; cases hq
  | no ha hv hk => rw [hk] at hq; cases hq
  | pur ha hc hF hv hk => rw [hk] at hq; cases hq
  | rd ha hr hv hk hc => rw [hk] at hq; cases hq
  | mkB ha hm hn hv hk hf hc =>
    rw [hk] at hq; injection hq with hq; subst hq
    obtain ⟨s, t, vs, h1, h2⟩ := hc rfl
    exact live_iff_blk h1
  | mkR ha hm hv hk hf hc =>
    rw [hk] at hq; injection hq with hq; subst hq
    obtain ⟨cb, s, el, h1, h2⟩ := hc rfl
    exact live_iff_blk h1
  | mkM ha hm hv hk hf hc =>
    rw [hk] at hq; injection hq with hq; subst hq
    exact live_iff_oat (hc rfl)
/-- the heap has changed: it is to be looked at again -/
theorem Kd.weak {P : Program} {al : Al} {val : Option Value} {ds1 : Ds} {n1 : Nat} {b1 : Bd} {mk : Option Nat} {st : Bool} (hk : Kd P c e h0 al val o ds1 n1 b1 h mk true) (hst : readOp c.P o.op = true ∨ makeOp o.op = true → st = false) : Kd P c e h0 al val o ds1 n1 b1 h' mk st := by
  cases hk with
  | moved hm ha hl hk => exact .moved hm ha hl hk
  | no ha hv hk => exact .no ha hv hk
  | pur ha hc hF hv hk => exact .pur ha hc hF hv hk
  | rd ha hr hv hk hc => exact .rd ha hr hv hk fun e => by rw [hst (.inl hr)] at e; cases e
  | mkB ha hm hn hv hk hf hc => exact .mkB ha hm hn hv hk hf fun e => by rw [hst (.inr hm)] at e; cases e
  | mkR ha hm hv hk hf hc => exact .mkR ha hm hv hk hf fun e => by rw [hst (.inr (by obtain ⟨t, l, r, hm⟩ := hm; rw [hm]; rfl))] at e; cases e
  | mkM ha hm hv hk hf hc => exact .mkM ha hm hv hk hf fun e => by rw [hst (.inr (by rw [hm]; rfl))] at e; cases e
end Go.Ab
end

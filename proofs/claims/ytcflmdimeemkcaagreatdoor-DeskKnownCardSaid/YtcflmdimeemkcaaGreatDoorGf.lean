/-
  A part of the proof of the card of DeskKnown (the whole is said in the last text). No condition of its own beyond those that its theorems state.
-/
import Derived.Test.YtcflmdimeemkcaaGreatDoorGe
import Derived.Test.YtcflmdimeemkcaaGreatDoorFa
import Derived.Laws.LoneSync
import Derived.Lib.Bytealg
import Derived.Lib.MakeNoZero
import Derived.Maps.RangeRun
set_option autoImplicit true
set_option relaxedAutoImplicit true
set_option linter.unusedVariables false
set_option linter.unusedSimpArgs false
set_option linter.unusedSectionVars false
section
namespace Go.Ab
variable {X : Cx} {m m' : M} {h h' : Hp} {w w' : World} {P : Program}
theorem isI64_inv {k : IntKind} (h : isI64 k = true) : k = .i64 := by
  cases k <;> first | rfl | cases h
/-- a function without a body -/
structure ExtOk (P : Program) (g : Nat) (fn : Func) (e : Array Value → Sem Value) : Prop where
  at' : P.funcs[g]? = some fn
  name : (fn.name == "runtime.NumGoroutine") = false
  none : fn.body.isNone = true
  next : Extern.findNext fn = .none
  find : Extern.find fn = some e
theorem ExtOk.run {g : Nat} {fn : Func} {e : Array Value → Sem Value} (he : ExtOk P g fn e) (args : Array Value) (w : World) : (callFunc g args).run P w = ((e args).run P w).andThen fun v w' => .ok (.value v) w' :=
  run_callFunc_extern he.at' he.name he.none he.next he.find args w
theorem ExtOk.callR {g : Nat} {fn : Func} {e : Array Value → Sem Value} (he : ExtOk P g fn e) {args : Array Value} {v : Value} {R : Value → World → Prop} (hr : (e args).run P w = .ok v w') (hR : R v w') : CallR P g args w R :=
  .inl ⟨v, w', by rw [he.run, hr]; rfl, hR⟩
/-- the law of one -/
structure XOk (X : Cx) (g : Nat) (x : List Value → Hp → KV → Bool) : Prop where
  law : ∀ {m : M} {h : Hp} {w : World} {args args' : List Value} {k : KV}, Sim X m h w → VRL m args args' → GM m X.w.ng → x args h k = true → CallR X.P g args'.toArray w (fun v' w' => Done X m h w k v' w')
theorem noEscape_ok {g : Nat} {fn : Func} (he : ExtOk X.P g fn Extern.AbiNoEscape.same) : XOk X g xNoEscape := by
  constructor
  intro m h w args args' k hs hv hg hh
  unfold xNoEscape at hh
  split at hh
  case h_2 => exact ffa hh
  rename_i x
  cases hv with
  | cons h1 h2 =>
    cases h2
    exact he.callR (w' := w) rfl ⟨m, h, _, h1, hs, Tn.refl m h w, hh⟩
theorem u8_toNat {c : Nat} (hc : c ≤ 255) : c.toUInt8.toNat = c := by
  show c % 256 = c
  omega
theorem idxB_eq (c : Nat) (hc : c ≤ 255) : ∀ (l : List UInt8) (n : Nat), idxB c l n = if Lib.indexByte l c.toUInt8 == -1 then -1 else (n : Int) + Lib.indexByte l c.toUInt8
  | [], n => rfl
  | b :: l, n => by
    show (Bool.rec (idxB c l (n + 1)) (.ofNat n) (Nat.beq b.toNat c) : Int) = _
    unfold Lib.indexByte
    have ih := idxB_eq c hc l (n + 1)
    have hge := Lib.indexByte_ge l c.toUInt8
    by_cases hb : b.toNat = c
    · have h1 : Nat.beq b.toNat c = true := beq_iff.2 hb
      have h2 : (b == c.toUInt8) = true := by
        rw [beq_iff_eq]; apply UInt8.toNat_inj.1; rw [hb, u8_toNat hc]
      rw [h1, h2]; simp
    · have h1 : Nat.beq b.toNat c = false := by cases h : Nat.beq b.toNat c with | false => rfl | true => exact absurd (beq_iff.1 h) hb
      have h2 : (b == c.toUInt8) = false := by
        rw [beq_eq_false_iff_ne]; intro e; apply hb; rw [e, u8_toNat hc]
      rw [h1, h2]
      show idxB c l (n + 1) = _
      rw [ih]
      simp only [Bool.false_eq_true, if_false]
      by_cases h3 : Lib.indexByte l c.toUInt8 = -1
      · simp [h3]
      · have h4 : (Lib.indexByte l c.toUInt8 == -1) = false := by simpa using h3
        have h5 : (Lib.indexByte l c.toUInt8 + 1 == -1) = false := by rw [beq_eq_false_iff_ne]; intro e; omega
        simp only [h4, h5, Bool.false_eq_true, if_false]
        push_cast; omega
theorem cntB_eq (c : Nat) (hc : c ≤ 255) : ∀ (l : List UInt8), cntB c l = Lib.countByte l c.toUInt8
  | [] => rfl
  | b :: l => by
    show (Bool.rec (cntB c l) (Nat.succ (cntB c l)) (Nat.beq b.toNat c) : Nat) = _
    rw [cntB_eq c hc l]
    unfold Lib.countByte
    rw [List.count_cons]
    by_cases hb : b.toNat = c
    · have h1 : Nat.beq b.toNat c = true := beq_iff.2 hb
      have h2 : (b == c.toUInt8) = true := by
        rw [beq_iff_eq]; apply UInt8.toNat_inj.1; rw [hb, u8_toNat hc]
      rw [h1, h2]; simp
    · have h1 : Nat.beq b.toNat c = false := by cases h : Nat.beq b.toNat c with | false => rfl | true => exact absurd (beq_iff.1 h) hb
      have h2 : (b == c.toUInt8) = false := by
        rw [beq_eq_false_iff_ne]; intro e; apply hb; rw [e, u8_toNat hc]
      rw [h1, h2]; simp
theorem indexByte_ok {g : Nat} {fn : Func} (he : ExtOk X.P g fn Extern.BytealgIndexByte.indexByte) : XOk X g xIndexByte := by
  constructor
  intro m h w args args' k hs hv hg hh
  unfold xIndexByte at hh
  split at hh
  case h_2 => exact ffa hh
  rename_i l c
  obtain ⟨hc, hh⟩ := rec_t hh
  have hc := ble_iff.1 hc
  cases hv with
  | cons h1 h2 =>
    cases h2 with
    | cons h3 h4 =>
      cases h4; cases h1; cases h3
      refine he.callR (Lib.run_indexByteString _ _ w) ⟨m, h, _, .int _ _, hs, Tn.refl m h w, ?_⟩
      rw [idxB_eq c hc] at hh
      have : (Int.ofNat c).toNat = c := rfl
      rw [this]
      by_cases h3 : Lib.indexByte l c.toUInt8 = -1
      · simp [h3] at hh ⊢; exact hh
      · have h4 : (Lib.indexByte l c.toUInt8 == -1) = false := by simpa using h3
        simp [h4] at hh ⊢; exact hh
theorem count_ok {g : Nat} {fn : Func} (he : ExtOk X.P g fn Extern.BytealgCount.count) : XOk X g xCount := by
  constructor
  intro m h w args args' k hs hv hg hh
  unfold xCount at hh
  split at hh
  case h_2 => exact ffa hh
  rename_i l c
  obtain ⟨hc, hh⟩ := rec_t hh
  have hc := ble_iff.1 hc
  cases hv with
  | cons h1 h2 =>
    cases h2 with
    | cons h3 h4 =>
      cases h4; cases h1; cases h3
      refine he.callR (Lib.run_countString _ _ w) ⟨m, h, _, .int _ _, hs, Tn.refl m h w, ?_⟩
      rw [cntB_eq c hc] at hh
      have : (Int.ofNat c).toNat = c := rfl
      rw [this]
      exact hh
theorem load_ok {g : Nat} {fn : Func} (he : ExtOk X.P g fn (Extern.Atomic.loadT (.int .i64))) : XOk X g xLoad := by
  constructor
  intro m h w args args' k hs hv hg hh
  unfold xLoad at hh
  split at hh
  case h_2 => exact ffa hh
  rename_i a
  cases hv with
  | cons h1 h2 =>
    cases h2
    cases h1 with
    | ptr ha =>
      obtain ⟨v, v', q1, q2, q3, q4⟩ := load1_inv hs ha hh
      rcases vInt_inv q4 with ⟨kd, n, rfl, q5⟩ | q5
      case inr => exact ffa q5
      obtain ⟨q6, q7⟩ := rec_t q5
      have q6 := isI64_inv q6
      subst q6
      cases q1
      exact .inl ⟨_, w, run_call_load he.at' he.name he.none he.next .i64 he.find q3, m, h, _, .int _ _, hs, Tn.refl m h w, q7⟩
theorem add_ok {g : Nat} {fn : Func} (he : ExtOk X.P g fn (Extern.Atomic.update (Op.intArith .add) .i64 true)) : XOk X g xAdd := by
  constructor
  intro m h w args args' k hs hv hg hh
  unfold xAdd at hh
  split at hh
  case h_2 => exact ffa hh
  rename_i a d
  cases hv with
  | cons h1 h2 =>
    cases h2 with
    | cons h3 h4 =>
    cases h4; cases h3
    cases h1 with
    | ptr ha =>
      rename_i a'
      obtain ⟨v, v', q1, q2, q3, q4⟩ := load1_inv hs ha hh
      rcases vInt_inv q4 with ⟨kd, x, rfl, q5⟩ | q5
      case inr => exact ffa q5
      obtain ⟨q6, q7⟩ := rec_t q5
      have q6 := isI64_inv q6
      subst q6
      cases q1
      obtain ⟨h2, w2, s1, s2, s3, s4⟩ := storeC_inv hs ha (n := 1) (vs := [.int .i64 (wr .i64 (iadd x d))]) (vs' := [.int .i64 (wr .i64 (iadd x d))]) (.cons (.int _ _) .nil) (by intro v hv; simp at hv; subst hv; rfl) rfl q7
      have s4 := s4 X.P
      have hz : w.frozen? a' = false ∧ w2 = w.setCell a' (.int .i64 (wr .i64 (iadd x d))) := by
        simp only [storeCells, run_store_int, stored, q3, Sem.run_bind, Addr.add_zero'] at s4
        cases hf : w.frozen? a' with
        | true => simp [hf] at s4
        | false => simp [hf] at s4; exact ⟨rfl, s4.symm⟩
      obtain ⟨hz, rfl⟩ := hz
      exact .inl ⟨_, _, run_call_add he.at' he.name he.none he.next .i64 he.find q3 hz (by rw [wr_eq, iadd_eq]; simp [Op.intArith]), m, h2, _, .int _ _, s1, s2, s3⟩
theorem make_ok {g : Nat} {fn : Func} {ps : Array TypeId} {t el : TypeId} (he : ExtOk X.P g fn (Extern.BytealgMakeNoZero.makeNoZero ps #[t])) (ht : X.P.underlying t = some (.slice el)) : XOk X g (xMake el) := by
  constructor
  intro m h w args args' k hs hv hg hh
  unfold xMake at hh
  split at hh
  case h_2 => exact ffa hh
  rename_i n
  obtain ⟨hn, hh⟩ := rec_t hh
  have hn := ble_iff.1 hn
  cases hv with
  | cons h1 h2 =>
    cases h2; cases h1
    obtain ⟨i1, i2⟩ := Hp.newC_inv hh
    obtain ⟨d1, d2⟩ := drew_sim hs
    obtain ⟨e1, e2⟩ := drew_sim d1
    have hs2 : (2 : Int) ^ 48 = 281474976710656 := by decide
    generalize hcs : Extern.BytealgMakeNoZero.digits (grownCap w n 0 el) ((Question.extern "internal/bytealg.MakeNoZero.bytes" 0).cut (w.tape (w.drawn + 1) (.extern "internal/bytealg.MakeNoZero.bytes" 0))) #[] = cs
    have hsz : cs.size = grownCap w n 0 el := by rw [← hcs, Lib.size_digits]; simp
    have hcap := cap_le w n 0 el
    have hrun : (Extern.BytealgMakeNoZero.makeNoZero ps #[t] #[.int .i64 (Int.ofNat n)]).run X.P w = .ok (.slice (some ⟨w.heap.size, 0, none⟩) n cs.size) (w.drew.drew.alloc (.cells cs el)) := by
      have hdef : Extern.BytealgMakeNoZero.makeNoZero ps #[t] #[.int .i64 (Int.ofNat n)] =
          (do
            let .slice elem ← underlying t | stuck "bytealg.MakeNoZero: slice type expected"
            if (n : Int) < 0 || (n : Int) > 2 ^ 48 then runtimePanic (.error "makeslice: len out of range")
            let cap ← choose (.appendCap (n : Int).toNat 0 elem)
            askRoom cap
            let bytes ← choose (.extern "internal/bytealg.MakeNoZero.bytes" 0)
            let a ← newRow elem (Extern.BytealgMakeNoZero.digits cap bytes #[])
            pure (.slice (some a) (n : Int).toNat cap)) := rfl
      rw [hdef]
      have h1 : ¬ (n : Int) < 0 := by omega
      have h2 : ¬ (281474976710656 : Int) < (n : Int) := by omega
      rw [hsz, ← hcs]
      simp [run_underlying ht, h1, h2, Question.forced, newRow, Lib.size_digits, grownCap]
    have hT : Trie m .lf n 1 (fun j => cs[0 + j]?) := Trie.lf m n 1 _
    have hb : BlkR m ⟨Tr.lf, n, 1, el, none⟩ ⟨w.heap.size, 0, cs.size, 1⟩ (.cells cs el) :=
      ⟨_, (0, 0), rfl, Trie.blk (p := ⟨w.heap.size, 0, cs.size, 1⟩) hT rfl rfl (by show 0 + n * 1 ≤ cs.size; omega) rfl ⟨0, by simp⟩⟩
    obtain ⟨s1, s2⟩ := e1.newB i1 rfl hb
    refine he.callR hrun ⟨_, _, _, ?_, s1, (d2.trans e2).trans s2, i2⟩
    refine .slL (p := ⟨w.heap.size, 0, cs.size, 1⟩) ⟨rfl, _, M.put_same _ _ _, by simp⟩ (M.put_same _ _ _) (by omega) ?_
    show 0 + cs.size * 1 ≤ cs.size
    omega
end Go.Ab
end
section
namespace Go.Ab
variable {X : Cx} {m m' : M} {h h' : Hp} {w w' : World} {P : Program}
/-! ### what was looked at -/
theorem srcOk_inv {s clock : Nat} {k : Bool} : ∀ {es : List (Value × Value × Nat)} {lo : Nat}, srcOk s clock k es lo = true →
    (∀ x ∈ es, (∃ t, x.1 = .string t) ∧ (∃ a, x.2.1 = .agg a ∧ a.toList.length = s) ∧ lo ≤ x.2.2 ∧ x.2.2 < clock) ∧ (es.map (·.2.2)).Nodup ∧ lo ≤ clock ∧ k = true
  | [], lo, h => by
    obtain ⟨h1, h2⟩ := rec_t (b := Nat.ble lo clock) h
    exact ⟨by simp, by simp, ble_iff.1 h1, h2⟩
  | x :: es, lo, h => by
    have h : vStr x.1 (fun _ => vAgg x.2.1 (fun vs => lenIs 321 s vs (Bool.rec (ff 322) (srcOk s clock k es (Nat.succ x.2.2)) (Nat.ble lo x.2.2))) (ff 323)) (ff 323) = true := h
    rcases vStr_inv h with ⟨t, h1, h⟩ | h
    case inr => exact ffa h
    rcases vAgg_inv h with ⟨a, h2, h⟩ | h
    case inr => exact ffa h
    obtain ⟨h3, h⟩ := lenIs_inv h
    obtain ⟨h4, h⟩ := rec_t h
    have h4 := ble_iff.1 h4
    obtain ⟨i1, i2, i3, i4⟩ := srcOk_inv h
    refine ⟨?_, ?_, by omega, i4⟩
    · intro y hy
      simp only [List.mem_cons] at hy
      rcases hy with rfl | hy
      · exact ⟨⟨t, h1⟩, ⟨a, h2, h3⟩, h4, by omega⟩
      · obtain ⟨a1, a2, a3, a4⟩ := i1 y hy; exact ⟨a1, a2, by omega, a4⟩
    · rw [List.map_cons, List.nodup_cons]
      refine ⟨fun hm => ?_, i2⟩
      obtain ⟨y, hy, he⟩ := List.mem_map.1 hm
      have := (i1 y hy).2.2.1
      omega
theorem notIn_inv {s : ByteArray} {k : Bool} : ∀ {ed : List (Value × Value)}, notIn s.data.toList k ed = true → (∀ y ∈ ed, ∃ t, y.1 = .string t ∧ t ≠ s) ∧ k = true
  | [], h => ⟨by simp, h⟩
  | y :: ed, h => by
    have h : vStr y.1 (fun t => Bool.rec (notIn s.data.toList k ed) (ff 324) (bytesEq s.data.toList t.data.toList)) (ff 324) = true := h
    rcases vStr_inv h with ⟨t, h1, h⟩ | h
    case inr => exact ffa h
    rcases rec_inv h with ⟨h2, h⟩ | ⟨_, h⟩
    case inr => exact ffa h
    obtain ⟨i1, i2⟩ := notIn_inv h
    refine ⟨?_, i2⟩
    intro z hz
    simp only [List.mem_cons] at hz
    rcases hz with rfl | hz
    · refine ⟨t, h1, ?_⟩
      intro e; subst e
      rw [bytesEq_str, (str_beq t t).2 rfl] at h2; cases h2
    · exact i1 z hz
theorem disj_inv {ed : List (Value × Value)} {k : Bool} : ∀ {es : List (Value × Value × Nat)}, disj ed k es = true → (∀ x ∈ es, ∃ s, x.1 = .string s ∧ ∀ y ∈ ed, ∃ t, y.1 = .string t ∧ t ≠ s) ∧ k = true
  | [], h => ⟨by simp, h⟩
  | x :: es, h => by
    have h : vStr x.1 (fun s => notIn s.data.toList (disj ed k es) ed) (ff 325) = true := h
    rcases vStr_inv h with ⟨t, h1, h⟩ | h
    case inr => exact ffa h
    obtain ⟨h2, h⟩ := notIn_inv h
    obtain ⟨i1, i2⟩ := disj_inv h
    refine ⟨?_, i2⟩
    intro z hz
    simp only [List.mem_cons] at hz
    rcases hz with rfl | hz
    · exact ⟨t, h1, h2⟩
    · exact i1 z hz
theorem appU_inv {k : List (Value × Value) → Bool} : ∀ {es : List (Value × Value × Nat)} {acc : List (Value × Value)}, appU k es acc = true → k ((es.map entPair).reverse ++ acc) = true
  | [], acc, h => h
  | x :: es, acc, h => by
    have h : appU k es ((x.1, x.2.1) :: acc) = true := h
    have := appU_inv h
    rw [List.map_cons, List.reverse_cons, List.append_assoc]
    exact this
/-! ### one object, said otherwise -/
theorem Tr.ins_ins {α : Type} (u v : Option α) : ∀ (p : Pth) (t : Tr α), (t.ins u p).ins v p = t.ins v p
  | .e, t => rfl
  | .o p, t => by simp [Tr.ins, Tr.ins_ins u v p]
  | .i p, t => by simp [Tr.ins, Tr.ins_ins u v p]
theorem setO_setO (h : Hp) (b : Nat) (x y : AObj) : (h.setO b x).setO b y = h.setO b y := by
  unfold Hp.setO Tr.set
  simp only [Tr.ins_ins]
theorem Sim.reobj (hs : Sim X m h w) {d : Nat} {p : Pl} {x0 x : AObj} (hm : m d = some p) (hd : h.oat d = some x0) (hx : ∀ o, ObjR X m x0 o → ObjR X m x o) : Sim X m (h.setO d x) w ∧ Tn m h w m (h.setO d x) w := by
  obtain ⟨o, h1, h2⟩ := hs.obj hm hd
  have := hs.putO (x := x) (o := o) hm hd (hx o h2)
  rwa [putObj_self h1] at this
theorem UR.of_ER : ∀ {es : List (Value × Value × Nat)} {l : List MapEntry}, ER m es l → UR m (es.map entPair) l
  | _, _, .nil => .nil
  | _, _, .cons hk hv t => .cons hk hv (UR.of_ER t)
theorem entPair_keys : ∀ (es : List (Value × Value × Nat)), (es.map entPair).map (·.1) = es.map (·.1)
  | [] => rfl
  | x :: es => by simp [entPair]
theorem entsU_inv {o : AObj} {k : List (Value × Value) → Bool} (hh : entsU o k = true) : ∃ ed, k ed = true ∧ ∀ {X : Cx} {m : M} o', ObjR X m o o' → ObjR X m (.amapU ed) o' := by
  rcases objM_inv hh with ⟨es, clock, rfl, h1⟩ | ⟨es, rfl, h1⟩
  · refine ⟨_, h1, ?_⟩
    rintro X m o' ⟨l, rfl, g1, g2⟩
    exact ⟨l, clock, l.toList, rfl, .refl _, UR.of_ER g1, by rw [entPair_keys]; exact g2⟩
  · exact ⟨_, h1, fun o' h => h⟩
theorem UR.perm {es es' : List (Value × Value)} (hp : es.Perm es') : ∀ {l : List MapEntry}, UR m es l → ∃ l', l'.Perm l ∧ UR m es' l' := by
  induction hp with
  | nil => intro l h; exact ⟨l, .refl _, h⟩
  | cons x _ ih =>
    intro l h
    cases h with
    | cons hk hv t =>
      obtain ⟨l', h1, h2⟩ := ih t
      exact ⟨_, h1.cons _, .cons hk hv h2⟩
  | swap x y l =>
    intro l h
    cases h with
    | cons hk hv t =>
      cases t with
      | cons hk2 hv2 t => exact ⟨_, .swap _ _ _, .cons hk2 hv2 (.cons hk hv t)⟩
  | trans _ _ ih1 ih2 =>
    intro l h
    obtain ⟨l1, h1, h2⟩ := ih1 h
    obtain ⟨l2, h3, h4⟩ := ih2 h2
    exact ⟨l2, h3.trans h1, h4⟩
theorem ObjR.perm {es es' : List (Value × Value)} (hp : es.Perm es') {o : Obj} (h : ObjR X m (.amapU es) o) : ObjR X m (.amapU es') o := by
  obtain ⟨l, c, l', rfl, h1, h2, h3⟩ := h
  obtain ⟨l2, h4, h5⟩ := h2.perm hp
  exact ⟨l, c, l2, rfl, h4.trans h1, h5, (hp.map _).nodup_iff.1 h3⟩
/-! ### one operation -/
def OpIs (ops : Array Oper) (i : Nat) (d : Option Nat) (op : Op) : Prop := ∃ o, ops[i]? = some o ∧ o.dst = d ∧ o.op = op ∧ o.guard = none
theorem op_val {ops : Array Oper} {i : Nat} {d : Option Nat} {op : Op} (hi : OpIs ops i d op) (hd : ∀ q, op ≠ .defer q) {a : Act} {v : Value} {r : Option Nat} {Q : Exit → Act → World → Prop} {K : Act → World → Prop}
    (hrun : ∀ o : Oper, o.op = op → (execOp a.eval o).run P w = .ok (.value v) w') (hK : K (a.put d v) w') : wpOpIn (wideAt r) 0 P ops Q i K a w := by
  obtain ⟨o, h1, h2, h3, h4⟩ := hi
  unfold wpOpIn
  simp only [h1]
  rw [if_pos (by simp [Region.wanted, h4])]
  refine ⟨fun _ _ => trivial, ?_⟩
  rw [Oper.semAt_eq _ _ _ (by rw [h3]; exact hd), hrun o h3]
  show K (a.put o.dst v) w'
  rw [h2]; exact hK
theorem op_skip {ops : Array Oper} {i : Nat} {op : Op} (hi : OpIs ops i none op) (hd : ∀ q, op ≠ .defer q) {a : Act} {r : Option Nat} {Q : Exit → Act → World → Prop} {K : Act → World → Prop}
    (hrun : ∀ o : Oper, o.op = op → (execOp a.eval o).run P w = .ok .skip w') (hK : K a w') : wpOpIn (wideAt r) 0 P ops Q i K a w := by
  obtain ⟨o, h1, h2, h3, h4⟩ := hi
  unfold wpOpIn
  simp only [h1]
  rw [if_pos (by simp [Region.wanted, h4])]
  refine ⟨fun _ _ => trivial, ?_⟩
  rw [Oper.semAt_eq _ _ _ (by rw [h3]; exact hd), hrun o h3]
  show K (a.put o.dst _) w'
  rw [h2]; exact hK
/-- the act's places -/
structure Tm (a : Act) (n : Nat) (f : Nat → Value) : Prop where
  size : a.tmps.size = n
  df : a.defers = []
  get : ∀ t, a.tmps.getD t undef = f t
theorem Tm.put {a : Act} {n : Nat} {f : Nat → Value} (h : Tm a n f) {d : Nat} (hd : d < n) (v : Value) : Tm (a.put (some d) v) n (fun t => if t = d then v else f t) := by
  refine ⟨by rw [put_size]; exact h.size, by rw [put_defers]; exact h.df, fun t => ?_⟩
  rw [put_getD _ _ _ _ (by intro u hu; injection hu with hu; rw [h.size]; omega), h.get]
  by_cases e : t = d
  · subst e; simp
  · have : ¬ (some d = some t) := by intro e2; injection e2 with e2; exact e e2.symm
    rw [if_neg this, if_neg e]
theorem Tm.eval {a : Act} {n : Nat} {f : Nat → Value} (h : Tm a n f) (t : Nat) : a.eval (.tmp t) = f t := h.get t
end Go.Ab
end
section
namespace Go.Ab
variable {X : Cx} {m m' : M} {h h' : Hp} {w w' : World} {P : Program}
/-- the code of maps.Copy -/
structure CopyFn (P : Program) (g : Nat) (fn : Func) (mt kt vt : TypeId) (s : Nat) : Prop where
  at' : P.funcs[g]? = some fn
  name : fn.name ≠ "runtime.NumGoroutine"
  ntmps : fn.ntmps = 16
  res : fn.results = #[]
  body : ∃ r0 r1 r2 r3, fn.body = some (.seq (.region 0 r0 false) (.block 0 (.loop (.seq (.region 1 r1 false) (.seq (.cond (.tmp 9) .skip (.exit 0)) (.block 1 (.seq (.region 2 r2 false) (.region 3 r3 false)))))))) ∧
    (r0.size = 2 ∧ OpIs r0 0 (some 6) (.move (.tmp 1)) ∧ OpIs r0 1 (some 7) (.range mt (.tmp 6))) ∧
    (r1.size = 2 ∧ OpIs r1 0 (some 8) (.next (.tmp 7) false) ∧ OpIs r1 1 (some 9) (.extract (.tmp 8) 0)) ∧
    (r2.size = 6 ∧ OpIs r2 0 (some 10) (.entry (.tmp 7)) ∧ OpIs r2 1 (some 11) (.extract (.tmp 10) 0) ∧ OpIs r2 2 (some 12) (.extract (.tmp 10) 1) ∧ OpIs r2 3 (some 5) (.alloc vt) ∧ OpIs r2 4 (some 4) (.assign (.tmp 11)) ∧ OpIs r2 5 none (.store vt (.tmp 5) (.tmp 12))) ∧
    (r3.size = 4 ∧ OpIs r3 0 (some 13) (.move (.tmp 0)) ∧ OpIs r3 1 (some 14) (.move (.tmp 4)) ∧ OpIs r3 2 (some 15) (.load vt (.tmp 5)) ∧ OpIs r3 3 none (.mapUpdate mt (.tmp 13) (.tmp 14) (.tmp 15)))
  hmt : P.underlying mt = some (.map kt vt)
  hkt : P.underlying kt = some .string
  hvt : TK P vt s true
  hz : ∃ z, ZOk P vt s z
theorem scan_none {t : TypeId} (ht : P.underlying t = some .string) {x : ByteArray} {l : List Value} (hl : ∀ y ∈ l, ∃ s, y = .string s) (hx : Value.string x ∉ l) : Scan P t (.sc 1) (.string x) l none := by
  obtain ⟨r, h1⟩ := Scan.of_all (P := P) (t := t) (kd := .sc 1) (x := .string x) l (by
    intro y hy
    obtain ⟨s, rfl⟩ := hl y hy
    have hd := ScD.str x s
    have hT : ScT P t 1 := .inr (.inl ⟨rfl, ht⟩)
    refine ⟨_, hd.iff, fun d w => hd.run hT (d + 199) w, fun n' e desc hd' => ?_⟩
    injection e with e; subst e
    exact hd.now hT hd')
  cases r with
  | none => exact h1
  | some i => exact absurd (List.mem_of_getElem? (h1.some_eq rfl)) hx
theorem upd_run {mt kt vt : TypeId} (hmt : P.underlying mt = some (.map kt vt)) (hkt : P.underlying kt = some .string) {r : Nat} {l : Array MapEntry} {c : Nat} (hw : w.heap[r]? = some (.map l c)) {x : ByteArray}
    (hl : ∀ y ∈ l.toList.map (·.key), ∃ s, y = .string s) (hx : Value.string x ∉ l.toList.map (·.key)) (v : Value) :
    (Instr.mapUpdate mt (.map (some r)) (.string x) v).run P w = .ok () (w.putObj r (.map (l.push ⟨.string x, v, c⟩) (c + 1))) := by
  have hk : KdOK P kt (.sc 1) := .inr (.inl ⟨rfl, hkt⟩)
  have hkv : KeyV (.sc 1) (.string x) := .sc (.str _)
  have hf := findKey_run (P := P) hk hkv w (scan_none hkt hl hx)
  simp [Instr.mapUpdate, run_underlying hmt, checkKey_run hk hkv, getMap_run hw, hf, hitAt, setMap_run hw]
/-- a value of s cells, laid into a new block -/
theorem laid_run {vt : TypeId} {s : Nat} (hk : TK P vt s true) {a : Array Value} (ha : a.size = s) (hc : ∀ v ∈ a.toList, v.oneCell' = true) {z : Array Value} (hz : z.size = s) {r : Nat} (hw : w.heap[r]? = some (.cells z vt)) :
    (Instr.storeAt vt (.pointer (some ⟨r, 0, none⟩)) (.agg a)).run P w = .ok () (w.putObj r (.cells (overA z 0 a.toList) vt)) := by
  have h1 := run_storeCells P (b := r) (off := 0) (e := vt) (fr := (0, 0)) a.toList 0 w z hw hc (fun j hj => by simp at hj; omega) (fun _ => .inl (Nat.zero_le _))
  simp only [Nat.zero_add] at h1
  simp [Instr.storeAt, Instr.sureAddr, storeVar, hk.size w, ha, Value.cells, h1]
/-- and read again -/
theorem read_run {vt : TypeId} {s : Nat} (hk : TK P vt s true) {a : Array Value} (ha : a.size = s) {z : Array Value} (hz : z.size = s) {r : Nat} (hw : w.heap[r]? = some (.cells (overA z 0 a.toList) vt)) :
    (Instr.loadAt vt (.pointer (some ⟨r, 0, none⟩))).run P w = .ok (.agg a) w := by
  have h1 := run_loadCells_list (P := P) w ⟨r, 0, none⟩ a.toList (fun j v hv => by
    have hj := (List.getElem?_eq_some_iff.1 hv).1
    simp only [Array.length_toList] at hj
    have hg : (overA z 0 a.toList)[j]? = some v := by
      rw [overA_get, if_pos (by omega), if_pos (by simp; omega)]
      simpa using hv
    rw [add_none]
    simp [World.cell?, hw, hg])
  have h2 : a.toList.length = s := by simpa using ha
  rw [h2] at h1
  simp [Instr.loadAt, Instr.sureAddr, loadVar, hk.agg w, hk.size w, h1]
theorem ER.mem : ∀ {es : List (Value × Value × Nat)} {l : List MapEntry} {e : MapEntry}, ER m es l → e ∈ l → ∃ x ∈ es, x.1 = e.key ∧ x.2.2 = e.born ∧ VR m x.2.1 e.val
  | _, _, _, .cons (k := k) (v := v) (b := b) hk hv t, he => by
    simp only [List.mem_cons] at he
    rcases he with rfl | he
    · exact ⟨(k, v, b), by simp, rfl, rfl, hv⟩
    · obtain ⟨x, h1, h2⟩ := ER.mem t he
      exact ⟨x, List.mem_cons_of_mem _ h1, h2⟩
theorem ER.mem' : ∀ {es : List (Value × Value × Nat)} {l : List MapEntry} {x : Value × Value × Nat}, ER m es l → x ∈ es → ∃ e ∈ l, x.1 = e.key ∧ x.2.2 = e.born
  | _, _, _, .cons (k := k) (v := v) (v' := v') (b := b) hk hv t, he => by
    simp only [List.mem_cons] at he
    rcases he with rfl | he
    · exact ⟨⟨k, v', b⟩, by simp, rfl, rfl⟩
    · obtain ⟨x, h1, h2⟩ := ER.mem' t he
      exact ⟨x, List.mem_cons_of_mem _ h1, h2⟩
theorem ER.borns : ∀ {es : List (Value × Value × Nat)} {l : List MapEntry}, ER m es l → l.map (·.born) = es.map (·.2.2)
  | _, _, .nil => rfl
  | _, _, .cons hk hv t => by rw [List.map_cons, List.map_cons, ER.borns t]
/-- the loop's state -/
structure CopyI (X : Cx) (m : M) (h : Hp) (w0 : World) (d : Nat) (pd ps : Pl) (es : List (Value × Value × Nat)) (ed : List (Value × Value)) (clock it : Nat) (E : List (Value × Value)) (seen : Array Nat) (c0 : Nat) (a : Act) (w : World) : Prop where
  sim : Sim X m (h.setO d (.amapU (E ++ ed))) w
  tn : Tn m h w0 m (h.setO d (.amapU (E ++ ed))) w
  iter : w.heap[it]? = some (.mapIter (some ps.b) clock seen c0)
  c0 : clock ≤ c0
  size : a.tmps.size = 16
  df : a.defers = []
  t0 : a.tmps.getD 0 undef = .map (some pd.b)
  t7 : a.tmps.getD 7 undef = .pointer (some ⟨it, 0, none⟩)
  perm : E.Perm ((es.filter (fun x => seen.contains x.2.2)).map entPair)
theorem filter_one {α : Type} (p : α → Bool) (f : α → Nat) (c : Nat) : ∀ {l : List α} {x : α}, x ∈ l → (l.map f).Nodup → p x = false → f x = c → (l.filter (fun y => p y || f y == c)).Perm (x :: l.filter p)
  | y :: l, x, hx, hn, hp, hf => by
    rw [List.map_cons, List.nodup_cons] at hn
    simp only [List.mem_cons] at hx
    by_cases hxy : x = y
    · subst hxy
      have : l.filter (fun y => p y || f y == c) = l.filter p := by
        apply List.filter_congr
        intro z hz
        have : f z ≠ c := fun e => hn.1 (List.mem_map.2 ⟨z, hz, by rw [e, hf]⟩)
        simp [this]
      rw [List.filter_cons, List.filter_cons, this]
      simp [hp, hf]
    · have hx := hx.resolve_left hxy
      have hy : f y ≠ c := fun e => hn.1 (List.mem_map.2 ⟨x, hx, by rw [hf, e]⟩)
      have ih := filter_one p f c hx hn.2 hp hf
      rw [List.filter_cons, List.filter_cons]
      cases hpy : p y with
      | true => simp only [Bool.true_or, if_true]; exact (ih.cons y).trans (.swap _ _ _)
      | false => simp [hy]; exact ih
theorem filter_none {α : Type} {p : α → Bool} {l : List α} (h : ∀ x ∈ l, p x = true) : l.filter p = l := List.filter_eq_self.2 h
/-- a round's body: the entry is laid into the map -/
theorem copy_round {g : Nat} {fn : Func} {mt kt vt : TypeId} {s : Nat} (F : CopyFn X.P g fn mt kt vt s) {w0 : World} {d : Nat} {pd ps : Pl} {es : List (Value × Value × Nat)} {ed : List (Value × Value)} {clock it : Nat} {ls : Array MapEntry} {x0 : AObj}
    (hs0 : Sim X m h w0) (hmd : m d = some pd) (hd0 : h.oat d = some x0) (hne : ps.b ≠ pd.b) (hps : ps.b < w0.heap.size)
    (hes : ∀ x ∈ es, (∃ t, x.1 = .string t) ∧ (∃ a, x.2.1 = .agg a ∧ a.toList.length = s) ∧ 0 ≤ x.2.2 ∧ x.2.2 < clock) (hnd : (es.map (·.2.2)).Nodup) (hdj : ∀ x ∈ es, ∃ s, x.1 = .string s ∧ ∀ y ∈ ed, ∃ t, y.1 = .string t ∧ t ≠ s)
    (her : ER m es ls.toList) (hkn : (es.map (·.1)).Nodup) (hit : w0.heap.size ≤ it) {r2 r3 : Array Oper}
    (o2 : r2.size = 6 ∧ OpIs r2 0 (some 10) (.entry (.tmp 7)) ∧ OpIs r2 1 (some 11) (.extract (.tmp 10) 0) ∧ OpIs r2 2 (some 12) (.extract (.tmp 10) 1) ∧ OpIs r2 3 (some 5) (.alloc vt) ∧ OpIs r2 4 (some 4) (.assign (.tmp 11)) ∧ OpIs r2 5 none (.store vt (.tmp 5) (.tmp 12)))
    (o3 : r3.size = 4 ∧ OpIs r3 0 (some 13) (.move (.tmp 0)) ∧ OpIs r3 1 (some 14) (.move (.tmp 4)) ∧ OpIs r3 2 (some 15) (.load vt (.tmp 5)) ∧ OpIs r3 3 none (.mapUpdate mt (.tmp 13) (.tmp 14) (.tmp 15)))
    {E : List (Value × Value)} {seen : Array Nat} {c0 : Nat} {e : MapEntry} (he : e ∈ ls.toList) (hns : seen.contains e.born = false) {a : Act} {w : World}
    (hsim : Sim X m (h.setO d (.amapU (E ++ ed))) w) (htn : Tn m h w0 m (h.setO d (.amapU (E ++ ed))) w) (hiter : w.heap[it]? = some (.mapIter (some ps.b) clock (seen.push e.born) clock)) (hsrc : w.heap[ps.b]? = some (.map ls clock))
    (hsz : a.tmps.size = 16) (hdf : a.defers = []) (ht0 : a.tmps.getD 0 undef = .map (some pd.b)) (ht7 : a.tmps.getD 7 undef = .pointer (some ⟨it, 0, none⟩)) (hperm : E.Perm ((es.filter (fun x => seen.contains x.2.2)).map entPair))
    {Q : Exit → Act → World → Prop} (hQ : ∀ E' a' w', CopyI X m h w0 d pd ps es ed clock it E' (seen.push e.born) clock a' w' → Q .normal a' w') :
    (Code.block 1 (.seq (.region 2 r2 false) (.region 3 r3 false))).wpIn (wideAt none) 0 X.P Q a w := by
  obtain ⟨x, hx, hx1, hx2, hxv⟩ := her.mem he
  obtain ⟨⟨ks, hks⟩, ⟨av, hav, hal⟩, _, hxb⟩ := hes x hx
  rw [hav] at hxv
  generalize hev : e.val = ev at hxv
  cases hxv with
  | agg hvr hcell =>
  rename_i av'
  have hasz : av'.size = s := by rw [← hal, hvr.length]; simp
  have hone : ∀ v ∈ av'.toList, v.oneCell' = true := by
    intro v hv
    obtain ⟨i, hi⟩ := List.mem_iff_getElem?.1 hv
    obtain ⟨u, hu⟩ : ∃ u, av.toList[i]? = some u := ⟨_, List.getElem?_eq_getElem (by rw [hvr.length]; exact (List.getElem?_eq_some_iff.1 hi).1)⟩
    obtain ⟨y, hy, hr⟩ := hvr.get hu
    rw [hi] at hy; injection hy with hy; subst hy
    exact (hr.cell (hcell u (List.mem_of_getElem? hu))).1
  obtain ⟨z, hz⟩ := F.hz
  obtain ⟨ti, zv, i1, i2, i3, i4⟩ := hz.info
  have hzs : zv.cells.size = s := by rw [← hz.len, ← i4]; simp
  have hkey : e.key = .string ks := by rw [← hx1, hks]
  obtain ⟨f, hf⟩ : ∃ f : Nat → Value, ∀ t, a.tmps.getD t undef = f t := ⟨_, fun _ => rfl⟩
  have T0 : Tm a 16 f := ⟨hsz, hdf, hf⟩
  rw [hf] at ht0 ht7
  obtain ⟨z2, q0, q1, q2, q3, q4, q5⟩ := o2
  obtain ⟨z3, p0, p1, p2, p3⟩ := o3
  have T1 := T0.put (d := 10) (by omega) (.tuple #[e.key, e.val])
  have T2 := T1.put (d := 11) (by omega) e.key
  have T3 := T2.put (d := 12) (by omega) e.val
  have T4 := T3.put (d := 5) (by omega) (.pointer (some ⟨w.heap.size, 0, none⟩))
  have T5 := T4.put (d := 4) (by omega) e.key
  have T6 := T5.put (d := 13) (by omega) (.map (some pd.b))
  have T7 := T6.put (d := 14) (by omega) e.key
  have T8 := T7.put (d := 15) (by omega) e.val
  -- the worlds
  have hlt : it < w.heap.size := (Array.getElem?_eq_some_iff.1 hiter).1
  obtain ⟨s1, t1⟩ := hsim.alloc (.cells zv.cells vt)
  have hu : ∀ b p, m b = some p → p.b ≠ w.heap.size := fun b p hb => by have := hsim.bound b p hb; omega
  have s2 := s1.hidden (r := w.heap.size) (by simp) hu hsim.stat.1.1 (.cells (overA zv.cells 0 av'.toList) vt)
  have t2 := (htn.trans t1).hidden (r := w.heap.size) htn.size (.cells (overA zv.cells 0 av'.toList) vt)
  generalize hw2 : (w.alloc (.cells zv.cells vt)).putObj w.heap.size (.cells (overA zv.cells 0 av'.toList) vt) = w2 at s2 t2
  have hw2o : ∀ k, k < w.heap.size → w2.heap[k]? = w.heap[k]? := by
    intro k hk
    rw [← hw2, World.putObj_heap_other (by omega), alloc_heap, if_neg (by omega)]
  have hw2n : w2.heap[w.heap.size]? = some (.cells (overA zv.cells 0 av'.toList) vt) := by
    rw [← hw2]; exact World.putObj_heap_same (by simp)
  have hd1 : (h.setO d (.amapU (E ++ ed))).oat d = some (.amapU (E ++ ed)) := by rw [Hp.oat_setO hd0]; simp
  obtain ⟨od, hod, hor⟩ := s2.obj hmd hd1
  obtain ⟨ld, cd, ld', rfl, hp1, hur, hnk⟩ := hor
  -- the key is new
  have hkeysE : ∀ y ∈ E ++ ed, (∃ t, y.1 = .string t) ∧ y.1 ≠ .string ks := by
    intro y hy
    rw [List.mem_append] at hy
    rcases hy with hy | hy
    · have hy2 := hperm.mem_iff.1 hy
      obtain ⟨x2, hx2m, rfl⟩ := List.mem_map.1 hy2
      rw [List.mem_filter] at hx2m
      refine ⟨(hes x2 hx2m.1).1, fun hh => ?_⟩
      have hh : x2.1 = .string ks := hh
      have : x2 = x := by
        have hinj : ∀ {l : List (Value × Value × Nat)}, (l.map (·.1)).Nodup → ∀ {y z}, y ∈ l → z ∈ l → y.1 = z.1 → y = z := by
          intro l
          induction l with
          | nil => intro _ y z hy; simp at hy
          | cons u l ih =>
            intro hn y z hy hz e
            rw [List.map_cons, List.nodup_cons] at hn
            simp only [List.mem_cons] at hy hz
            rcases hy with rfl | hy <;> rcases hz with rfl | hz
            · rfl
            · exact absurd (List.mem_map.2 ⟨z, hz, e.symm⟩) hn.1
            · exact absurd (List.mem_map.2 ⟨y, hy, e⟩) hn.1
            · exact ih hn.2 hy hz e
        exact hinj hkn hx2m.1 hx (by rw [hh, hks])
      subst this
      have := hx2m.2
      rw [hx2, hns] at this; cases this
    · obtain ⟨s', h1, h2⟩ := hdj x hx
      rw [hks] at h1; injection h1 with h1; subst h1
      obtain ⟨t, h3, h4⟩ := h2 y hy
      exact ⟨⟨t, h3⟩, fun hh => by rw [h3] at hh; injection hh with hh; exact h4 hh⟩
  have hkl : ∀ y ∈ ld.toList.map (·.key), (∃ t, y = .string t) ∧ y ≠ .string ks := by
    intro y hy
    obtain ⟨en, hen, rfl⟩ := List.mem_map.1 hy
    obtain ⟨yy, hyy, h1, _⟩ := hur.mem (hp1.mem_iff.2 hen)
    rw [← h1]; exact hkeysE yy hyy
  have hrunU := upd_run F.hmt F.hkt hod (x := ks) (fun y hy => (hkl y hy).1) (fun hh => (hkl _ hh).2 rfl) e.val
  -- the last step's relation
  obtain ⟨s3, t3⟩ := s2.putO (x := .amapU ((entPair x :: E) ++ ed)) (o := .map (ld.push ⟨.string ks, e.val, cd⟩) (cd + 1)) hmd hd1
    ⟨_, _, ⟨.string ks, e.val, cd⟩ :: ld', rfl, by rw [Array.toList_push]; exact (List.perm_append_comm (l₁ := [_])).trans (hp1.append_right _) |>.symm.symm, by
      rw [List.cons_append]
      have : entPair x = (.string ks, .agg av) := by unfold entPair; rw [hks, hav]
      rw [this, hev]
      exact .cons rfl (.agg hvr hcell) hur, by
      rw [List.cons_append, List.map_cons, List.nodup_cons]
      refine ⟨fun hh => ?_, hnk⟩
      obtain ⟨y, hy, hye⟩ := List.mem_map.1 hh
      exact (hkeysE y hy).2 (by rw [hye]; exact hks)⟩
  rw [setO_setO] at s3 t3
  have hI : ∀ a' : Act, Tm a' 16 (fun t => (if t = 15 then e.val else if t = 14 then e.key else if t = 13 then .map (some pd.b) else if t = 4 then e.key else if t = 5 then .pointer (some ⟨w.heap.size, 0, none⟩) else if t = 12 then e.val else if t = 11 then e.key else if t = 10 then .tuple #[e.key, e.val] else f t)) →
      CopyI X m h w0 d pd ps es ed clock it (entPair x :: E) (seen.push e.born) clock a' (w2.putObj pd.b (.map (ld.push ⟨.string ks, e.val, cd⟩) (cd + 1))) := by
    intro a' Ta
    refine ⟨s3, t2.trans t3, ?_, Nat.le_refl _, Ta.size, Ta.df, by rw [Ta.get]; simpa using ht0, by rw [Ta.get]; simpa using ht7, ?_⟩
    · rw [World.putObj_heap_other (by have := hs0.bound d pd hmd; omega), hw2o it hlt]; exact hiter
    · have h1 : es.filter (fun y => (seen.push e.born).contains y.2.2) = es.filter (fun y => seen.contains y.2.2 || y.2.2 == e.born) := by
        apply List.filter_congr
        intro y _
        rw [Array.contains_push]
      rw [h1]
      have h2 := (filter_one (fun y : Value × Value × Nat => seen.contains y.2.2) (fun y => y.2.2) e.born hx hnd (by show seen.contains x.2.2 = false; rw [hx2]; exact hns) hx2).map entPair
      exact (hperm.cons _).trans h2.symm
  refine wpIn_block ?_
  refine wpIn_seq (wpIn_region ?_)
  rw [z2]
  show wpOpsIn _ _ _ _ _ [0, 1, 2, 3, 4, 5] _ _
  simp only [wpOpsIn_cons]
  have hent := run_entry_at (P := X.P) w it ps.b clock seen ls clock e hiter hsrc he (by rw [her.borns]; exact hnd)
  refine op_val q0 (by simp) (v := .tuple #[e.key, e.val]) (w' := w) (fun o ho => by have h1 := (T0.eval 7).trans ht7; simp [execOp, ho, h1, hent]) ?_
  refine op_val q1 (by simp) (v := e.key) (w' := w) (fun o ho => by have h1 : _ = Value.tuple #[e.key, e.val] := T1.eval 10; simp [execOp, ho, h1, Instr.extract]) ?_
  refine op_val q2 (by simp) (v := e.val) (w' := w) (fun o ho => by have h1 : _ = Value.tuple #[e.key, e.val] := T2.eval 10; simp [execOp, ho, h1, Instr.extract]) ?_
  refine op_val q3 (by simp) (v := .pointer (some ⟨w.heap.size, 0, none⟩)) (w' := w.alloc (.cells zv.cells vt)) (fun o ho => by simp [execOp, ho, alloc_run i1 i3 w]) ?_
  refine op_val q4 (by simp) (v := e.key) (w' := w.alloc (.cells zv.cells vt)) (fun o ho => by have h1 : _ = e.key := T4.eval 11; simp [execOp, ho, h1]) ?_
  have hst := laid_run (w := w.alloc (.cells zv.cells vt)) F.hvt hasz hone hzs (r := w.heap.size) (by rw [alloc_heap]; simp)
  rw [hw2] at hst
  refine op_skip q5 (by simp) (w' := w2) (fun o ho => by have h1 : _ = Value.pointer _ := T5.eval 5; have h2 : _ = e.val := T5.eval 12; simp only [execOp, ho, h1, h2]; rw [hev]; simp [hst]) ?_
  show (Code.region 3 r3 false).wpIn _ _ _ _ _ _
  refine wpIn_region ?_
  rw [z3]
  show wpOpsIn _ _ _ _ _ [0, 1, 2, 3] _ _
  simp only [wpOpsIn_cons]
  refine op_val p0 (by simp) (v := .map (some pd.b)) (w' := w2) (fun o ho => by have h1 : _ = f 0 := T5.eval 0; simp [execOp, ho, h1, ht0]) ?_
  refine op_val p1 (by simp) (v := e.key) (w' := w2) (fun o ho => by have h1 : _ = e.key := T6.eval 4; simp [execOp, ho, h1]) ?_
  have hld := read_run (w := w2) F.hvt hasz hzs hw2n
  refine op_val p2 (by simp) (v := e.val) (w' := w2) (fun o ho => by have h1 : _ = Value.pointer _ := T7.eval 5; simp only [execOp, ho, h1]; simp [hld]; exact hev.symm) ?_
  refine op_skip p3 (by simp) (w' := w2.putObj pd.b (.map (ld.push ⟨.string ks, e.val, cd⟩) (cd + 1))) (fun o ho => by have h1 : _ = Value.map (some pd.b) := T8.eval 13; have h2 : _ = e.key := T8.eval 14; have h3 : _ = e.val := T8.eval 15; simp only [execOp, ho, h1, h2, h3]; rw [hkey]; simp [hrunU]) ?_
  show Exit.inBlock 1 Q .normal _ _
  exact hQ _ _ _ (hI _ T8)
end Go.Ab
end
section
namespace Go.Ab
variable {X : Cx} {m m' : M} {h h' : Hp} {w w' : World} {P : Program}
def leftN (es : List (Value × Value × Nat)) (it : Nat) (w : World) : Nat := match w.heap[it]? with
  | some (.mapIter _ _ seen _) => (es.filter (fun x => !seen.contains x.2.2)).length
  | _ => 0
theorem left_lt {es : List (Value × Value × Nat)} {seen : Array Nat} {b : Nat} {x : Value × Value × Nat} (hx : x ∈ es) (hb : x.2.2 = b) (hs : seen.contains b = false) :
    (es.filter (fun x => !(seen.push b).contains x.2.2)).length < (es.filter (fun x => !seen.contains x.2.2)).length := by
  have h1 : es.filter (fun x => !(seen.push b).contains x.2.2) = (es.filter (fun x => !seen.contains x.2.2)).filter (fun x => !(x.2.2 == b)) := by
    rw [List.filter_filter]
    apply List.filter_congr
    intro y _
    rw [Array.contains_push]
    cases seen.contains y.2.2 <;> cases (y.2.2 == b) <;> rfl
  rw [h1, List.length_filter_lt_length_iff_exists]
  exact ⟨x, List.mem_filter.2 ⟨hx, by rw [hb, hs]; rfl⟩, by simp [hb]⟩
theorem copy_loop {g : Nat} {fn : Func} {mt kt vt : TypeId} {s : Nat} (F : CopyFn X.P g fn mt kt vt s) {w0 : World} {d r : Nat} {pd ps : Pl} {es : List (Value × Value × Nat)} {ed : List (Value × Value)} {clock it : Nat} {x0 : AObj}
    (hs0 : Sim X m h w0) (hmd : m d = some pd) (hmr : m r = some ps) (hd0 : h.oat d = some x0) (hr0 : h.oat r = some (.amap es clock)) (hdr : d ≠ r)
    (hes : ∀ x ∈ es, (∃ t, x.1 = .string t) ∧ (∃ a, x.2.1 = .agg a ∧ a.toList.length = s) ∧ 0 ≤ x.2.2 ∧ x.2.2 < clock) (hnd : (es.map (·.2.2)).Nodup) (hdj : ∀ x ∈ es, ∃ s, x.1 = .string s ∧ ∀ y ∈ ed, ∃ t, y.1 = .string t ∧ t ≠ s)
    (hit : w0.heap.size ≤ it) {r1 r2 r3 : Array Oper}
    (o1 : r1.size = 2 ∧ OpIs r1 0 (some 8) (.next (.tmp 7) false) ∧ OpIs r1 1 (some 9) (.extract (.tmp 8) 0))
    (o2 : r2.size = 6 ∧ OpIs r2 0 (some 10) (.entry (.tmp 7)) ∧ OpIs r2 1 (some 11) (.extract (.tmp 10) 0) ∧ OpIs r2 2 (some 12) (.extract (.tmp 10) 1) ∧ OpIs r2 3 (some 5) (.alloc vt) ∧ OpIs r2 4 (some 4) (.assign (.tmp 11)) ∧ OpIs r2 5 none (.store vt (.tmp 5) (.tmp 12)))
    (o3 : r3.size = 4 ∧ OpIs r3 0 (some 13) (.move (.tmp 0)) ∧ OpIs r3 1 (some 14) (.move (.tmp 4)) ∧ OpIs r3 2 (some 15) (.load vt (.tmp 5)) ∧ OpIs r3 3 none (.mapUpdate mt (.tmp 13) (.tmp 14) (.tmp 15)))
    {E : List (Value × Value)} {seen : Array Nat} {c0 : Nat} {a : Act} {w : World} (hI : CopyI X m h w0 d pd ps es ed clock it E seen c0 a w)
    {Q : Exit → Act → World → Prop} (hQ : ∀ E seen c0 a' w', CopyI X m h w0 d pd ps es ed clock it E seen c0 a' w' → E.Perm (es.map entPair) → Q (.exit 0) a' w') :
    (Code.loop (.seq (.region 1 r1 false) (.seq (.cond (.tmp 9) .skip (.exit 0)) (.block 1 (.seq (.region 2 r2 false) (.region 3 r3 false)))))).wpIn (wideAt none) 0 X.P Q a w := by
  have hps := hs0.bound r ps hmr
  have hne : ps.b ≠ pd.b := by
    intro e
    exact hdr (hs0.inj d r pd ps (live_iff_oat hd0) (live_iff_oat hr0) hmd hmr e.symm)
  refine wpIn_loop (fun a w => ∃ E seen c0, CopyI X m h w0 d pd ps es ed clock it E seen c0 a w) (fun _ w => leftN es it w) ⟨E, seen, c0, hI⟩ ?_
  clear hI
  rintro a w ⟨E, seen, c0, I⟩
  have hr1 : (h.setO d (.amapU (E ++ ed))).oat r = some (.amap es clock) := by rw [Hp.oat_setO hd0, if_neg (fun e => hdr e.symm)]; exact hr0
  obtain ⟨os, hsrc, hos⟩ := I.sim.obj hmr hr1
  obtain ⟨ls, rfl, her, hkn⟩ := hos
  have hold : ∀ x ∈ ls.toList, x.born < clock := by
    intro e he
    obtain ⟨x, hx, _, h2, _⟩ := her.mem he
    rw [← h2]; exact (hes x hx).2.2.2
  obtain ⟨z1, n0, n1⟩ := o1
  have hit2 : ∀ b p, m b = some p → p.b ≠ it := fun b p hb => by have := hs0.bound b p hb; omega
  obtain ⟨f, hf⟩ : ∃ f : Nat → Value, ∀ t, a.tmps.getD t undef = f t := ⟨_, fun _ => rfl⟩
  have T0 : Tm a 16 f := ⟨I.size, I.df, hf⟩
  have ht0 := I.t0
  have ht7 := I.t7
  rw [hf] at ht0 ht7
  have h7 := (T0.eval 7).trans ht7
  refine wpIn_seq (wpIn_region ?_)
  rw [z1]
  show wpOpsIn _ _ _ _ _ [0, 1] _ _
  simp only [wpOpsIn_cons]
  have hnx := fun ty => run_next_at (P := X.P) w ty it ps.b clock c0 seen ls clock I.iter hsrc hold I.c0
  obtain ⟨o, ho1, ho2, ho3, ho4⟩ := n0
  rcases hnx o.type with ⟨hl0, hn⟩ | ⟨e, he, w1, hw1, hn⟩
  · -- nothing is left
    have hall : ∀ x ∈ es, seen.contains x.2.2 = true := by
      intro x hx
      obtain ⟨e, h1, _, h2⟩ := her.mem' hx
      cases hc : seen.contains x.2.2 with
      | true => rfl
      | false =>
        exfalso
        have : e ∈ leftOf ls seen := by
          unfold leftOf
          rw [Array.mem_filter]
          exact ⟨by simpa using h1, by rw [← h2, hc]; rfl⟩
        have h3 := Array.eq_empty_of_size_eq_zero hl0
        rw [h3] at this; simp at this
    have hperm : E.Perm (es.map entPair) := by
      have := I.perm
      rwa [filter_none hall] at this
    unfold wpOpIn
    simp only [ho1]
    rw [if_pos (by simp [Region.wanted, ho4])]
    refine ⟨fun _ _ => trivial, ?_⟩
    rw [Oper.semAt_eq _ _ _ (by rw [ho3]; simp)]
    have hx : (execOp a.eval o).run X.P w = .ok (.value (.tuple #[.bool false])) w := by simp [execOp, ho3, h7, hn]
    rw [hx]
    show (wpOpsIn _ _ _ _ _ [1] (a.put o.dst _) w)
    rw [ho2]
    have T1 := T0.put (d := 8) (by omega) (.tuple #[.bool false])
    simp only [wpOpsIn_cons]
    refine op_val n1 (by simp) (v := .bool false) (w' := w) (fun o ho => by have h1 : _ = Value.tuple #[.bool false] := T1.eval 8; simp [execOp, ho, h1, Instr.extract]) ?_
    have T2 := T1.put (d := 9) (by omega) (.bool false)
    show (Code.seq _ _).wpIn _ _ _ _ _ _
    refine wpIn_seq (wpIn_cond_false (T2.eval 9) (wpIn_exit ?_))
    exact hQ E seen c0 _ w ⟨I.sim, I.tn, I.iter, I.c0, T2.size, T2.df, by rw [T2.get]; exact ht0, by rw [T2.get]; exact ht7, I.perm⟩ hperm
  · -- an entry has come
    have hel : e ∈ ls.toList ∧ seen.contains e.born = false := by
      unfold leftOf at he
      simp only [Array.mem_toList_iff, Array.mem_filter] at he
      exact ⟨by simpa using he.1, by simpa using he.2⟩
    obtain ⟨x, hx, _, hxb, _⟩ := her.mem hel.1
    have hs1 : Sim X m (h.setO d (.amapU (E ++ ed))) w1 ∧ Tn m h w0 m (h.setO d (.amapU (E ++ ed))) w1 ∧ w1.heap = w.heap := by
      rcases hw1 with rfl | rfl
      · exact ⟨I.sim, I.tn, rfl⟩
      · obtain ⟨d1, d2⟩ := drew_sim I.sim; exact ⟨d1, I.tn.trans d2, rfl⟩
    obtain ⟨s1, t1, hh1⟩ := hs1
    have hlt : it < w1.heap.size := by rw [hh1]; exact (Array.getElem?_eq_some_iff.1 I.iter).1
    have s2 := s1.hidden hlt hit2 (Nat.le_trans hs0.stat.1.1 hit) (.mapIter (some ps.b) clock (seen.push e.born) clock)
    have t2 := t1.hidden hit (.mapIter (some ps.b) clock (seen.push e.born) clock)
    have hiter2 : (w1.putObj it (.mapIter (some ps.b) clock (seen.push e.born) clock)).heap[it]? = some (.mapIter (some ps.b) clock (seen.push e.born) clock) := World.putObj_heap_same hlt
    have hsrc2 : (w1.putObj it (.mapIter (some ps.b) clock (seen.push e.born) clock)).heap[ps.b]? = some (.map ls clock) := by
      rw [World.putObj_heap_other (by omega), hh1]; exact hsrc
    unfold wpOpIn
    simp only [ho1]
    rw [if_pos (by simp [Region.wanted, ho4])]
    refine ⟨fun _ _ => trivial, ?_⟩
    rw [Oper.semAt_eq _ _ _ (by rw [ho3]; simp)]
    have hx' : (execOp a.eval o).run X.P w = .ok (.value (.tuple #[.bool true, e.key, e.val])) (w1.putObj it (.mapIter (some ps.b) clock (seen.push e.born) clock)) := by
      simp only [execOp, ho3, h7]
      simp [hn]
      rfl
    rw [hx']
    show (wpOpsIn _ _ _ _ _ [1] (a.put o.dst _) _)
    rw [ho2]
    have T1 := T0.put (d := 8) (by omega) (.tuple #[.bool true, e.key, e.val])
    simp only [wpOpsIn_cons]
    refine op_val n1 (by simp) (v := .bool true) (w' := w1.putObj it (.mapIter (some ps.b) clock (seen.push e.born) clock)) (fun o ho => by have h1 : _ = Value.tuple #[.bool true, e.key, e.val] := T1.eval 8; simp [execOp, ho, h1, Instr.extract]) ?_
    have T2 := T1.put (d := 9) (by omega) (.bool true)
    show (Code.seq _ _).wpIn _ _ _ _ _ _
    refine wpIn_seq (wpIn_cond_true (T2.eval 9) (wpIn_skip ?_))
    refine copy_round (c0 := c0) F hs0 hmd hd0 hne hps hes hnd hdj her hkn hit o2 o3 hel.1 hel.2 s2 t2 hiter2 hsrc2 T2.size T2.df (by rw [T2.get]; exact ht0) (by rw [T2.get]; exact ht7) I.perm ?_
    intro E' a' w' I'
    refine ⟨⟨E', _, _, I'⟩, ?_⟩
    show leftN es it w' < leftN es it w
    unfold leftN
    rw [I'.iter, I.iter]
    exact left_lt hx hxb hel.2
theorem copy_ok {g : Nat} {fn : Func} {mt kt vt : TypeId} {s : Nat} (F : CopyFn X.P g fn mt kt vt s) : XOk X g (sCopy s) := by
  constructor
  intro m h w args args' k hs hv hg hh
  unfold sCopy at hh
  split at hh
  case h_2 => exact ffa hh
  rename_i d r
  rcases rec_inv hh with ⟨hne, h1⟩ | ⟨_, h1⟩
  case inr => exact ffa h1
  have hdr : d ≠ r := beq_f.1 hne
  obtain ⟨x0, hd0, h2⟩ := Hp.obj_inv h1
  obtain ⟨os, hr0, h3⟩ := Hp.obj_inv h2
  rcases objM_inv h3 with ⟨es, clock, rfl, h4⟩ | ⟨es, rfl, h4⟩
  case inr => exact ffa h4
  obtain ⟨ed, h5, hed⟩ := entsU_inv h4
  obtain ⟨hes, hnd, _, h6⟩ := srcOk_inv h5
  obtain ⟨hdj, h7⟩ := disj_inv h6
  have h8 := appU_inv h7
  obtain ⟨_, h9⟩ := Hp.setObj_inv h8
  cases hv with
  | cons v1 v2 =>
  cases v2 with
  | cons v2 v3 =>
  cases v3
  cases v1 with
  | map hmd =>
  cases v2 with
  | map hmr =>
  rename_i pd ps
  obtain ⟨r0, r1, r2, r3, hb, o0, o1, o2, o3⟩ := F.body
  right
  refine ⟨?_, ?_⟩
  · have hnm : (fn.name == "runtime.NumGoroutine") = false := by simpa using F.name
    simp [callFunc, run_program, F.at', hnm, F.name, hb]
  refine callsIn_of_wp_marks F.at' hb trivial ?_
  obtain ⟨s0, t0⟩ := hs.reobj (x := .amapU ([] ++ ed)) hmd hd0 (fun o ho => hed o ho)
  obtain ⟨os, hsrc, hos⟩ := hs.obj hmr hr0
  obtain ⟨ls, rfl, her, hkn⟩ := hos
  obtain ⟨z0, p0, p1⟩ := o0
  obtain ⟨s1, t1⟩ := s0.alloc (.mapIter (some ps.b) clock #[] clock)
  have T0 : Tm { tmps := #[Value.map (some pd.b), Value.map (some ps.b)] ++ Array.replicate (16 - 2) undef, defers := [] } 16 (fun t => if t = 0 then .map (some pd.b) else if t = 1 then .map (some ps.b) else undef) := by
    refine ⟨by simp, rfl, fun t => ?_⟩
    match t with
    | 0 => rfl
    | 1 => rfl
    | t + 2 =>
      rw [Array.getD_eq_getD_getElem?, Array.getElem?_append_right (by simp)]
      simp only [Array.getElem?_replicate]
      split <;> simp
  have hact : ({ tmps := [Value.map (some pd.b), Value.map (some ps.b)].toArray ++ Array.replicate (fn.ntmps - [Value.map (some pd.b), Value.map (some ps.b)].toArray.size) undef, defers := [] } : Act) = { tmps := #[Value.map (some pd.b), Value.map (some ps.b)] ++ Array.replicate (16 - 2) undef, defers := [] } := by rw [F.ntmps]; rfl
  rw [hact]
  generalize ({ tmps := #[Value.map (some pd.b), Value.map (some ps.b)] ++ Array.replicate (16 - 2) undef, defers := [] } : Act) = a at T0
  refine wpIn_seq (wpIn_region ?_)
  rw [z0]
  show wpOpsIn _ _ _ _ _ [0, 1] _ _
  simp only [wpOpsIn_cons]
  refine op_val (r := none) p0 (by simp) (v := .map (some ps.b)) (w' := w) (fun o ho => by have h1 : _ = Value.map (some ps.b) := T0.eval 1; simp [execOp, ho, h1]) ?_
  have T1 := T0.put (d := 6) (by omega) (.map (some ps.b))
  have hrun : (Instr.range mt (.map (some ps.b))).run X.P w = .ok (.pointer (some ⟨w.heap.size, 0, none⟩)) (w.alloc (.mapIter (some ps.b) clock #[] clock)) := by simp [Instr.range, run_underlying F.hmt, getMap_run hsrc]
  refine op_val (r := none) p1 (by simp) (v := .pointer (some ⟨w.heap.size, 0, none⟩)) (w' := w.alloc (.mapIter (some ps.b) clock #[] clock)) (fun o ho => by have h1 : _ = Value.map (some ps.b) := T1.eval 6; simp [execOp, ho, h1, hrun]) ?_
  have T2 := T1.put (d := 7) (by omega) (.pointer (some ⟨w.heap.size, 0, none⟩))
  show (Code.block _ _).wpIn _ _ _ _ _ _
  refine wpIn_block ?_
  refine copy_loop F hs hmd hmr hd0 hr0 hdr hes hnd hdj (it := w.heap.size) (Nat.le_refl _) o1 o2 o3 (E := []) (seen := #[]) (c0 := clock)
    ⟨s1, t0.trans t1, by rw [alloc_heap]; simp, Nat.le_refl _, T2.size, T2.df, by rw [T2.get]; rfl, by rw [T2.get]; rfl, by
      have : es.filter (fun x => (#[] : Array Nat).contains x.2.2) = [] := by rw [List.filter_eq_nil_iff]; intro x _; simp
      rw [this]; exact .refl _⟩ ?_
  intro E seen c0 a' w' I hperm
  have hd1 : (h.setO d (.amapU (E ++ ed))).oat d = some (.amapU (E ++ ed)) := by rw [Hp.oat_setO hd0]; simp
  show LeavesInM Fence.wide 0 X.P fn a'.tmps (retR fun v' w' => Done X m h w k v' w') a'.defers .returning w'
  refine leaves_in (m := m) (h := h.setO d (.amapU (E ++ ed))) (m0 := m) (h0 := h) (w0 := w) hs.stat.1.1 a'.defers w' (by rw [I.df]; trivial) I.sim I.tn ?_
  intro w2 s2 t2
  obtain ⟨s3, t3⟩ := s2.reobj (x := .amapU ((es.map entPair).reverse ++ ed)) hmd hd1 (fun o ho => ho.perm ((hperm.trans (List.reverse_perm _).symm).append_right _))
  rw [setO_setO] at s3 t3
  exact ⟨.tuple #[], by simp [results_def, F.res], m, _, _, .tuple .nil, s3, t2.trans t3, h9⟩
end Go.Ab
end
section
namespace Go.Ab
variable {X : Cx} {m m' : M} {h h' : Hp} {w w' : World} {P : Program}
theorem both_inv {x y : Bool} (h : both x y = true) : x = true ∧ y = true := rec_t h
theorem noFz_inv {fz : Option Nat} {k : Bool} (h : noFz fz k = true) : fz = none ∧ k = true := by
  cases fz with
  | none => exact ⟨rfl, h⟩
  | some _ => exact ffa h
theorem isU32_inv {k : IntKind} (h : isU32 k = true) : k = .u32 := by
  cases k <;> first | rfl | cases h
theorem isI32_inv {k : IntKind} (h : isI32 k = true) : k = .i32 := by
  cases k <;> first | rfl | cases h
theorem isNat_inv {m : Nat} {z : Int} (h : isNat m z = true) : z = (m : Int) := by
  cases z with
  | ofNat n => have := beq_iff.1 h; subst this; rfl
  | negSucc n => cases h
theorem load32_ok {g : Nat} {fn : Func} (he : ExtOk X.P g fn (Extern.Atomic.loadT (.int .u32))) : XOk X g xLoad32 := by
  constructor
  intro m h w args args' k hs hv hg hh
  unfold xLoad32 at hh
  split at hh
  case h_2 => exact ffa hh
  rename_i a
  cases hv with
  | cons h1 h2 =>
    cases h2
    cases h1 with
    | ptr ha =>
      obtain ⟨v, v', q1, q2, q3, q4⟩ := load1_inv hs ha hh
      rcases vInt_inv q4 with ⟨kd, n, rfl, q5⟩ | q5
      case inr => exact ffa q5
      obtain ⟨q6, q7⟩ := rec_t q5
      have q6 := isU32_inv q6
      subst q6
      cases q1
      exact .inl ⟨_, w, run_call_load he.at' he.name he.none he.next .u32 he.find q3, m, h, _, .int _ _, hs, Tn.refl m h w, q7⟩
/-! ### a block that is there already, is spoken of -/
theorem Sim.seenAt (hs : Sim X m h w) {n : Nat} {p : Pl} {o : Obj} (hn : h.fresh n) (hp : w.heap.size ≤ p.b) (hpw : w'.heap[p.b]? = some o) (hsame : w'.os = w.os ∧ w'.output = w.output)
    (hsize : w.heap.size ≤ w'.heap.size) (hh : ∀ k, k < w.heap.size → w'.heap[k]? = w.heap[k]?) (hwf : h'.wf)
    (hb : ∀ b, b ≠ n → h'.blk b = h.blk b) (ho : ∀ b, b ≠ n → h'.oat b = h.oat b) (hf : ∀ b, h'.fresh b → h.fresh b ∧ b ≠ n)
    (hlr : LR X (m.put n p) h' n p o) : Sim X (m.put n p) h' w' ∧ Tn m h w (m.put n p) h' w' := by
  have hmn := hs.fresh n hn
  have hle := M.le_put (p := p) hmn
  have old : ∀ b q, b ≠ n → (m.put n p) b = some q → m b = some q := fun b q hne hq => by rwa [M.put_other m p hne] at hq
  refine hs.step (w' := w') p.b hle hwf hsame hsize (fun k hk hlt => hh k hlt) ?_ ?_ ?_ (fun b hb' => (hf b hb').1) (.inl hp) (Array.getElem?_eq_some_iff.1 hpw).1
  · intro b q hq hl hne
    have hbn : b ≠ n := fun e => by subst e; rw [M.put_same] at hq; injection hq with hq; subst hq; exact hne rfl
    exact ⟨old b q hbn hq, hb b hbn, ho b hbn⟩
  · intro b q hq hl hqb
    have hbn : b = n := by
      by_cases e : b = n
      · exact e
      · have := hs.bound b q (old b q e hq); omega
    subst hbn
    rw [M.put_same] at hq; injection hq with hq; subst hq
    refine ⟨⟨o, hpw, hlr⟩, fun b' p' hl' hm' hb' => ?_⟩
    by_cases e : b' = b
    · exact e
    · have := hs.bound b' p' (old b' p' e hm'); omega
  · intro b q hq
    by_cases e : b = n
    · subst e
      rw [M.put_same] at hq; injection hq with hq; subst hq
      exact .inr ⟨hn, rfl, fun hc => (hf b hc).2 rfl⟩
    · exact .inl (old b q e hq)
theorem Sim.seenB (hs : Sim X m h w) (hn : h.nt ≤ 1000000000) {c : CB} {p : Pl} {o : Obj} (hp : w.heap.size ≤ p.b) (hpw : w'.heap[p.b]? = some o) (hsame : w'.os = w.os ∧ w'.output = w.output)
    (hsize : w.heap.size ≤ w'.heap.size) (hh : ∀ k, k < w.heap.size → w'.heap[k]? = w.heap[k]?) (hc : BlkR m c p o) :
    Sim X (m.put h.nt p) (h.addB c) w' ∧ Tn m h w (m.put h.nt p) (h.addB c) w' := by
  have hf := (blk_fresh hs).1
  have e1 := yb_eq
  have e2 := ob_eq
  have hnt := hs.wf.nt
  refine hs.seenAt hf hp hpw hsame hsize hh (hs.wf.addB hn c) (fun b hb => by rw [Hp.blk_addB hs.wf]; simp [hb]) (fun b hb => rfl) ?_ ?_
  · intro b hb
    rcases hb with ⟨h1, h2⟩ | h1 | h1
    · have : h.nt + 1 ≤ b := h2
      exact ⟨.inl ⟨h1, by omega⟩, by omega⟩
    · exact ⟨.inr (.inl h1), by omega⟩
    · exact ⟨.inr (.inr h1), by omega⟩
  · refine ⟨fun c' hc' => ?_, fun x hx => ?_⟩
    · rw [Hp.blk_addB hs.wf] at hc'
      simp only [if_true] at hc'
      injection hc' with hc'
      subst hc'
      exact hc.mono (M.le_put (hs.fresh _ hf))
    · have : h.oat h.nt = some x := hx
      rw [(blk_of_fresh hs.wf hf).2] at this; cases this
/-! ### a block is known to be longer -/
theorem Sim.longer (hs : Sim X m h w) {b : Nat} {p : Pl} {c : CB} {n : Nat} (hm : m b = some p) (hb : b < yb) (h0 : h.blk b = some c) (hn : c.n ≤ n) (hroom : p.sh + n * c.s ≤ p.sz) :
    Sim X m (h.setB b ⟨c.t, n, c.s, c.e, c.fz⟩) w ∧ Tn m h w m (h.setB b ⟨c.t, n, c.s, c.e, c.fz⟩) w := by
  obtain ⟨o, h4, h5⟩ := hs.rel _ p hm (live_iff_blk h0)
  obtain ⟨cs, fr, rfl, h7⟩ := h5.1 c h0
  have hc : BlkR m ⟨c.t, n, c.s, c.e, c.fz⟩ p (.cells cs c.e fr) := by
    refine ⟨cs, fr, rfl, h7.sz, h7.es, by rw [h7.sz]; exact hroom, fun q l hq => ?_, fun off v hv => h7.cell off v hv, h7.fz, h7.al⟩
    obtain ⟨a1, a2⟩ := h7.chunk q l hq
    exact ⟨a1, Nat.lt_of_lt_of_le a2 hn⟩
  have := hs.putB hm hb h0 hc
  rw [putObj_self h4] at this
  exact this
end Go.Ab
end

/-
  A part of the proof of the card of DeskKnown (the whole is said in the last text). No condition of its own beyond those that its theorems state.
-/
import Derived.Test.YtcflmdimeemkcaaGreatDoorGa
import Derived.Laws.MakeOwn
import Derived.Laws.BytesString
import Derived.Lib.UnsafeStr
import Derived.Laws.StructEq
set_option autoImplicit true
set_option relaxedAutoImplicit true
set_option linter.unusedVariables false
set_option linter.unusedSimpArgs false
set_option linter.unusedSectionVars false
section
namespace Go.Ab
variable {X : Cx} {m m' : M} {h h' : Hp} {w w' : World} {P : Program}
/-- what is known of a type's zero -/
structure ZOk (P : Program) (t : TypeId) (s : Nat) (z : List Value) : Prop where
  info : ∃ i v, P.info? t = some i ∧ i.size = s ∧ i.zero = some v ∧ v.cells.toList = z
  len : z.length = s
  vr : ∀ m, VRL m z z
  cell : ∀ v ∈ z, isCell v = true
theorem replicate_lays {z : List Value} {s : Nat} (hl : z.length = s) (hv : VRL m z z) (hc : ∀ v ∈ z, isCell v = true) : ∀ (n : Nat), Lays m (List.replicate n z) s (List.replicate n z).flatten
  | 0 => Lays.nil s
  | n + 1 => by
    have ih := replicate_lays hl hv hc n
    rw [List.replicate_succ]
    refine ⟨?_, ?_, ?_⟩
    · intro c hcc; cases hcc with
      | head => exact hl
      | tail _ h => exact ih.len c h
    · intro c hcc; cases hcc with
      | head => exact hc
      | tail _ h => exact ih.cell c h
    · rw [List.flatten_cons]; exact hv.append ih.vr
theorem zeroCells_list (z : Array Value) (n : Nat) : (Builtin.zeroCells z n).toList = (List.replicate n z.toList).flatten := by
  apply List.ext_getElem?
  intro i
  rw [flatten_get (s := z.size) _ _ (fun c hc => by rw [(List.mem_replicate.1 hc).2]; simp)]
  unfold Builtin.zeroCells
  by_cases hi : i < n * z.size
  · have hs : 0 < z.size := Nat.pos_of_ne_zero fun e => by rw [e] at hi; omega
    have h1 : i / z.size < n := (Nat.div_lt_iff_lt_mul hs).2 hi
    have h2 : i % z.size < z.size := Nat.mod_lt _ hs
    simp [hi, h1, h2, List.getElem?_replicate]
  · have h1 : ¬ i / z.size < n ∨ z.size = 0 := by
      by_cases hs : z.size = 0
      · exact .inr hs
      · exact .inl fun h => hi ((Nat.div_lt_iff_lt_mul (by omega)).1 h)
    rcases h1 with h1 | h1
    · simp [hi, h1, List.getElem?_replicate]
    · have : z.toList = [] := List.length_eq_zero_iff.1 (by simpa using h1)
      simp [hi, this, List.getElem?_replicate]
      split <;> simp
theorem cells_inv {v v' : Value} (hv : VR m v v') {f : List Value → Bool} (hh : vCells v f = true) : ∃ vs, VRL m vs v'.cells.toList ∧ (∀ x ∈ vs, isCell x = true) ∧ f vs = true := by
  rcases vCells_inv hh with ⟨cs, rfl, h1⟩ | ⟨hc, h1⟩
  · cases hv with
    | agg h hc => exact ⟨_, h, hc, h1⟩
  · refine ⟨[v], ?_, by simpa using hc, h1⟩
    rw [(hv.cell hc).2]
    exact .cons hv .nil
/-! ### making slices -/
theorem made_trie {z : List Value} {s : Nat} (hl : z.length = s) (hv : VRL m z z) (hc : ∀ v ∈ z, isCell v = true) {zc : Array Value} (hz : zc.toList = z) (n : Nat) : Trie m (ztr z n) n s (fun j => (madeCells zc (n * s))[j]?) := by
  intro q l hq
  obtain ⟨rfl, hqn⟩ := ztr_at hq
  refine ⟨hl, hqn, fun i v hiv => ?_⟩
  have hi : i < s := by have := (List.getElem?_eq_some_iff.1 hiv).1; omega
  obtain ⟨v', h1, h2⟩ := hv.get hiv
  refine ⟨hc v (List.mem_of_getElem? hiv), v', ?_, h2⟩
  have hlt : q * s + i < n * s := by
    have : (q + 1) * s ≤ n * s := Nat.mul_le_mul_right _ hqn
    rw [Nat.succ_mul] at this; omega
  have hs : zc.size = s := by rw [← hl, ← hz]; simp
  have e1 : (q * s + i) % s = i := by rw [Nat.add_comm, Nat.add_mul_mod_self_right, Nat.mod_eq_of_lt hi]
  have h3 : zc[i]? = some v' := by rw [← hz] at h1; simpa using h1
  have h4 : zc[i]! = v' := by
    have := (Array.getElem?_eq_some_iff.1 h3)
    obtain ⟨hlt2, he⟩ := this
    simp [hlt2, he]
  simp [madeCells, hlt, hs, e1, h4]
theorem mkSl_inv (hs : Sim X m h w) {t el : TypeId} {s : Nat} {z : List Value} (ht : P.underlying t = some (.slice el)) (hz : ZOk P el s z) (hby : ∀ i, P.info? el = some i → i.bytes ≤ 1000000)
    {l c : Value} {k : KV} {l' c' : Value} (hl : VR m l l') (hc : VR m c c')
    (hh : vInt c (fun _ c => iNat c (fun c => bnd 157 c l (fun l => Bool.rec (ff 158) (h.newC ⟨ztr z c, c, s, el, none⟩ (fun b h' => k (.slice (some ⟨b, 0, none⟩) l (2 * c + 1)) h')) (Nat.ble c 1000000)))) (ff 159) = true) :
    ∃ v' w', (Instr.makeSlice t l' c').run P w = .ok v' w' ∧ Done X m h w k v' w' := by
  rcases vInt_inv hh with ⟨kc, cn, rfl, h1⟩ | h1
  case inr => exact ffa h1
  cases cn with
  | negSucc _ => exact ffa h1
  | ofNat cn =>
    have h1 : bnd 157 cn l _ = true := h1
    rcases vInt_inv h1 with ⟨kl, ln, rfl, h2⟩ | h2
    case inr => exact ffa h2
    cases ln with
    | negSucc _ => exact ffa h2
    | ofNat ln =>
      obtain ⟨h3, h4⟩ := rec_t (b := Nat.ble ln cn) h2
      have h3 := ble_iff.1 h3
      obtain ⟨h5, h6⟩ := rec_t h4
      have h5 := ble_iff.1 h5
      cases hl
      cases hc
      obtain ⟨i, v, i1, i2, i3, i4⟩ := hz.info
      have hb := hby i i1
      have hbc : i.bytes * cn ≤ 1000000 * 1000000 := Nat.mul_le_mul hb h5
      have hrun := run_make (P := P) w t el i v ht i1 i3 kl kc (Int.ofNat ln) (Int.ofNat cn) (Int.natCast_nonneg _) (Int.ofNat_le.2 h3)
        (by have : (i.bytes : Int) * Int.ofNat cn = ((i.bytes * cn : Nat) : Int) := by simp
            rw [this]; omega) (by have : Int.ofNat cn = (cn : Int) := rfl
                                  rw [this]; omega)
      refine ⟨_, _, hrun, ?_⟩
      have hT := made_trie hz.len (hz.vr m) hz.cell i4 cn
      obtain ⟨b, m', h', g1, g2, g3, g4⟩ := newRow_inv hs (e := el) (fz := none) (cs := madeCells v.cells (cn * i.size)) (by rw [i2]; exact hT) (by rw [size_madeCells, i2]; exact Nat.le_refl _) h6
      exact ⟨m', h', _, .slE _ _ ⟨rfl, _, g1, by simp⟩, g2, g3, g4⟩
end Go.Ab
end
section
namespace Go.Ab
variable {X : Cx} {m m' : M} {h h' : Hp} {w w' : World} {P : Program}
/-! ### from strings -/
theorem newB_inv (hs : Sim X m h w) {css : List (List Value)} {l' : List Value} (hl : Lays m css 1 l') {n : Nat} (hn : css.length = n) {e : TypeId} {fz : Option Nat} {k : KV} (hh : newB h css n e fz k = true)
    (cap : Nat) (hcap : n ≤ cap) (rest : List Value) (hr : rest.length = cap - n) {fr : Nat × Nat} (hfz : FzR fz 0 cap fr) :
    Done X m h w k (.slice (some ⟨w.heap.size, 0, none⟩) n cap) (w.alloc (.cells (l' ++ rest).toArray e fr)) := by
  obtain ⟨t, h1, h2⟩ := putChunks_inv hh
  obtain ⟨h3, h4⟩ := Hp.newC_inv h1
  have hlen : l'.length = n := by rw [hl.length, hn]; omega
  have htot : (l' ++ rest).toArray.size = cap := by simp [hlen, hr]; omega
  have hT : Trie m t (0 + css.length) 1 (fun j => (l' ++ rest).toArray[j]?) := by
    refine Trie.put (Trie.lf m 0 1 (fun j => (l' ++ rest).toArray[j]?)) (fun j hj => rfl) hl (fun j v hv => ?_) h2
    have := (List.getElem?_eq_some_iff.1 hv).1
    simp only [Nat.zero_mul, Nat.zero_add, List.getElem?_toArray]
    rw [List.getElem?_append, if_pos this]; exact hv
  rw [hn, Nat.zero_add] at hT
  have hb : BlkR m ⟨t, n, 1, e, fz⟩ ⟨w.heap.size, 0, cap, 1⟩ (.cells (l' ++ rest).toArray e fr) := by
    refine ⟨_, fr, rfl, Trie.blk (p := ⟨w.heap.size, 0, cap, 1⟩) (by simpa using hT) htot rfl (by rw [htot]; show 0 + n * 1 ≤ cap; omega) (by rw [htot]; exact hfz) ⟨0, by simp⟩⟩
  obtain ⟨s1, s2⟩ := hs.newB h3 rfl hb
  refine ⟨_, _, _, ?_, s1, s2, h4⟩
  refine .slL ⟨rfl, _, M.put_same _ _ _, by simp⟩ (M.put_same _ _ _) hcap ?_
  show 0 + cap * 1 ≤ cap
  omega
theorem cap_le (w : World) (need old : Nat) (e : TypeId) : need ≤ grownCap w need old e := by
  unfold grownCap Question.cut
  exact Nat.le_add_right _ _
theorem freeze_new (w : World) (cs : Array Value) (e : TypeId) : (w.alloc (.cells cs e)).freeze { block := w.heap.size, off := cs.size } 1 = w.alloc (.cells cs e (cs.size, cs.size + 1)) := by
  unfold World.freeze World.alloc
  simp only [Nat.one_ne_zero, if_false]
  congr 1
  apply Array.ext_getElem?
  intro i
  rw [Array.getElem?_modify]
  simp only [Array.getElem?_push]
  by_cases hi : w.heap.size = i
  · subst hi; simp
  · have : i ≠ w.heap.size := fun e => hi e.symm
    simp [hi, this]
theorem cvSB_inv (hs : Sim X m h w) {e : TypeId} {s : ByteArray} {k : KV} (hh : newB h (bytesV s.data.toList) s.data.toList.length e (some 0) k = true) :
    ∃ v' w', (Conv.stringToBytes e s).run P w = .ok v' w' ∧ Done X m h w k v' w' := by
  have hsz : s.data.toList.length = s.size := Array.length_toList
  have hcap := cap_le w s.size 0 e
  obtain ⟨d1, d2⟩ := drew_sim hs
  have hB := newB_inv d1 (bytesV_lays s.data.toList) (by rw [bytesV_eq]; simp) hh (grownCap w s.size 0 e) (by rw [hsz]; exact hcap) (List.replicate (grownCap w s.size 0 e - s.size) (.int .u8 0)) (by simp [hsz])
    (fr := (grownCap w s.size 0 e, grownCap w s.size 0 e + 1)) (.inr ⟨rfl, Nat.le_refl _⟩)
  refine ⟨_, _, ?_, Done.after d2 hB⟩
  generalize hLL : ((s.data.toList.map fun b : UInt8 => Value.int .u8 (.ofNat b.toNat)) ++ List.replicate (grownCap w s.size 0 e - s.size) (Value.int .u8 0)) = LL at hB
  have e1 : (s.data.map fun b : UInt8 => Value.int .u8 b.toNat) ++ Array.replicate (grownCap w s.size 0 e - s.size) (Value.int .u8 0) = LL.toArray := by
    rw [← hLL]; apply Array.ext'; simp
  have e2 : LL.toArray.size = grownCap w s.size 0 e := by
    rw [← hLL]
    simp only [List.size_toArray, List.length_append, List.length_map, List.length_replicate, hsz]; omega
  have hfr := freeze_new w.drew LL.toArray e
  rw [e2] at hfr
  rw [hsz, ← hfr]
  have hch : (choose (.appendCap s.size 0 e)).run P w = .ok (grownCap w s.size 0 e) w.drew := by simp [Question.forced, grownCap]
  unfold Conv.stringToBytes
  rw [Sem.run_bind, hch, Result.andThen_ok]
  simp only [e1]
  have hshape : (w.drew.alloc (.cells LL.toArray e)).shape? w.drew.heap.size = some (e, grownCap w s.size 0 e) := by
    unfold World.shape?
    rw [alloc_heap, if_pos rfl]
    simp only [e2]
  simp only [newRow, markStringish, Sem.run_bind, run_newObj, Result.andThen_ok, Sem.run_pure, run_shape, World.alloc_eq, hshape, run_freeze]
theorem runes_int (s : ByteArray) : ∀ (b i : Nat) (acc : Array Value), (∀ v ∈ acc.toList, ∃ r : Nat, v = .int .i32 (Int.ofNat r)) → ∀ v ∈ (Conv.runesFrom s b i acc).toList, ∃ r : Nat, v = .int .i32 (Int.ofNat r)
  | 0, i, acc, h => h
  | b + 1, i, acc, h => by
    unfold Conv.runesFrom
    split
    · refine runes_int s b _ _ fun v hv => ?_
      simp only [Array.toList_push, List.mem_append, List.mem_singleton] at hv
      rcases hv with hv | hv
      · exact h v hv
      · exact ⟨_, hv⟩
    · exact h
theorem ints_lays {l : List Value} (h : ∀ v ∈ l, ∃ r : Nat, v = .int .i32 (Int.ofNat r)) : Lays m (l.map fun v => [v]) 1 l := by
  induction l with
  | nil => exact Lays.nil 1
  | cons v l ih =>
    have ih := ih fun x hx => h x (by simp [hx])
    obtain ⟨r, rfl⟩ := h v (by simp)
    refine ⟨?_, ?_, ?_⟩
    · intro c hc; obtain ⟨x, _, rfl⟩ := List.mem_map.1 hc; rfl
    · intro c hc v hv
      obtain ⟨x, hx, rfl⟩ := List.mem_map.1 hc
      simp at hv; subst hv
      obtain ⟨q, rfl⟩ := h v hx
      rfl
    · exact .cons (.int _ _) ih.vr
theorem cvSR_inv (hs : Sim X m h w) {e : TypeId} {s : ByteArray} {k : KV}
    (hh : newB h (List.map (fun v => [v]) (Conv.runesFrom s s.data.toList.length 0 #[]).toList) (Conv.runesFrom s s.data.toList.length 0 #[]).toList.length e none k = true) :
    ∃ v' w', (Conv.stringToRunes e s).run P w = .ok v' w' ∧ Done X m h w k v' w' := by
  have hsz : s.data.toList.length = s.size := Array.length_toList
  rw [hsz] at hh
  have hL := ints_lays (m := m) (runes_int s s.size 0 #[] (by simp))
  obtain ⟨d1, d2⟩ := drew_sim hs
  have hcap := cap_le w (Conv.runesFrom s s.size 0 #[]).size 0 e
  have hB := newB_inv d1 hL (by simp) hh (grownCap w (Conv.runesFrom s s.size 0 #[]).size 0 e) (by simpa using hcap) (List.replicate (grownCap w (Conv.runesFrom s s.size 0 #[]).size 0 e - (Conv.runesFrom s s.size 0 #[]).size) (.int .i32 0)) (by simp)
    (fr := (0, 0)) rfl
  refine ⟨_, _, ?_, Done.after d2 hB⟩
  have hch : (choose (.appendCap (Conv.runesFrom s s.size 0 #[]).size 0 e)).run P w = .ok (grownCap w (Conv.runesFrom s s.size 0 #[]).size 0 e) w.drew := by simp [Question.forced, grownCap]
  unfold Conv.stringToRunes
  rw [Sem.run_bind, hch, Result.andThen_ok]
  simp [newRow, Sem.run_bind, World.alloc]
  congr 3
  apply Array.ext'
  simp
/-! ### to strings -/
theorem kN_inj {a b : IntKind} (h : kN a = kN b) : a = b := by cases a <;> cases b <;> first | rfl | (exfalso; revert h; decide)
theorem bytesOf_inv : ∀ {l l' : List Value} {k : List UInt8 → Bool}, VRL m l l' → bytesOf l k = true → ∃ ns : List Int, l' = ns.map (Value.int .u8) ∧ k (ns.map fun n => UInt8.ofNat n.toNat) = true ∧ ∀ n ∈ ns, 0 ≤ n
  | [], l', k, hv, hh => by cases hv; exact ⟨[], rfl, hh, by simp⟩
  | v :: l, l', k, hv, hh => by
    cases hv with
    | cons h1 h2 =>
      have h3 : vInt v (fun kd n => iNat n (fun m => Bool.rec (ff 115) (bytesOf l (fun r => k (UInt8.ofNat m :: r))) (Nat.beq (kN kd) 4))) (ff 116) = true := hh
      rcases vInt_inv h3 with ⟨kd, n, rfl, h4⟩ | h4
      case inr => exact ffa h4
      cases n with
      | negSucc _ => exact ffa h4
      | ofNat n =>
        obtain ⟨h5, h6⟩ := rec_t (b := Nat.beq (kN kd) 4) h4
        have h5 : kd = .u8 := kN_inj (beq_iff.1 h5)
        subst h5
        obtain ⟨ns, h7, h8, h9⟩ := bytesOf_inv h2 h6
        cases h1
        refine ⟨Int.ofNat n :: ns, by simp [h7], by simpa using h8, ?_⟩
        intro x hx
        cases hx with
        | head => exact Int.natCast_nonneg _
        | tail _ hx => exact h9 x hx
theorem push_fold : ∀ (ns : List Int) (s : ByteArray), ns.foldl (fun r n => r.push (UInt8.ofNat n.toNat)) s = ⟨⟨s.data.toList ++ ns.map fun n => UInt8.ofNat n.toNat⟩⟩
  | [], s => by simp
  | n :: ns, s => by
    rw [List.foldl_cons, push_fold ns]
    congr 2
    simp [ByteArray.push]
theorem cvBS_inv (hs : Sim X m h w) {x x' : Value} (hv : VR m x x') {k : KV} (hh : vSl x (fun a n _ => Option.rec (Bool.rec (ff 125) (k (.string ⟨⟨[]⟩⟩) h) (Nat.beq n 0))
      (fun a => Bool.rec (loadC h a n (fun cs => bytesOf cs (fun bs => k (.string ⟨⟨bs⟩⟩) h))) (k (.string ⟨⟨[]⟩⟩) h) (Nat.beq n 0)) a) (ff 125) = true) :
    ∃ v', (Conv.bytesToString x').run P w = .ok v' w ∧ Done X m h w k v' w := by
  rcases vSl_inv hh with ⟨a, n, c, rfl, h1⟩ | h1
  case inr => exact ffa h1
  have emp : (ByteArray.empty : ByteArray) = ⟨⟨[]⟩⟩ := rfl
  rcases opt2_inv h1 with ⟨rfl, h2⟩ | ⟨a, rfl, h2⟩
  · obtain ⟨_, h3⟩ := rec_t h2
    cases hv with
    | snil => exact ⟨_, rfl, Done.of hs (.string _) (by rw [emp]; exact h3)⟩
  · rcases rec_inv h2 with ⟨hb, h3⟩ | ⟨hb, h3⟩
    · have go : ∀ a' c', AR m a a' → x' = .slice (some a') n c' → ∃ v', (Conv.bytesToString x').run P w = .ok v' w ∧ Done X m h w k v' w := by
        intro a' c' ha he
        subst he
        obtain ⟨l, l', hr, hk⟩ := loadC_inv hs ha h3
        obtain ⟨ns, h4, h5, _⟩ := bytesOf_inv hr.vr hk
        have hrun := run_bytesToString (P := P) w a' n c' ns (by
          have := run_loadCells_list (P := P) w a' l' hr.at'
          rw [← hr.vr.length, hr.len, h4] at this
          exact this)
        rw [push_fold] at hrun
        exact ⟨_, hrun, Done.of hs (.string _) (by simpa using h5)⟩
      cases hv with
      | slE n c ha => exact go _ _ ha rfl
      | slL ha _ _ _ => exact go _ _ ha rfl
      | slG a' c => cases hb
    · have hb := beq_iff.1 hb
      subst hb
      have go : ∀ a' c', x' = .slice (some a') 0 c' → ∃ v', (Conv.bytesToString x').run P w = .ok v' w ∧ Done X m h w k v' w := by
        intro a' c' he
        subst he
        have hrun := run_bytesToString (P := P) w a' 0 c' [] (by rfl)
        exact ⟨_, hrun, Done.of hs (.string _) (by rw [push_fold]; simpa using h3)⟩
      cases hv with
      | slE n c ha => exact go _ _ rfl
      | slL ha _ _ _ => exact go _ _ rfl
      | slG a' c => exact go _ _ rfl
/-! ### copy, clear -/
theorem copy_inv (hs : Sim X m h w) {dt e st ty : TypeId} {i : TypeInfo} (ht : P.underlying dt = some (.slice e)) (hi : P.info? e = some i) {d d' s s' : Value} (hd : VR m d d') (hsv : VR m s s') {k : KV}
    (hh : lenOf s (fun n => vSl d (fun a dl _ => firstC h i.size (Nat.min n dl) s (fun cs => Option.rec (k (goInt (Nat.min n dl)) h) (fun a => storeCh i.size cs h a (fun h' => k (goInt (Nat.min n dl)) h')) a)) (ff 76)) = true) (ts : Array TypeId) (hts : ts[0]? = some dt) :
    ∃ v' w', (Builtin.copy_ ts ty #[d', s']).run P w = .ok v' w' ∧ Done X m h w k v' w' := by
  obtain ⟨n, h1, hlen, hx⟩ := lenOf_inv (P := P) hsv hh
  rcases vSl_inv h1 with ⟨a, dl, c, rfl, h2⟩ | h2
  case inr => exact ffa h2
  have hx' : (∃ a N c, s' = .slice a N c) ∨ ∃ q, s' = .string q ∧ Nat.min n dl ≤ q.size := by
    rcases hx with ⟨a, c, rfl⟩ | ⟨q, rfl, rfl⟩
    · exact .inl ⟨_, _, _, rfl⟩
    · exact .inr ⟨_, rfl, Nat.min_le_left _ _⟩
  obtain ⟨css, l', h3, h4, h5, h6⟩ := firstC_inv hs hsv hx' h2
  have h6 := h6 P w rfl
  rcases opt2_inv h5 with ⟨rfl, h7⟩ | ⟨a, rfl, h7⟩
  · cases hd with
    | snil =>
      have hm : Nat.min n 0 = 0 := Nat.min_zero n
      rw [hm] at h6 h7
      refine ⟨_, w, ?_, Done.of hs (.int _ _) h7⟩
      simp [goInt, Builtin.copy_, hts, run_underlying ht, hlen, sizeOf, typeInfo, hi, hm, h6]
  · have go : ∀ a' c', AR m a a' → d' = .slice (some a') dl c' → ∃ v' w', (Builtin.copy_ ts ty #[d', s']).run P w = .ok v' w' ∧ Done X m h w k v' w' := by
      intro a' c' ha he
      subst he
      obtain ⟨h', w', s1, s2, s3, s4⟩ := storeCh_inv hs ha h4 h7
      refine ⟨_, w', ?_, m, h', _, .int _ _, s1, s2, s3⟩
      simp [goInt, Builtin.copy_, hts, run_underlying ht, hlen, sizeOf, typeInfo, hi, h6, s4 P]
    cases hd with
    | slE n c ha => exact go _ _ ha rfl
    | slL ha _ _ _ => exact go _ _ ha rfl
    | slG a' c =>
      have hm : Nat.min n 0 = 0 := Nat.min_zero n
      rw [hm] at h3 h6 h7
      have hcss : css = [] := List.length_eq_zero_iff.1 h3
      subst hcss
      have hl0 : l' = [] := List.length_eq_zero_iff.1 (by rw [h4.length]; simp)
      subst hl0
      have h8 : k (goInt 0) h = true := h7
      refine ⟨_, w, ?_, Done.of hs (.int _ _) h8⟩
      simp [goInt, Builtin.copy_, hts, run_underlying ht, hlen, sizeOf, typeInfo, hi, hm, h6, storeCells]
theorem clear_inv (hs : Sim X m h w) {t e ty : TypeId} {s : Nat} {z : List Value} (ht : P.underlying t = some (.slice e)) (hz : ZOk P e s z) {x x' : Value} (hv : VR m x x') {k : KV}
    (hh : vSl x (fun a n _ => Bool.rec (oK 166 a (fun a => storeCh s (List.replicate n z) h a (fun h' => k (.tuple ⟨[]⟩) h'))) (k (.tuple ⟨[]⟩) h) (Nat.beq n 0)) (ff 167) = true) (ts : Array TypeId) (hts : ts[0]? = some t) :
    ∃ v' w', (Builtin.clear_ ts ty #[x']).run P w = .ok v' w' ∧ Done X m h w k v' w' := by
  rcases vSl_inv hh with ⟨a, n, c, rfl, h1⟩ | h1
  case inr => exact ffa h1
  rcases rec_inv h1 with ⟨hb, h2⟩ | ⟨hb, h2⟩
  · have hb := beq_f.1 hb
    obtain ⟨a, rfl, h3⟩ := opt_inv h2
    obtain ⟨i, v, i1, i2, i3, i4⟩ := hz.info
    have go : ∀ a' c', AR m a a' → x' = .slice (some a') n c' → ∃ v' w', (Builtin.clear_ ts ty #[x']).run P w = .ok v' w' ∧ Done X m h w k v' w' := by
      intro a' c' ha he
      subst he
      obtain ⟨h', w', s1, s2, s3, s4⟩ := storeCh_inv hs ha (replicate_lays hz.len (hz.vr m) hz.cell n) h3
      refine ⟨_, w', ?_, m, h', _, .tuple .nil, s1, s2, s3⟩
      have h5 := zeroCells_list v.cells n
      rw [i4] at h5
      obtain ⟨n', rfl⟩ : ∃ n', n = n' + 1 := ⟨n - 1, by omega⟩
      simp [Builtin.clear_, hts, run_underlying ht, zeroValue, typeInfo, i1, i3, h5, s4 P]
    cases hv with
    | slE n c ha => exact go _ _ ha rfl
    | slL ha _ _ _ => exact go _ _ ha rfl
    | slG a' c => omega
  · have hb := beq_iff.1 hb
    subst hb
    refine ⟨_, w, ?_, Done.of hs (.tuple .nil) h2⟩
    cases hv <;> simp [Builtin.clear_, hts, run_underlying ht]
end Go.Ab
end
section
namespace Go.Ab
variable {X : Cx} {m m' : M} {h h' : Hp} {w w' : World} {P : Program}
/-! ### parts laid over -/
theorem zip_fold (off : Nat) : ∀ (l : List Value) (k : Nat) (cs : Array Value), (l.zipIdx k).foldl (fun cs x => cs.setIfInBounds (off + x.2) x.1) cs = overA cs (off + k) l
  | [], k, cs => rfl
  | v :: l, k, cs => by
    rw [List.zipIdx_cons, List.foldl_cons, zip_fold off l (k + 1)]
    rfl
theorem fill_fold (off : Nat) (vs : Array Value) (cs : Array Value) : vs.zipIdx.foldl (fun cs (x : Value × Nat) => cs.setIfInBounds (off + x.2) x.1) cs = overA cs off vs.toList := by
  rw [← Array.foldl_toList, Array.toList_zipIdx]
  exact zip_fold off vs.toList 0 cs
theorem over_rel {c vs vs' : List Value} {cs : Array Value} {o : Nat} (hc : VRL m c cs.toList) (hv : VRL m vs vs') : VRL m (setL vs o c) (overA cs o vs').toList := by
  have hl := hc.length
  have hlv := hv.length
  refine VRL.of_get (by simp [setL_length, overA_size, hl]) fun i x x' hx hx' => ?_
  have hx' : (overA cs o vs')[i]? = some x' := by simpa using hx'
  rw [setL_get] at hx
  rw [overA_get] at hx'
  have hsz : cs.size = c.length := by rw [hl]; simp
  by_cases hi : i < c.length
  · rw [if_pos hi] at hx
    rw [if_pos (by omega)] at hx'
    by_cases hr : o ≤ i ∧ i < o + vs.length
    · rw [if_pos hr] at hx
      rw [if_pos (by omega)] at hx'
      obtain ⟨y, h1, h2⟩ := hv.get hx
      rw [h1] at hx'; injection hx' with hx'; exact hx' ▸ h2
    · rw [if_neg hr] at hx
      rw [if_neg (by omega)] at hx'
      obtain ⟨y, h1, h2⟩ := hc.get hx
      have h1 : cs[i]? = some y := by simpa using h1
      rw [h1] at hx'; injection hx' with hx'; exact hx' ▸ h2
  · rw [if_neg hi] at hx; cases hx
theorem setL_cell {vs c : List Value} {o : Nat} (hv : ∀ v ∈ vs, isCell v = true) (hc : ∀ v ∈ c, isCell v = true) : ∀ v ∈ setL vs o c, isCell v = true := by
  intro v hvm
  obtain ⟨i, hi⟩ := List.mem_iff_getElem?.1 hvm
  rw [setL_get] at hi
  split at hi
  · split at hi
    · exact hv v (List.mem_of_getElem? hi)
    · exact hc v (List.mem_of_getElem? hi)
  · cases hi
/-- an operand's value -/
def GV (m : M) (e : E) (b : Bd) (g : G) (v' : Value) : Prop := ∀ k, g e b k = true → ∃ v, VR m v v' ∧ k v = true
inductive PsR (m : M) (e : E) (b : Bd) (len : Nat) (place : Nat → Option (Nat × Nat)) : List (Nat × Nat × G) → List (Nat × Value) → Prop
  | nil : PsR m e b len place [] []
  | cons {i o s : Nat} {g : G} {v' : Value} {l : List (Nat × Nat × G)} {l' : List (Nat × Value)} (hp : place i = some (o, s)) (ho : o + s ≤ len) (hg : GV m e b g v') (t : PsR m e b len place l l') :
      PsR m e b len place ((o, s, g) :: l) ((i, v') :: l')
theorem fill_cons {place : Nat → Option (Nat × Nat)} {cs : Array Value} {i o s : Nat} {v : Value} {rest : List (Nat × Value)} (hp : place i = some (o, s)) (h1 : v.cells.size = s) (h2 : o + s ≤ cs.size) :
    Instr.fill place cs ((i, v) :: rest) = Instr.fill place (overA cs o v.cells.toList) rest := by
  have h5 : (decide (v.cells.size ≠ s) || decide (o + v.cells.size > cs.size)) = false := by
    simp only [Bool.or_eq_false_iff, decide_eq_false_iff_not]
    omega
  rw [Instr.fill]
  simp only [hp]
  rw [if_neg (by rw [h5]; exact Bool.false_ne_true)]
  rw [← fill_fold o v.cells cs]
theorem parts_inv {e : E} {b : Bd} {place : Nat → Option (Nat × Nat)} : ∀ {len : Nat} {ps : List (Nat × Nat × G)} {ps' : List (Nat × Value)} {c : List Value} {cs : Array Value} {k : List Value → Bool}, PsR m e b len place ps ps' →
    VRL m c cs.toList → (∀ v ∈ c, isCell v = true) → cs.size = len → parts ps e b c k = true → ∃ c' cs', Instr.fill place cs ps' = some cs' ∧ VRL m c' cs'.toList ∧ (∀ v ∈ c', isCell v = true) ∧ k c' = true := by
  intro len ps
  induction ps with
  | nil =>
    intro ps' c cs k hp hc hcc hl hh
    cases hp
    exact ⟨c, cs, rfl, hc, hcc, hh⟩
  | cons x ps ih =>
    intro ps' c cs k hp hc hcc hl hh
    cases hp with
    | cons hpl ho hg ht =>
      rename_i i o s g v' l'
      have h1 : g e b (fun v => vCells v (fun vs => lenIs 147 s vs (parts ps e b (setL vs o c) k))) = true := hh
      obtain ⟨v, hv, h2⟩ := hg _ h1
      obtain ⟨vs, h3, h4, h5⟩ := cells_inv hv h2
      obtain ⟨h6, h7⟩ := lenIs_inv h5
      have hsz : v'.cells.size = s := by rw [← h6, h3.length]; simp
      obtain ⟨c', cs', g1, g2, g3, g4⟩ := ih ht (over_rel hc h3) (setL_cell h4 hcc) (by rw [overA_size]; exact hl) h7
      exact ⟨c', cs', by rw [fill_cons hpl hsz (by omega)]; exact g1, g2, g3, g4⟩
theorem putParts_inv {s n : Nat} : ∀ {ps ps' : List (Nat × Value)} {t : Tr (List Value)} {cs : Array Value} {k : Tr (List Value) → Bool}, ps.map (·.1) = ps'.map (·.1) → VRL m (ps.map (·.2)) (ps'.map (·.2)) →
    Trie m t n s (fun j => cs[j]?) → cs.size = n * s → putParts s n ps t k = true → ∃ t' cs', Instr.fill (fun i => some (i * s, s)) cs ps' = some cs' ∧ cs'.size = n * s ∧ Trie m t' n s (fun j => cs'[j]?) ∧ k t' = true := by
  intro ps
  induction ps with
  | nil =>
    intro ps' t cs k h1 h2 ht hl hh
    have : ps' = [] := by cases ps' with
      | nil => rfl
      | cons a b => simp at h1
    subst this
    exact ⟨t, cs, rfl, hl, ht, hh⟩
  | cons x ps ih =>
    intro ps' t cs k h1 h2 ht hl hh
    cases ps' with
    | nil => simp at h1
    | cons y ps' =>
      obtain ⟨i, v⟩ := x
      obtain ⟨i', v'⟩ := y
      simp only [List.map_cons, List.cons.injEq] at h1
      obtain ⟨rfl, h1⟩ := h1
      cases h2 with
      | cons hv h2 =>
        have h3 : (Bool.rec (ff 150) (vCells v (fun vs => Bool.rec (ff 151) (t.put (some vs) (pth i) (fun t' => putParts s n ps t' k)) (Nat.beq vs.length s))) (Nat.ble (Nat.succ i) n) : Bool) = true := hh
        obtain ⟨h4, h5⟩ := rec_t h3
        have h4 := ble_iff.1 h4
        obtain ⟨vs, h6, h7, h8⟩ := cells_inv hv h5
        obtain ⟨h9, h10⟩ := rec_t h8
        have h9 := beq_iff.1 h9
        have h11 := put_inv h10
        have hsz : v'.cells.size = s := by rw [← h9, h6.length]; simp
        have hin : i * s + s ≤ n * s := by
          have : (i + 1) * s ≤ n * s := Nat.mul_le_mul_right _ h4
          rw [Nat.succ_mul] at this; exact this
        have hT : Trie m (t.set i (some vs)) n s (fun j => (overA cs (i * s) v'.cells.toList)[j]?) := by
          intro q l hq
          rw [Tr.at_set] at hq
          split at hq
          · next e =>
            injection hq with hq; subst hq; subst e
            refine ⟨h9, h4, fun j x hx => ?_⟩
            have hj : j < s := by have := (List.getElem?_eq_some_iff.1 hx).1; omega
            obtain ⟨x', r1, r2⟩ := h6.get hx
            refine ⟨h7 x (List.mem_of_getElem? hx), x', ?_, r2⟩
            show (overA cs (q * s) v'.cells.toList)[q * s + j]? = some x'
            rw [overA_get, if_pos (by omega), if_pos (by simp [hsz]; omega)]
            rw [← r1]; congr 1; omega
          · next e =>
            obtain ⟨r1, r2, r3⟩ := ht q l hq
            refine ⟨r1, r2, fun j x hx => ?_⟩
            have hj : j < s := by have := (List.getElem?_eq_some_iff.1 hx).1; omega
            obtain ⟨r4, x', r5, r6⟩ := r3 j x hx
            refine ⟨r4, x', ?_, r6⟩
            show (overA cs (i * s) v'.cells.toList)[q * s + j]? = some x'
            have hqn : q * s + s ≤ n * s := by
              have : (q + 1) * s ≤ n * s := Nat.mul_le_mul_right _ r2
              rw [Nat.succ_mul] at this; exact this
            rw [overA_get, if_pos (by omega), if_neg]
            · exact r5
            · simp [hsz]
              intro hle
              rcases Nat.lt_or_ge q i with hlt | hge
              · have : (q + 1) * s ≤ i * s := Nat.mul_le_mul_right _ hlt
                rw [Nat.succ_mul] at this; omega
              · have : (i + 1) * s ≤ q * s := Nat.mul_le_mul_right _ (by omega)
                rw [Nat.succ_mul] at this; omega
        obtain ⟨t', cs', g1, g2, g3, g4⟩ := ih h1 h2 hT (by rw [overA_size]; exact hl) h11
        exact ⟨t', cs', by rw [fill_cons (o := i * s) (s := s) rfl hsz (by omega)]; exact g1, g2, g3, g4⟩
theorem buildSlice_inv (hs : Sim X m h w) {t el : TypeId} {s len : Nat} {z : List Value} (ht : P.underlying t = some (.slice el)) (hz : ZOk P el s z) {ps ps' : List (Nat × Value)} (h1 : ps.map (·.1) = ps'.map (·.1)) (h2 : VRL m (ps.map (·.2)) (ps'.map (·.2))) {k : KV}
    (hh : abuildSlice h el s len z ps k = true) : ∃ v' w', (Instr.buildSlice t len ps'.toArray).run P w = .ok v' w' ∧ Done X m h w k v' w' := by
  obtain ⟨h3, h4⟩ := rec_t hh
  obtain ⟨h5, _⟩ := and_inv h3
  have h5 := ble_iff.1 h5
  rw [natmul] at h5
  obtain ⟨i, v, i1, i2, i3, i4⟩ := hz.info
  have hT := made_trie hz.len (hz.vr m) hz.cell i4 len
  obtain ⟨t', cs', g1, g2, g3, g4⟩ := putParts_inv h1 h2 hT (by rw [size_madeCells]) h4
  obtain ⟨b, m', h', r1, r2, r3, r4⟩ := newRow_inv hs (e := el) (fz := none) (cs := cs') g3 (by rw [g2]; exact Nat.le_refl _) g4
  refine ⟨.slice (some ⟨w.heap.size, 0, none⟩) len len, _, ?_, m', h', _, .slE _ _ ⟨rfl, _, r1, by simp⟩, r2, r3, r4⟩
  have hle : ¬ (2 ^ 24 < len * i.size) := by rw [i2]; omega
  subst i2
  have g1' : Instr.fill (fun j => some (j * i.size, i.size)) ((Array.range (len * i.size)).map (v.cells[· % v.cells.size]!)) ps' = some cs' := g1
  by_cases h0 : len * i.size = 0
  · have e0 : (Array.range (len * i.size)).map (v.cells[· % v.cells.size]!) = (#[] : Array Value) := by rw [h0]; simp
    rw [e0] at g1'
    have e1 : Array.map (fun (x : Nat) => (default : Value)) (Array.range 0) = #[] := by simp
    simp [Instr.buildSlice, run_underlying ht, sizeOf, typeInfo, i1, h0, newRow, e1, g1']
  · simp [Instr.buildSlice, run_underlying ht, sizeOf, typeInfo, zeroValue, i1, i3, h0, newRow, g1']
    omega
end Go.Ab
end
section
namespace Go.Ab
variable {X : Cx} {m m' : M} {h h' : Hp} {w w' : World} {P : Program}
/-! ### a string over bytes that lie there -/
theorem run_loadBytes : ∀ (ns : List Int) (a : Addr) (acc : ByteArray), a.spot = none → (∀ (j : Nat) (v : Value), (ns.map (Value.int .u8))[j]? = some v → w.cell? (a.add j) = some v) →
    (loadBytes a acc ns.length).run P w = .ok ⟨⟨acc.data.toList ++ ns.map fun n => UInt8.ofNat n.toNat⟩⟩ w
  | [], a, acc, _, _ => by simp [loadBytes]
  | n :: ns, a, acc, ha, hj => by
    obtain ⟨b, o, sp⟩ := a
    have hsp : sp = none := ha
    subst hsp
    have h0 : w.cell? (⟨b, o, none⟩ : Addr) = some (.int .u8 n) := by
      have := hj 0 (.int .u8 n) (by simp)
      rwa [add_none, Nat.add_zero] at this
    have ih := run_loadBytes ns ⟨b, o + 1, none⟩ (acc.push (UInt8.ofNat n.toNat)) rfl (fun j v hv => by
      have := hj (j + 1) v (by simpa using hv)
      rw [add_none] at this ⊢
      rwa [show o + 1 + j = o + (j + 1) by omega])
    simp only [List.length_cons, loadBytes, Sem.run_bind, run_load, h0, Result.andThen_ok]
    rw [add_none]
    have e : n.toNat.toUInt8 = UInt8.ofNat n.toNat := rfl
    rw [e, ih]
    congr 3
    simp [ByteArray.push]
theorem liesAt_one (P : Program) (u : TypeId) (i : TypeInfo) (hi : P.info? u = some i) (hs : i.size = 1) (count off n : Nat) (h : off + n ≤ count) : liesAt P P.depth u count off u n = true := by
  have hd : ∃ d, P.depth = d + 1 := ⟨2 * (P.types.size + Made.depth) + 1, rfl⟩
  obtain ⟨d, hd⟩ := hd
  have hc : P.cellsOf u = 1 := by simp [Program.cellsOf, hi, hs]
  have hsl : sameLayout P P.depth u u = true := by rw [hd]; simp [sameLayout]
  have hr : rowAt P (sameLayout P P.depth · u) P.depth u count off n = true := by
    generalize hfit : (fun x => sameLayout P P.depth x u) = fit
    have hf : fit u = true := by rw [← hfit]; exact hsl
    rw [hd]
    simp [rowAt, hc, hf, h, Nat.mod_one]
  have : liesAt P (d + 1) u count off u n = true := by
    rw [liesAt, hr]; rfl
  rw [← hd] at this
  exact this
theorem freeze_eq {w : World} {b off n : Nat} {cs : Array Value} {e : TypeId} {fr : Nat × Nat} (hw : w.heap[b]? = some (.cells cs e fr)) (hn : n ≠ 0) :
    w.freeze ⟨b, off, none⟩ n = w.putObj b (.cells cs e (if fr.1 == fr.2 then (off, off + n) else (min fr.1 off, max fr.2 (off + n)))) := by
  have hlt := (Array.getElem?_eq_some_iff.1 hw).1
  have : ∀ f : Obj → Obj, w.heap.modify b f = w.heap.setIfInBounds b (f (.cells cs e fr)) := by
    intro f
    apply Array.ext_getElem?
    intro i
    rw [Array.getElem?_modify]
    by_cases hi : b = i
    · subst hi
      simp only [if_true, hw]
      simp [hlt]
    · simp only [hi, if_false]
      rw [Array.getElem?_setIfInBounds_ne hi]
  unfold World.freeze World.putObj
  rw [if_neg hn, this]
theorem us_some (t : TypeId) (ts : List TypeId) (ty : TypeId) (a : Addr) (v : Value) : ∃ s1 s2 s3 : String, Builtin.unsafeString_ ⟨t :: ts⟩ ty #[.pointer (some a), v] =
      (do
        let n ← asInt v
        if n < 0 then runtimePanic (.error s1)
        if n > IntKind.i64.max then unsupported (.unsafePointer s2)
        if n = 0 then pure (.string .empty)
        else if ← variablesAt a (← elemOf t) n.toNat then do
          let s ← loadBytes a .empty n.toNat
          freeze a n.toNat
          pure (.string s)
        else unsupported (.unsafePointer s3)) := ⟨_, _, _, rfl⟩
theorem us_none (t : TypeId) (ts : List TypeId) (ty : TypeId) (v : Value) : ∃ s1 s2 s3 : String, Builtin.unsafeString_ ⟨t :: ts⟩ ty #[.pointer none, v] =
      (do
        let n ← asInt v
        if n < 0 then runtimePanic (.error s1)
        if n > IntKind.i64.max then unsupported (.unsafePointer s2)
        if n = 0 then pure (.string .empty)
        else runtimePanic (.error s3)) := ⟨_, _, _, rfl⟩
theorem uStr_inv (hs : Sim X m h w) {t el ty : TypeId} {i : TypeInfo} (ht : P.underlying t = some (.pointer el)) (hi : P.info? el = some i) (hsz : i.size = 1) {x x' n n' : Value} (hx : VR m x x') (hn : VR m n n') {k : KV}
    (hh : vInt n (fun _ n => iNat n (fun n => Bool.rec (ff 172) (vPtrO x (fun a =>
    Bool.rec (oK 169 a (fun a => spot0 a (Bool.rec (h.t.get (pth a.block) (fun c => Bool.rec (ff 170) (Bool.rec (ff 170) (rd c.t c.s a.off n (fun cs => bytesOf cs (fun bs =>
            h.t.mod (fun c kk => Option.rec (kk ⟨c.t, c.n, c.s, c.e, some (Nat.add a.off n)⟩) (fun f => Bool.rec (ff 174) (kk ⟨c.t, c.n, c.s, c.e, some (Nat.max f (Nat.add a.off n))⟩) (Nat.ble 1 f)) c.fz) (pth a.block) (fun t => k (.string ⟨⟨bs⟩⟩) ⟨h.y, t, h.o, h.ny, h.nt, h.no⟩))))
            (Nat.beq c.e el)) (Nat.beq c.s 1))) (ff 171) (Nat.ble yb a.block))))
      (k (.string ⟨⟨[]⟩⟩) h) (Nat.beq n 0)) (ff 172)) (Nat.ble n 1000000000))) (ff 172) = true) (ts : List TypeId) :
    ∃ v' w', (Builtin.unsafeString_ ⟨t :: ts⟩ ty #[x', n']).run P w = .ok v' w' ∧ Done X m h w k v' w' := by
  rcases vInt_inv hh with ⟨kn, nn, rfl, h1⟩ | h1
  case inr => exact ffa h1
  cases nn with
  | negSucc _ => exact ffa h1
  | ofNat nn =>
    obtain ⟨hle, h2⟩ := rec_t (b := Nat.ble nn 1000000000) h1
    have hle := ble_iff.1 hle
    cases hn
    have emp : (ByteArray.empty : ByteArray) = ⟨⟨[]⟩⟩ := rfl
    have c1 : ¬ ((nn : Int) < 0) := by omega
    have c2 : ¬ ((nn : Int) > IntKind.i64.max) := by simp [IntKind.max, IntKind.bits, IntKind.signed]; omega
    rcases vPtrO_inv h2 with ⟨a, rfl, h3⟩ | h3
    case inr => exact ffa h3
    rcases rec_inv h3 with ⟨hb, h4⟩ | ⟨hb, h4⟩
    · have hb := beq_f.1 hb
      obtain ⟨a, rfl, h5⟩ := opt_inv h4
      cases hx with
      | ptr ha =>
        rename_i a'
        obtain ⟨_, h6⟩ := spot0_inv h5
        rcases rec_inv h6 with ⟨hyb, h7⟩ | ⟨_, h7⟩
        case inr => exact ffa h7
        have hyb := ble_f.1 hyb
        obtain ⟨c, hc, h8⟩ := get_inv h7
        obtain ⟨hcs, h9⟩ := rec_t h8
        obtain ⟨hce, h10⟩ := rec_t h9
        have hcs := beq_iff.1 hcs
        have hce := beq_iff.1 hce
        have hblk : h.blk a.block = some c := by
          unfold Hp.blk
          have : ¬ yb ≤ a.block := by omega
          simp [this, hc]
        obtain ⟨p, cs, fr, g1, g2, g3, g4⟩ := hs.at ha hblk
        subst g2
        obtain ⟨l, hl, hk⟩ := rd_inv (fun q l hl => (g4.chunk q l hl).1) h10
        obtain ⟨l', hr⟩ := hl.reads g4 g3
        obtain ⟨ns, r1, r2, r3⟩ := bytesOf_inv hr.vr hk
        obtain ⟨c', hc', h11⟩ := mod_inv r2
        rw [hc] at hc'; injection hc' with hc'; subst hc'
        have hlen : ns.length = nn := by rw [← hr.len, hr.vr.length, r1]; simp
        have hroom : p.sh + a.off + nn ≤ cs.size := by
          obtain ⟨y, hy⟩ : ∃ y, l'[nn - 1]? = some y := ⟨_, List.getElem?_eq_getElem (by rw [← hr.vr.length, hr.len]; omega)⟩
          have := hr.at' _ _ hy
          rw [add_none] at this
          simp only [World.cell?, g3] at this
          have := (Array.getElem?_eq_some_iff.1 (by simpa using this : cs[p.sh + a.off + (nn - 1)]? = some y)).1
          omega
        have hlies := liesAt_one P el i hi hsz (cs.size / P.cellsOf el) (p.sh + a.off) nn (by simp [Program.cellsOf, hi, hsz]; omega)
        have hload := run_loadBytes (P := P) (w := w) ns ⟨p.b, p.sh + a.off, none⟩ .empty rfl (by rw [← r1]; exact hr.at')
        rw [hlen] at hload
        have hfz := freeze_eq (off := p.sh + a.off) g3 hb
        have fin : ∀ F, FzR (some F) p.sh cs.size (if fr.1 == fr.2 then (p.sh + a.off, p.sh + a.off + nn) else (min fr.1 (p.sh + a.off), max fr.2 (p.sh + a.off + nn))) →
            k (.string ⟨⟨ns.map fun n => UInt8.ofNat n.toNat⟩⟩) (h.setB a.block ⟨c.t, c.n, c.s, c.e, some F⟩) = true →
            ∃ v' w', (Builtin.unsafeString_ ⟨t :: ts⟩ ty #[.pointer (some ⟨p.b, p.sh + a.off, none⟩), .int kn (Int.ofNat nn)]).run P w = .ok v' w' ∧ Done X m h w k v' w' := by
          intro F hF hkk
          obtain ⟨s1, s2⟩ := hs.putB (c := ⟨c.t, c.n, c.s, c.e, some F⟩) (o := .cells cs c.e (if fr.1 == fr.2 then (p.sh + a.off, p.sh + a.off + nn) else (min fr.1 (p.sh + a.off), max fr.2 (p.sh + a.off + nn)))) g1 hyb hblk
            ⟨_, _, rfl, ⟨g4.sz, g4.es, g4.room, g4.chunk, g4.cell, hF, g4.al⟩⟩
          refine ⟨_, _, ?_, m, _, _, .string ⟨⟨ns.map fun n => UInt8.ofNat n.toNat⟩⟩, s1, s2, hkk⟩
          rw [← hfz]
          have hshape : w.shape? p.b = some (c.e, cs.size) := by simp [World.shape?, g3]
          have c2' : ¬ (IntKind.i64.max < (nn : Int)) := c2
          rw [hce] at hshape
          obtain ⟨s1, s2, s3, hus⟩ := us_some t ts ty ⟨p.b, p.sh + a.off, none⟩ (.int kn (Int.ofNat nn))
          rw [hus]
          simp [asInt, asIntOf, c1, c2', hb, elemOf, run_underlying ht, variablesAt, hshape, hlies, hload]
          first | done | omega
        rcases opt2_inv h11 with ⟨hfn, h12⟩ | ⟨f, hfn, h12⟩
        · refine fin _ ?_ h12
          have := g4.fz
          rw [hfn] at this
          have hfr : fr = (0, 0) := this
          subst hfr
          refine .inl ?_
          simp [natadd]
          omega
        · obtain ⟨hf1, h13⟩ := rec_t h12
          have hf1 := ble_iff.1 hf1
          refine fin _ ?_ h13
          have := g4.fz
          rw [hfn] at this
          have h14 : fr.2 ≤ p.sh + f ∨ (f = 0 ∧ cs.size ≤ fr.1) := this
          refine .inl ?_
          have hmax : ∀ a b : Nat, Nat.max a b = max a b := fun _ _ => rfl
          rw [hmax, natadd]
          split
          · show p.sh + a.off + nn ≤ _; omega
          · show max fr.2 (p.sh + a.off + nn) ≤ _; omega
    · have hb := beq_iff.1 hb
      subst hb
      refine ⟨_, w, ?_, Done.of hs (.string _) h4⟩
      cases hx with
      | pnil => obtain ⟨s1, s2, s3, hus⟩ := us_none t ts ty (.int kn (Int.ofNat 0)); (rw [hus]; simp [asInt, asIntOf, emp, IntKind.max, IntKind.bits, IntKind.signed])
      | ptr _ => obtain ⟨s1, s2, s3, hus⟩ := us_some t ts ty _ (.int kn (Int.ofNat 0)); (rw [hus]; simp [asInt, asIntOf, emp, IntKind.max, IntKind.bits, IntKind.signed])
end Go.Ab
end
section
namespace Go.Ab
variable {X : Cx} {m m' : M} {h h' : Hp} {w w' : World} {P : Program}
/-! ### addresses held against each other -/
theorem plainAt_inv {b : Nat} {k : Bool} (hh : plainAt h b k = true) : k = true ∧ ∃ c, h.blk b = some c ∧ c.fz = none := by
  obtain ⟨c, h1, h2⟩ := Hp.cells_inv hh
  rcases h2 with ⟨_, h2⟩ | ⟨_, s, l, e, rfl, h2⟩
  · rcases opt2_inv h2 with ⟨h3, h4⟩ | ⟨_, _, h4⟩
    · exact ⟨h4, c, h1, h3⟩
    · exact ffa h4
  · exact ⟨h2, _, h1, rfl⟩
theorem addrEq_iff {a b : Addr} (ha : a.spot = none) (hb : b.spot = none) : addrEq a b = (a.block == b.block && a.off == b.off) := by
  unfold addrEq
  rw [ha, hb]
  cases h1 : Nat.beq a.block b.block with
  | false => have := beq_f.1 h1; simp [this]
  | true =>
    have := beq_iff.1 h1
    cases h2 : Nat.beq a.off b.off with
    | false => have h3 := beq_f.1 h2; simp [h3]
    | true => have h3 := beq_iff.1 h2; simp [this, h3]
theorem ptrEq_inv (hs : Sim X m h w) {a b a' b' : Addr} (ha : AR m a a') (hb : AR m b b') {k : Bool → Bool} (hh : ptrEq h a b k = true) : ∃ r, (sameAddr a' b').run P w = .ok r w ∧ k r = true := by
  rcases rec_inv hh with ⟨h1, h2⟩ | ⟨h1, h2⟩
  · have h1 := beq_f.1 h1
    obtain ⟨h3, c, hc, hcf⟩ := plainAt_inv h2
    obtain ⟨h4, d, hd, hdf⟩ := plainAt_inv h3
    obtain ⟨p, cs, fr, p1, p2, p3, p4⟩ := hs.at ha hc
    obtain ⟨q, ds, gr, q1, q2, q3, q4⟩ := hs.at hb hd
    have hne : p.b ≠ q.b := fun e => h1 (hs.inj _ _ _ _ (live_iff_blk hc) (live_iff_blk hd) p1 q1 e)
    have hfr : fr = (0, 0) := by have := p4.fz; rw [hcf] at this; exact this
    have hgr : gr = (0, 0) := by have := q4.fz; rw [hdf] at this; exact this
    subst hfr; subst hgr; subst p2; subst q2
    refine ⟨false, ?_, h4⟩
    have hsp : w.shape? p.b = some (c.e, cs.size) := by simp [World.shape?, p3]
    have hsq : w.shape? q.b = some (d.e, ds.size) := by simp [World.shape?, q3]
    have hzp : ∀ o, w.frozen? ⟨p.b, o, none⟩ = false := by intro o; simp [World.frozen?, p3]
    have hzq : ∀ o, w.frozen? ⟨q.b, o, none⟩ = false := by intro o; simp [World.frozen?, q3]
    simp [sameAddr, hne, hzp, hzq, noView, viewAt, hsp, hsq, mayBeOne, stringish]
  · have h1 := beq_iff.1 h1
    obtain ⟨sa, p, p1, p2⟩ := ha
    obtain ⟨sb, q, q1, q2⟩ := hb
    rw [← h1, p1] at q1; injection q1 with q1; subst q1; subst p2; subst q2
    refine ⟨_, ?_, h2⟩
    rw [addrEq_iff sa sb, h1]
    have e : ((⟨p.b, p.sh + a.off, none⟩ : Addr) == ⟨p.b, p.sh + b.off, none⟩) = (b.block == b.block && a.off == b.off) := by
      rw [Bool.eq_iff_iff]; simp
    simp only [sameAddr, beq_self_eq_true, if_true, Sem.run_pure]
    rw [e]
    simp
theorem run_equal (t : TypeId) (x y : Value) : Op.equal t x y = Op.equalIn (9999 + 1) t x y := rfl
theorem equalIn_ptr (d : Nat) {t el : TypeId} {i : TypeInfo} (ht : P.underlying t = some (.pointer el)) (hi : P.info? el = some i) (hz : i.size ≠ 0) (a b : Addr) : (Op.equalIn (d + 1) t (.pointer (some a)) (.pointer (some b))).run P w = (sameAddr a b).run P w := by
  simp [Op.equalIn, run_underlying ht, sizeOf, typeInfo, hi, hz]
theorem equalIn_ptr0 (d : Nat) {t el : TypeId} (ht : P.underlying t = some (.pointer el)) (b : Option Addr) : (Op.equalIn (d + 1) t (.pointer none) (.pointer b)).run P w = .ok b.isNone w := by
  simp [Op.equalIn, run_underlying ht]
theorem equalIn_ptr1 (d : Nat) {t el : TypeId} (ht : P.underlying t = some (.pointer el)) (a : Addr) : (Op.equalIn (d + 1) t (.pointer (some a)) (.pointer none)).run P w = .ok false w := by
  simp [Op.equalIn, run_underlying ht]
theorem eP_inv (hs : Sim X m h w) {t el : TypeId} {i : TypeInfo} (ht : P.underlying t = some (.pointer el)) (hi : P.info? el = some i) (hz : i.size ≠ 0) {x y x' y' : Value} (hx : VR m x x') (hy : VR m y y') {k : Bool → Bool}
    (hh : eP x y h k = true) : ∃ r, (Op.equal t x' y').run P w = .ok r w ∧ k r = true := by
  rcases vPtrO_inv hh with ⟨a, rfl, h1⟩ | h1
  case inr => exact ffa h1
  rcases vPtrO_inv h1 with ⟨b, rfl, h2⟩ | h2
  case inr => exact ffa h2
  rw [run_equal]
  rcases opt2_inv h2 with ⟨rfl, h3⟩ | ⟨a, rfl, h3⟩
  · cases hx
    cases hy with
    | pnil => exact ⟨true, equalIn_ptr0 9999 ht _, h3⟩
    | ptr _ => exact ⟨false, equalIn_ptr0 9999 ht _, h3⟩
  · cases hx with
    | ptr ha =>
      rcases opt2_inv h3 with ⟨rfl, h4⟩ | ⟨b, rfl, h4⟩
      · cases hy
        rw [equalIn_ptr1 9999 ht]
        exact ⟨false, rfl, h4⟩
      · cases hy with
        | ptr hb =>
          rw [equalIn_ptr 9999 ht hi hz]
          exact ptrEq_inv hs ha hb h4
/-! ### pointers without a type -/
theorem inBlock_inv (hs : Sim X m h w) {a a' : Addr} (ha : AR m a a') {k : Bool} (hh : inBlock h a k = true) :
    k = true ∧ ∃ c p cs fr, h.blk a.block = some c ∧ m a.block = some p ∧ a' = ⟨p.b, p.sh + a.off, none⟩ ∧ w.heap[p.b]? = some (.cells cs c.e fr) ∧ BlkR' m c p cs fr ∧ p.sh + a.off < cs.size := by
  obtain ⟨_, h1⟩ := spot0_inv hh
  obtain ⟨c, hc, h2⟩ := Hp.cells_inv h1
  obtain ⟨p, cs, fr, h3, h4, h5, h6⟩ := hs.at ha hc
  have hroom := h6.room
  rcases h2 with ⟨_, h2⟩ | ⟨_, s, l, e, rfl, h2⟩
  · obtain ⟨h7, h8⟩ := rec_t h2
    have h7 : a.off + 1 ≤ c.n * c.s := ble_iff.1 h7
    exact ⟨h8, c, p, cs, fr, hc, h3, h4, h5, h6, by omega⟩
  · obtain ⟨h7, h8⟩ := rec_t h2
    have h7 : a.off + 1 ≤ s := ble_iff.1 h7
    refine ⟨h8, _, p, cs, fr, hc, h3, h4, h5, h6, ?_⟩
    have : p.sh + 1 * s ≤ cs.size := hroom
    omega
theorem seenAt_run {a : Addr} {cs : Array Value} {e : TypeId} {fr : Nat × Nat} (hw : w.heap[a.block]? = some (.cells cs e fr)) : (Conv.seenAt a).run P w = .ok a w := by
  have hsp : w.shape? a.block = some (e, cs.size) := by simp [World.shape?, hw]
  simp [Conv.seenAt, viewAt, hsp]
theorem cvPU_inv (hs : Sim X m h w) {s d t : TypeId} {i : TypeInfo} (h1 : P.underlying s = some (.pointer t)) (h2 : P.underlying d = some .unsafePointer) (hi : P.info? t = some i) (hz : i.size ≠ 0) {x x' : Value} (hx : VR m x x') {k : KV}
    (hh : vPtr x (fun a => inBlock h a (k x h)) (ff 127) = true) : ∃ v', (convert s d x').run P w = .ok v' w ∧ Done X m h w k v' w := by
  obtain ⟨a, rfl, h3⟩ := vPtr_inv hh
  cases hx with
  | ptr ha =>
    obtain ⟨h4, c, p, cs, fr, h5, h6, h7, h8, h9, h10⟩ := inBlock_inv hs ha h3
    subst h7
    refine ⟨_, ?_, Done.of hs (.ptr ha) h4⟩
    have hsp : w.shape? p.b = some (c.e, cs.size) := by simp [World.shape?, h8]
    have hsee := seenAt_run (P := P) (a := ⟨p.b, p.sh + a.off, none⟩) h8
    have hlt : ¬ (cs.size ≤ p.sh + a.off) := by omega
    simp [convert, run_underlying h1, run_underlying h2, Conv.unsafePointer, hsee, cellsIn, hsp, sizeOf, typeInfo, hi, hz, hlt]
theorem rowAt_mono (P : Program) (fits : TypeId → Bool) : ∀ (d : Nat) (e : TypeId) (count count' off n : Nat), count ≤ count' → rowAt P fits d e count off n = true → rowAt P fits d e count' off n = true
  | 0, _, _, _, _, _, _, h => by simp [rowAt] at h
  | d + 1, e, count, count', off, n, hc, h => by
    unfold rowAt at h ⊢
    by_cases hs : P.cellsOf e = 0
    · simp [hs] at h
    · simp only [hs, if_false, Bool.or_eq_true, Bool.and_eq_true, decide_eq_true_eq] at h ⊢
      rcases h with ⟨⟨h1, h2⟩, h3⟩ | ⟨h1, h2⟩
      · exact .inl ⟨⟨h1, by omega⟩, h3⟩
      · exact .inr ⟨by omega, h2⟩
theorem liesAt_mono (P : Program) : ∀ (d : Nat) (e : TypeId) (count count' off : Nat) (u : TypeId) (n : Nat), count ≤ count' → liesAt P d e count off u n = true → liesAt P d e count' off u n = true
  | 0, _, _, _, _, _, _, _, h => by simp [liesAt] at h
  | d + 1, e, count, count', off, u, n, hc, h => by
    unfold liesAt at h ⊢
    simp only [Bool.or_eq_true] at h ⊢
    rcases h with h | h
    · exact .inl (rowAt_mono P _ _ _ _ _ _ _ hc h)
    · refine .inr ?_
      split at h
      · exact liesAt_mono P d e count count' off _ _ hc h
      · exact h
end Go.Ab
end
section
namespace Go.Ab
variable {X : Cx} {m m' : M} {h h' : Hp} {w w' : World} {P : Program}
theorem rowAt_shift (P : Program) (fits : TypeId → Bool) (d : Nat) (e : TypeId) (s off n q count : Nat) (hs : P.cellsOf e = s) (hq : q + 1 ≤ count) (h : rowAt P fits d e 1 off n = true) : rowAt P fits d e count (q * s + off) n = true := by
  cases d with
  | zero => simp [rowAt] at h
  | succ d =>
    unfold rowAt at h ⊢
    rw [hs] at h ⊢
    by_cases h0 : s = 0
    · simp [h0] at h
    · have e1 : (q * s + off) / s = q + off / s := by
        rw [Nat.add_comm, Nat.add_mul_div_right _ _ (by omega)]; omega
      have e2 : (q * s + off) % s = off % s := by rw [Nat.add_comm, Nat.add_mul_mod_self_right]
      simp only [h0, if_false, Bool.or_eq_true, Bool.and_eq_true, decide_eq_true_eq, e1, e2] at h ⊢
      rcases h with ⟨⟨h1, h2⟩, h3⟩ | ⟨h1, h2⟩
      · exact .inl ⟨⟨h1, by omega⟩, h3⟩
      · exact .inr ⟨by omega, h2⟩
theorem liesAt_shift (P : Program) : ∀ (d : Nat) (e : TypeId) (s off : Nat) (u : TypeId) (n q count : Nat), P.cellsOf e = s → q + 1 ≤ count → liesAt P d e 1 off u n = true → liesAt P d e count (q * s + off) u n = true
  | 0, _, _, _, _, _, _, _, _, _, h => by simp [liesAt] at h
  | d + 1, e, s, off, u, n, q, count, hs, hq, h => by
    unfold liesAt at h ⊢
    simp only [Bool.or_eq_true] at h ⊢
    rcases h with h | h
    · exact .inl (rowAt_shift P _ _ _ _ _ _ _ _ hs hq h)
    · refine .inr ?_
      split at h
      · exact liesAt_shift P d e s off _ _ q count hs hq h
      · exact h
theorem liesAt_cells (P : Program) : ∀ (d : Nat) (e : TypeId) (count off : Nat) (u : TypeId) (n : Nat), liesAt P d e count off u n = true → P.cellsOf e ≠ 0
  | 0, _, _, _, _, _, h => by simp [liesAt] at h
  | d + 1, e, count, off, u, n, h => by
    unfold liesAt at h
    simp only [Bool.or_eq_true] at h
    rcases h with h | h
    · intro h0
      generalize P.depth = dd at h
      cases dd with
      | zero => simp [rowAt] at h
      | succ dd => unfold rowAt at h; simp [h0] at h
    · split at h
      · exact liesAt_cells P d e count off _ _ h
      · cases h
theorem cvUP_inv (hs : Sim X m h w) {s d u : TypeId} {i : TypeInfo} {L : TypeId → Nat → Nat → Bool} (hL : ∀ e o s, L e o s = true → lies P u e o s = true) (h1 : P.underlying s = some .unsafePointer) (h2 : P.underlying d = some (.pointer u)) (hi : P.info? u = some i) {x x' : Value} (hx : VR m x x') {k : KV}
    (hh : vPtr x (fun a => inBlock h a (h.cells a.block (fun c => Bool.rec (ff 128) (k x h) (L c.e a.off c.s)) (fun s _ el => Bool.rec (ff 128) (k x h) (L el a.off s)))) (ff 128) = true) :
    ∃ v', (convert s d x').run P w = .ok v' w ∧ Done X m h w k v' w := by
  obtain ⟨a, rfl, h3⟩ := vPtr_inv hh
  cases hx with
  | ptr ha =>
    obtain ⟨h4, c, p, cs, fr, h5, h6, h7, h8, h9, h10⟩ := inBlock_inv hs ha h3
    subst h7
    have hl : L c.e a.off c.s = true ∧ k (.pointer (some a)) h = true := by
      obtain ⟨c2, e1, e2⟩ := Hp.cells_inv h4
      rw [h5] at e1; injection e1 with e1; subst e1
      rcases e2 with ⟨_, e2⟩ | ⟨_, s2, l2, el2, rfl, e2⟩
      · exact rec_t e2
      · exact rec_t e2
    obtain ⟨hl, hk⟩ := hl
    have hl := hL _ _ _ hl
    unfold lies at hl
    simp only [Bool.and_eq_true, beq_iff_eq] at hl
    obtain ⟨hl1, hl2⟩ := hl
    have hc0 := liesAt_cells P _ _ _ _ _ _ hl1
    obtain ⟨q, hq⟩ := h9.al
    rw [← h9.es] at hq
    have hcount : q + 1 ≤ cs.size / P.cellsOf c.e := by
      rw [hl2, Nat.le_div_iff_mul_le (by omega), Nat.succ_mul, ← hq]
      have hroom := h9.room
      have : 1 ≤ c.n := by
        obtain ⟨_, h11⟩ := spot0_inv h3
        rcases Nat.eq_zero_or_pos c.n with h0 | h0
        · exfalso
          obtain ⟨c2, e1, e2⟩ := Hp.cells_inv h11
          rw [h5] at e1; injection e1 with e1; subst e1
          rcases e2 with ⟨_, e2⟩ | ⟨_, s2, l2, el2, rfl, e2⟩
          · obtain ⟨e3, _⟩ := rec_t e2
            have e3 : a.off + 1 ≤ c.n * c.s := ble_iff.1 e3
            rw [h0] at e3; omega
          · exact absurd h0 Nat.one_ne_zero
        · exact h0
      have : 1 * c.s ≤ c.n * c.s := Nat.mul_le_mul_right _ this
      omega
    have hlies := liesAt_shift P P.depth c.e c.s a.off u 1 q (cs.size / P.cellsOf c.e) hl2 hcount hl1
    rw [← hq] at hlies
    refine ⟨_, ?_, Done.of hs (.ptr ha) hk⟩
    have hsp : w.shape? p.b = some (c.e, cs.size) := by simp [World.shape?, h8]
    have hsee := seenAt_run (P := P) (a := ⟨p.b, p.sh + a.off, none⟩) h8
    simp [convert, run_underlying h1, run_underlying h2, Conv.unsafePointer, hsee, variablesAt, hsp, sizeOf, typeInfo, hi, hlies]
theorem slD_inv (hs : Sim X m h w) {x x' : Value} (hx : VR m x x') {k : KV} (ts : Array TypeId) (ty : TypeId)
    (hh : vSl x (fun a _ c => Option.rec (k (.pointer none) h) (fun a => Bool.rec (ff 168) (k (.pointer (some a)) h) (Nat.ble 1 (capLow c))) a) (ff 168) = true) :
    ∃ v', (Builtin.unsafeSliceData_ ts ty #[x']).run P w = .ok v' w ∧ Done X m h w k v' w := by
  rcases vSl_inv hh with ⟨a, n, c, rfl, h1⟩ | h1
  case inr => exact ffa h1
  rcases opt2_inv h1 with ⟨rfl, h2⟩ | ⟨a, rfl, h2⟩
  · cases hx with
    | snil => exact ⟨_, Lib.run_unsafeSliceData_nil w ts ty 0 0, Done.of hs .pnil h2⟩
  · obtain ⟨h3, h4⟩ := rec_t h2
    have h3 := ble_iff.1 h3
    cases hx with
    | slE n c ha =>
      have : capLow (2 * c + 1) = c := by show (2 * c + 1) / 2 = c; omega
      exact ⟨_, Lib.run_unsafeSliceData_row w ts ty _ n c (by omega), Done.of hs (.ptr ha) h4⟩
    | slL ha hp hk hr =>
      rename_i a' p kk c _
      have : capLow (2 * kk) = kk := by show 2 * kk / 2 = kk; omega
      exact ⟨_, Lib.run_unsafeSliceData_row w ts ty _ n c (by omega), Done.of hs (.ptr ha) h4⟩
    | slG a' c =>
      have : capLow 0 = 0 := rfl
      omega
end Go.Ab
end
section
namespace Go.Ab
variable {X : Cx} {m m' : M} {h h' : Hp} {w w' : World} {P : Program}
/-! ### kinds of keys -/
def ScT (P : Program) (t : TypeId) (n : Nat) : Prop := (n = 0 ∧ ∃ kk, P.underlying t = some (.int kk)) ∨ (n = 1 ∧ P.underlying t = some .string) ∨ (n = 2 ∧ P.underlying t = some .bool)
/-- the leaves of a type, one cell each -/
def FlFs (Q : TypeId → List Nat → Prop) : Nat → List Field → List Nat → Prop
  | _, [], ks => ks = []
  | i, f :: fs, ks => ∃ k1 k2, ks = k1 ++ k2 ∧ f.name ≠ "_" ∧ f.offset = i ∧ Q f.type k1 ∧ FlFs Q (i + k1.length) fs k2
def FlT (P : Program) : Nat → TypeId → List Nat → Prop
  | 0, t, ks => ∃ n, ks = [n] ∧ ScT P t n
  | d + 1, t, ks => (∃ n, ks = [n] ∧ ScT P t n) ∨ ∃ fs, P.underlying t = some (.struct fs) ∧ P.stoodInHeld t = false ∧ (∃ i, P.info? t = some i ∧ i.size = ks.length) ∧ FlFs (FlT P d) 0 fs.toList ks
structure FlatOK (P : Program) (t : TypeId) (ks : List Nat) : Prop where
  ty : ∃ fs d, P.underlying t = some (.struct fs) ∧ d ≤ 100 ∧ FlFs (FlT P d) 0 fs.toList ks
  st : P.stoodInHeld t = false
  gd : P.eqGuardType P.depth t = false
def KdOK (P : Program) (t : TypeId) : KD → Prop
  | .sc n => ScT P t n
  | .ag ks => FlatOK P t ks
inductive ScV : Nat → Value → Prop
  | int (k : IntKind) (n : Int) : ScV 0 (.int k n)
  | str (s : ByteArray) : ScV 1 (.string s)
  | bool (b : Bool) : ScV 2 (.bool b)
inductive ScL : List Nat → List Value → Prop
  | nil : ScL [] []
  | cons {n : Nat} {v : Value} {ks : List Nat} {l : List Value} (h : ScV n v) (t : ScL ks l) : ScL (n :: ks) (v :: l)
inductive KeyV : KD → Value → Prop
  | sc {n : Nat} {v : Value} (h : ScV n v) : KeyV (.sc n) v
  | ag {ks : List Nat} {a : Array Value} (h : ScL ks a.toList) : KeyV (.ag ks) (.agg a)
theorem scK_inv {n : Nat} {v : Value} {k : Bool} (hh : scK n v k = true) : ScV n v ∧ k = true := by
  rcases vInt_inv hh with ⟨kk, i, rfl, h1⟩ | h1
  · obtain ⟨h2, h3⟩ := rec_t h1
    have := beq_iff.1 h2; subst this
    exact ⟨.int kk i, h3⟩
  rcases vStr_inv h1 with ⟨s, rfl, h1⟩ | h1
  · obtain ⟨h2, h3⟩ := rec_t h1
    have := beq_iff.1 h2; subst this
    exact ⟨.str s, h3⟩
  rcases vBool_inv h1 with ⟨b, rfl, h1⟩ | h1
  · obtain ⟨h2, h3⟩ := rec_t h1
    have := beq_iff.1 h2; subst this
    exact ⟨.bool b, h3⟩
  · exact ffa h1
theorem typed_inv : ∀ {ks : List Nat} {l : List Value} {k : Bool}, typed ks l k = true → ScL ks l ∧ k = true
  | [], [], k, h => ⟨.nil, h⟩
  | [], _ :: _, k, h => ffa h
  | _ :: _, [], k, h => ffa h
  | n :: ks, v :: l, k, h => by
    obtain ⟨h1, h2⟩ := scK_inv (k := typed ks l k) h
    obtain ⟨h3, h4⟩ := typed_inv h2
    exact ⟨.cons h1 h3, h4⟩
theorem keyK_inv {d : KD} {v : Value} {k : Bool} (hh : keyK d v k = true) : KeyV d v ∧ k = true := by
  cases d with
  | sc n => obtain ⟨h1, h2⟩ := scK_inv hh; exact ⟨.sc h1, h2⟩
  | ag ks =>
    rcases vAgg_inv hh with ⟨a, rfl, h1⟩ | h1
    · obtain ⟨h2, h3⟩ := typed_inv h1; exact ⟨.ag h2, h3⟩
    · exact ffa h1
theorem ScV.plain {n : Nat} {v : Value} (h : ScV n v) : Ab.plain1 v = true := by cases h <;> rfl
theorem ScV.eq {n : Nat} {v v' : Value} (h : ScV n v) (r : VR m v v') : v' = v := by cases h <;> cases r <;> rfl
theorem ScL.eq {ks : List Nat} : ∀ {l l' : List Value}, ScL ks l → VRL m l l' → l' = l := by
  intro l l' h
  induction h generalizing l' with
  | nil => intro r; cases r; rfl
  | cons h t ih => intro r; cases r with | cons a b => rw [h.eq a, ih b]
theorem KeyV.eq {d : KD} {v v' : Value} (h : KeyV d v) (r : VR m v v') : v' = v := by
  cases h with
  | sc h => exact h.eq r
  | ag h =>
    cases r with
    | agg hl hc => rename_i a a'; exact congrArg Value.agg (Array.ext' (h.eq hl))
theorem ScV.isSc {n : Nat} {v : Value} (h : ScV n v) {k : Bool} : Ab.isSc v k = k := by cases h <;> rfl
theorem ScL.allSc {ks : List Nat} {l : List Value} (h : ScL ks l) {k : Bool} : Ab.allSc k l = k := by
  induction h with
  | nil => rfl
  | cons h t ih => exact (h.isSc (k := Ab.allSc k _)).trans ih
theorem KeyV.key {d : KD} {v : Value} (h : KeyV d v) : KeyP v := by
  cases h with
  | sc h => cases h <;> rfl
  | ag h => exact h.allSc
/-! ### equality of scalars -/
theorem ieq_eq (a b : Int) : ieq a b = (a == b) := by
  cases a with
  | ofNat a =>
    cases b with
    | ofNat b =>
      show Nat.beq a b = _
      rw [Bool.eq_iff_iff, beq_iff, beq_iff_eq]
      exact ⟨fun h => congrArg _ h, fun h => Int.ofNat.inj h⟩
    | negSucc b => rfl
  | negSucc a =>
    cases b with
    | ofNat b => rfl
    | negSucc b =>
      show Nat.beq a b = _
      rw [Bool.eq_iff_iff, beq_iff, beq_iff_eq]
      exact ⟨fun h => congrArg _ h, fun h => Int.negSucc.inj h⟩
theorem bytesEq_eq : ∀ (a b : List UInt8), bytesEq a b = (a == b)
  | [], [] => rfl
  | [], _ :: _ => rfl
  | _ :: _, [] => rfl
  | x :: a, y :: b => by
    show (Bool.rec false (bytesEq a b) (Nat.beq x.toNat y.toNat) : Bool) = (x == y && a == b)
    rw [bytesEq_eq a b]
    have : Nat.beq x.toNat y.toNat = (x == y) := by
      rw [Bool.eq_iff_iff, beq_iff, beq_iff_eq]
      exact ⟨fun h => UInt8.toNat_inj.1 h, fun h => by rw [h]⟩
    rw [this]
    cases x == y <;> rfl
theorem bytesEq_str (s t : ByteArray) : bytesEq s.data.toList t.data.toList = (s == t) := by
  rw [bytesEq_eq, beq_toListBytes, ByteArray.toList_eq, ByteArray.toList_eq]
theorem str_beq (s t : ByteArray) : (s == t) = true ↔ s = t := by
  rw [beq_toListBytes, ByteArray.toList_eq, ByteArray.toList_eq, beq_iff_eq]
  constructor
  · intro h
    obtain ⟨⟨a⟩⟩ := s; obtain ⟨⟨b⟩⟩ := t
    have : a = b := h
    rw [this]
  · intro h; rw [h]
theorem boolEq (a b : Bool) : (Bool.rec (bnot b) b a : Bool) = (a == b) := by cases a <;> cases b <;> rfl
/-- two values of one kind are held against each other -/
inductive ScD : Nat → Value → Value → Bool → Prop
  | int (k : IntKind) (a b : Int) : ScD 0 (.int k a) (.int k b) (a == b)
  | str (s t : ByteArray) : ScD 1 (.string s) (.string t) (s == t)
  | bool (a b : Bool) : ScD 2 (.bool a) (.bool b) (a == b)
theorem scEq_inv {n : Nat} {x y : Value} {k : Bool → Bool} (hx : ScV n x) (hh : scEq x y k = true) : ∃ r, ScD n x y r ∧ k r = true := by
  cases hx with
  | int kk a =>
    have hh : vInt y (fun j b => Bool.rec (ff 9) (k (ieq a b)) (Nat.beq (kN kk) (kN j))) (ff 9) = true := hh
    rcases vInt_inv hh with ⟨j, b, rfl, h1⟩ | h1
    · obtain ⟨h2, h3⟩ := rec_t h1
      have := kN_inj (beq_iff.1 h2); subst this
      exact ⟨_, .int kk a b, by rw [← ieq_eq]; exact h3⟩
    · exact ffa h1
  | str s =>
    have hh : vStr y (fun t => k (bytesEq s.data.toList t.data.toList)) (ff 9) = true := hh
    rcases vStr_inv hh with ⟨t, rfl, h1⟩ | h1
    · exact ⟨_, .str s t, by rw [← bytesEq_str]; exact h1⟩
    · exact ffa h1
  | bool a =>
    have hh : vBool y (fun b => k (Bool.rec (bnot b) b a)) (ff 9) = true := hh
    rcases vBool_inv hh with ⟨b, rfl, h1⟩ | h1
    · exact ⟨_, .bool a b, by rw [← boolEq]; exact h1⟩
    · exact ffa h1
theorem ScD.iff {n : Nat} {x y : Value} {r : Bool} (h : ScD n x y r) : r = true ↔ x = y := by
  cases h with
  | int k a b => simp
  | str s t => rw [str_beq]; simp
  | bool a b => simp
theorem ScD.now {n : Nat} {x y : Value} {r : Bool} (h : ScD n x y r) {t : TypeId} (ht : ScT P t n) {d : TypeDesc} (hd : P.underlying t = some d) : Instr.sameNow d x y = some r := by
  cases h <;> rcases ht with ⟨h0, ⟨kk, h1⟩⟩ | ⟨h0, h1⟩ | ⟨h0, h1⟩ <;> first | (exfalso; revert h0; decide) | (rw [hd] at h1; injection h1 with h1; subst h1; simp [Instr.sameNow])
theorem ScD.run {n : Nat} {x y : Value} {r : Bool} (h : ScD n x y r) {t : TypeId} (ht : ScT P t n) (d : Nat) (w : World) : (Op.equalIn (d + 1) t x y).run P w = .ok r w := by
  cases h <;> rcases ht with ⟨h0, ⟨kk, h1⟩⟩ | ⟨h0, h1⟩ | ⟨h0, h1⟩ <;> first | (exfalso; revert h0; decide) | simp [Op.equalIn, run_underlying h1]
theorem run_isAgg_sc {t : TypeId} {n : Nat} (ht : ScT P t n) (w : World) : (isAgg t).run P w = .ok false w := by
  rcases ht with ⟨h0, ⟨kk, h1⟩⟩ | ⟨h0, h1⟩ | ⟨h0, h1⟩ <;> simp [isAgg, run_underlying h1]
theorem run_part_sc {t : TypeId} {n : Nat} (ht : ScT P t n) {cs : Array Value} {o : Nat} {v : Value} (hv : cs[o]? = some v) (w : World) : (part t cs o).run P w = .ok v w := by
  simp [part, run_isAgg_sc ht, hv]
theorem run_isAgg_st {t : TypeId} {fs : Array Field} (ht : P.underlying t = some (.struct fs)) (w : World) : (isAgg t).run P w = .ok true w := by simp [isAgg, run_underlying ht]
theorem run_part_st {t : TypeId} {fs : Array Field} {i : TypeInfo} {s : Nat} (ht : P.underlying t = some (.struct fs)) (hi : P.info? t = some i) (hs : i.size = s) (cs : Array Value) (o : Nat) (w : World) : (part t cs o).run P w = .ok (.agg (cs.extract o (o + s))) w := by
  simp [part, run_isAgg_st ht, sizeOf, typeInfo, hi, hs]
theorem ScL.length : ∀ {ks : List Nat} {l : List Value}, ScL ks l → l.length = ks.length
  | _, _, .nil => rfl
  | _, _, .cons _ t => by simp [ScL.length t]
theorem ScL.split : ∀ {k1 k2 : List Nat} {l : List Value}, ScL (k1 ++ k2) l → ∃ l1 l2, l = l1 ++ l2 ∧ ScL k1 l1 ∧ ScL k2 l2
  | [], k2, l, h => ⟨[], l, rfl, .nil, h⟩
  | n :: k1, k2, _, .cons h t => by
    obtain ⟨l1, l2, rfl, h1, h2⟩ := ScL.split t
    exact ⟨_ :: l1, l2, rfl, .cons h h1, h2⟩
theorem extract_get (xs : Array Value) (o s j : Nat) (hj : j < s) : (xs.extract o (o + s))[j]? = xs[o + j]? := by
  rw [Array.getElem?_extract]
  by_cases h : o + j < xs.size
  · rw [if_pos (by omega)]
  · rw [if_neg (by omega), Array.getElem?_eq_none (by omega)]
/-- a piece of one row held against a piece of another -/
def EqP (P : Program) (Q : TypeId → List Nat → Prop) (d : Nat) : Prop := ∀ {t : TypeId} {ks : List Nat} {D : Nat} {xs ys : Array Value} {i : Nat} {a a2 b : List Value} {k : Bool → Bool}, Q t ks → d < D → ScL ks a → (∀ j, j < a.length → a[j]? = xs[i + j]?) → (∀ j, j < a.length → b[j]? = ys[i + j]?) →
  scEqL (a ++ a2) b k = true → ∃ r, ((r = true ∧ b.take a.length = a ∧ scEqL a2 (b.drop a.length) k = true) ∨ (r = false ∧ b.take a.length ≠ a ∧ k false = true)) ∧
    ∀ w : World, ∃ vx vy, (part t xs i).run P w = .ok vx w ∧ (part t ys i).run P w = .ok vy w ∧ (Op.equalIn D t vx vy).run P w = .ok r w
theorem eqP_sc {d : Nat} : EqP P (fun t ks => ∃ n, ks = [n] ∧ ScT P t n) d := by
  intro t ks D xs ys i a a2 b k hQ hD hS ha hb hh
  obtain ⟨n, rfl, hT⟩ := hQ
  cases hS with
  | cons h tl =>
    cases tl
    rename_i x
    cases b with
    | nil => exact ffa hh
    | cons y b =>
      have hh : scEq x y (fun r => Bool.rec (k false) (scEqL a2 b k) r) = true := hh
      obtain ⟨r, h1, h2⟩ := scEq_inv h hh
      have hx := ha 0 (by simp)
      have hy := hb 0 (by simp)
      simp only [List.getElem?_cons_zero, Nat.add_zero] at hx hy
      obtain ⟨D', rfl⟩ : ∃ D', D = D' + 1 := ⟨D - 1, by omega⟩
      refine ⟨r, ?_, fun w => ⟨x, y, run_part_sc hT hx.symm w, run_part_sc hT hy.symm w, h1.run hT D' w⟩⟩
      have h2 : (Bool.rec (k false) (scEqL a2 b k) r : Bool) = true := h2
      rcases rec_inv h2 with ⟨rfl, h2⟩ | ⟨rfl, h2⟩
      · refine .inr ⟨rfl, ?_, h2⟩
        have := h1.iff
        simp only [Bool.false_eq_true, false_iff] at this
        intro hc
        simp at hc
        exact this hc.symm
      · refine .inl ⟨rfl, ?_, by simpa using h2⟩
        simp [h1.iff.1 rfl]
theorem eqFs {Q : TypeId → List Nat → Prop} {d : Nat} (hQ : EqP P Q d) : ∀ {fs : List Field} {i : Nat} {ks : List Nat} {D : Nat} {xs ys : Array Value} {a a2 b : List Value} {k : Bool → Bool}, FlFs Q i fs ks → d < D → ScL ks a → (∀ j, j < a.length → a[j]? = xs[i + j]?) → (∀ j, j < a.length → b[j]? = ys[i + j]?) →
    scEqL (a ++ a2) b k = true → ∃ r, ((r = true ∧ b.take a.length = a ∧ scEqL a2 (b.drop a.length) k = true) ∨ (r = false ∧ b.take a.length ≠ a ∧ k false = true)) ∧ ∀ w : World, (Op.eqFields D xs ys fs).run P w = .ok r w
  | [], i, ks, D, xs, ys, a, a2, b, k, hf, hD, hS, ha, hb, hh => by
    have hf : ks = [] := hf
    subst hf
    cases hS
    exact ⟨true, .inl ⟨rfl, by simp, by simpa using hh⟩, fun w => by simp [Op.eqFields]⟩
  | f :: fs, i, ks, D, xs, ys, a, a2, b, k, hf, hD, hS, ha, hb, hh => by
    obtain ⟨k1, k2, rfl, f1, f2, f3, f4⟩ := hf
    obtain ⟨a1, a3, rfl, s1, s2⟩ := hS.split
    have hl1 := s1.length
    rw [List.append_assoc] at hh
    obtain ⟨r1, c1, c2⟩ := hQ (xs := xs) (ys := ys) (i := i) f3 hD s1 (fun j hj => by
      have := ha j (by simp; omega)
      rw [List.getElem?_append_left hj] at this; exact this) (fun j hj => hb j (by simp; omega)) hh
    rcases c1 with ⟨rfl, e1, e2⟩ | ⟨rfl, e1, e2⟩
    · obtain ⟨r, g1, g2⟩ := eqFs hQ (xs := xs) (ys := ys) f4 hD s2 (fun j hj => by
        have := ha (a1.length + j) (by simp; omega)
        rw [List.getElem?_append_right (by omega)] at this
        rw [Nat.add_sub_cancel_left] at this
        rw [this, ← hl1]; congr 1; omega) (fun j hj => by
        have := hb (a1.length + j) (by simp; omega)
        rw [List.getElem?_drop, this, ← hl1]; congr 1; omega) e2
      refine ⟨r, ?_, fun w => ?_⟩
      · have htk : b.take (a1 ++ a3).length = b.take a1.length ++ (b.drop a1.length).take a3.length := by
          rw [List.length_append, List.take_add]
        rcases g1 with ⟨rfl, g3, g4⟩ | ⟨rfl, g3, g4⟩
        · refine .inl ⟨rfl, by rw [htk, e1, g3], ?_⟩
          rw [List.length_append, ← List.drop_drop]; exact g4
        · refine .inr ⟨rfl, ?_, g4⟩
          rw [htk, e1]
          intro hc
          exact g3 (List.append_cancel_left hc)
      · obtain ⟨vx, vy, q1, q2, q3⟩ := c2 w
        simp [Op.eqFields, f1, f2, q1, q2, q3, g2 w]
    · refine ⟨false, .inr ⟨rfl, ?_, e2⟩, fun w => ?_⟩
      · intro hc
        apply e1
        have := congrArg (List.take a1.length) hc
        rw [List.take_take, List.length_append, Nat.min_eq_left (by omega)] at this
        rw [this]; simp
      · obtain ⟨vx, vy, q1, q2, q3⟩ := c2 w
        simp [Op.eqFields, f1, f2, q1, q2, q3]
theorem eqP_all (d : Nat) : EqP P (FlT P d) d := by
  induction d with
  | zero => intro t ks D xs ys i a a2 b k hQ; exact eqP_sc hQ
  | succ d ih =>
    intro t ks D xs ys i a a2 b k hQ hD hS ha hb hh
    rcases hQ with hQ | ⟨fs, h1, h2, ⟨info, h3, h4⟩, h5⟩
    · exact eqP_sc hQ hD hS ha hb hh
    · obtain ⟨D', rfl⟩ : ∃ D', D = D' + 1 := ⟨D - 1, by omega⟩
      have hl := hS.length
      obtain ⟨r, g1, g2⟩ := eqFs ih (D := D') (xs := xs.extract i (i + ks.length)) (ys := ys.extract i (i + ks.length)) h5 (by omega) hS (fun j hj => by
        rw [Nat.zero_add, extract_get _ _ _ _ (by omega)]; exact ha j hj) (fun j hj => by
        rw [Nat.zero_add, extract_get _ _ _ _ (by omega)]; exact hb j hj) hh
      have hfo : P.fieldsOf t = fs := by simp [Program.fieldsOf, h1]
      refine ⟨r, g1, fun w => ⟨_, _, run_part_st h1 h3 h4 xs i w, run_part_st h1 h3 h4 ys i w, ?_⟩⟩
      rw [run_equalIn_struct w D' t _ _ (by rw [hfo]; exact h1) h2, hfo]
      exact g2 w
/-- a key is held against one -/
structure Dec (P : Program) (t : TypeId) (kd : KD) (x y : Value) (r : Bool) : Prop where
  eq : r = true ↔ x = y
  run : ∀ (d : Nat) (w : World), (Op.equalIn (d + 200) t x y).run P w = .ok r w
  now : ∀ n, kd = .sc n → ∀ desc, P.underlying t = some desc → Instr.sameNow desc x y = some r
theorem eqAgg_inv {t : TypeId} {ks : List Nat} (hf : FlatOK P t ks) {a b : Array Value} (hx : ScL ks a.toList) {k : Bool → Bool} (hh : scEqL a.toList b.toList k = true) :
    ∃ r, (r = true ↔ a = b) ∧ (∀ (d : Nat) (w : World), (Op.equalIn (d + 200) t (.agg a) (.agg b)).run P w = .ok r w) ∧ k r = true := by
  obtain ⟨fs, d0, h1, hd0, h2⟩ := hf.ty
  have hfo : P.fieldsOf t = fs := by simp [Program.fieldsOf, h1]
  have hh' : scEqL (a.toList ++ []) b.toList k = true := by simpa using hh
  have key : ∀ d, ∃ r, ((r = true ∧ b.toList.take a.toList.length = a.toList ∧ scEqL [] (b.toList.drop a.toList.length) k = true) ∨ (r = false ∧ b.toList.take a.toList.length ≠ a.toList ∧ k false = true)) ∧ ∀ w : World, (Op.eqFields (d + 199) a b fs.toList).run P w = .ok r w := fun d =>
    eqFs (eqP_all d0) (D := d + 199) (xs := a) (ys := b) h2 (by omega) hx (fun j _ => by simp) (fun j _ => by simp) hh'
  have nil : scEqL [] (b.toList.drop a.toList.length) k = true → b.toList.drop a.toList.length = [] ∧ k true = true := by
    intro h
    cases hd : b.toList.drop a.toList.length with
    | nil => rw [hd] at h; exact ⟨rfl, h⟩
    | cons y l => rw [hd] at h; exact ffa h
  obtain ⟨r, h5, _⟩ := key 0
  have hr : ∀ d (w : World), (Op.equalIn (d + 200) t (.agg a) (.agg b)).run P w = .ok r w := by
    intro d w
    obtain ⟨r', g1, g2⟩ := key d
    have : r' = r := by
      rcases h5 with ⟨rfl, q1, _⟩ | ⟨rfl, q1, _⟩ <;> rcases g1 with ⟨rfl, q2, _⟩ | ⟨rfl, q2, _⟩
      · rfl
      · exact absurd q1 q2
      · exact absurd q2 q1
      · rfl
    subst this
    rw [run_equalIn_struct w (d + 199) t a b (by rw [hfo]; exact h1) hf.st, hfo]
    exact g2 w
  rcases h5 with ⟨rfl, q1, q2⟩ | ⟨rfl, q1, q2⟩
  · obtain ⟨n1, n2⟩ := nil q2
    refine ⟨true, ⟨fun _ => ?_, fun _ => rfl⟩, hr, n2⟩
    apply Array.ext'
    have := List.take_append_drop a.toList.length b.toList
    rw [q1, n1] at this
    simpa using this
  · refine ⟨false, ⟨fun h => (by cases h), fun h => ?_⟩, hr, q2⟩
    subst h
    exact absurd (List.take_length ..) q1
theorem keyEq_inv {t : TypeId} {kd : KD} (ht : KdOK P t kd) {x y : Value} (hx : KeyV kd x) {k : Bool → Bool} (hh : keyEq x y k = true) : ∃ r, Dec P t kd x y r ∧ k r = true := by
  cases hx with
  | sc h =>
    rename_i n
    have hh : scEq x y k = true := by cases h <;> exact hh
    obtain ⟨r, h1, h2⟩ := scEq_inv h hh
    refine ⟨r, ⟨h1.iff, fun d w => h1.run ht (d + 199) w, fun n' e desc hd => ?_⟩, h2⟩
    injection e with e; subst e
    exact h1.now ht hd
  | ag h =>
    rename_i ks a
    have hh : vAgg y (fun b => scEqL a.toList b k) (ff 12) = true := hh
    rcases vAgg_inv hh with ⟨b, rfl, h1⟩ | h1
    · obtain ⟨r, h2, h3, h4⟩ := eqAgg_inv ht h h1
      refine ⟨r, ⟨?_, h3, fun n e => by cases e⟩, h4⟩
      rw [h2]; exact ⟨fun h => congrArg _ h, fun h => by injection h⟩
    · exact ffa h1
end Go.Ab
end
section
namespace Go.Ab
variable {X : Cx} {m m' : M} {h h' : Hp} {w w' : World} {P : Program}
/-! ### a key is looked for -/
inductive Scan (P : Program) (t : TypeId) (kd : KD) (x : Value) : List Value → Option Nat → Prop
  | nil : Scan P t kd x [] none
  | hit {y : Value} {l : List Value} (h : Dec P t kd x y true) : Scan P t kd x (y :: l) (some 0)
  | skip {y : Value} {l : List Value} {r : Option Nat} (h : Dec P t kd x y false) (tl : Scan P t kd x l r) : Scan P t kd x (y :: l) (r.map (· + 1))
theorem Scan.none_ne {t : TypeId} {kd : KD} {x : Value} : ∀ {l : List Value} {r : Option Nat}, Scan P t kd x l r → r = none → x ∉ l
  | _, _, .nil, _ => by simp
  | _, _, .hit h, e => by cases e
  | _, _, .skip (r := r) h t, e => by
    cases r with
    | some i => cases e
    | none =>
      have h1 := t.none_ne rfl
      have h2 : x ≠ _ := fun hx => by have := h.eq.2 hx; cases this
      simp only [List.mem_cons, not_or]
      exact ⟨h2, h1⟩
theorem Scan.some_eq {t : TypeId} {kd : KD} {x : Value} : ∀ {l : List Value} {r : Option Nat} {i : Nat}, Scan P t kd x l r → r = some i → l[i]? = some x
  | _, _, _, .nil, e => by cases e
  | _, _, _, .hit h, e => by injection e with e; subst e; simp [h.eq.1 rfl]
  | _, _, i, .skip (r := r) h t, e => by
    cases r with
    | none => cases e
    | some j =>
      have e : some (j + 1) = some i := e
      injection e with e; subst e
      simpa using t.some_eq rfl
theorem Scan.of_all {t : TypeId} {kd : KD} {x : Value} : ∀ (l : List Value), (∀ y ∈ l, ∃ r, Dec P t kd x y r) → ∃ r, Scan P t kd x l r
  | [], _ => ⟨_, .nil⟩
  | y :: l, h => by
    obtain ⟨r, h1⟩ := h y (by simp)
    obtain ⟨r', h2⟩ := Scan.of_all l fun z hz => h z (by simp [hz])
    cases r with
    | true => exact ⟨_, .hit h1⟩
    | false => exact ⟨_, .skip h1 h2⟩
def hitAt (l : List MapEntry) (i : Nat) (r : Option Nat) : Option (Nat × Value) := r.bind fun j => (l[j]?).map fun e => (i + j, e.val)
theorem hitAt_skip (e : MapEntry) (l : List MapEntry) (i : Nat) (r : Option Nat) : hitAt (e :: l) i (r.map (· + 1)) = hitAt l (i + 1) r := by
  cases r with
  | none => rfl
  | some j => simp [hitAt, Nat.add_assoc, Nat.add_comm 1 j]
theorem findNow_sc {t : TypeId} {n : Nat} {x : Value} {desc : TypeDesc} (hd : P.underlying t = some desc) : ∀ (l : List MapEntry) (i : Nat) (r : Option Nat), Scan P t (.sc n) x (l.map (·.key)) r → Instr.findNow desc x l i = some (hitAt l i r)
  | [], i, _, .nil => rfl
  | e :: l, i, _, .hit h => by
    unfold Instr.findNow
    rw [h.now n rfl desc hd]
    simp [hitAt]
  | e :: l, i, _, .skip (r := r) h t => by
    unfold Instr.findNow
    rw [h.now n rfl desc hd, hitAt_skip]
    exact findNow_sc hd l (i + 1) r t
theorem findAsking_run {t : TypeId} {kd : KD} {x : Value} (w : World) : ∀ (l : List MapEntry) (i : Nat) (r : Option Nat), Scan P t kd x (l.map (·.key)) r → (Instr.findAsking t x l i).run P w = .ok (hitAt l i r) w
  | [], i, _, .nil => rfl
  | e :: l, i, _, .hit h => by
    have h1 : (Op.equal t x e.key).run P w = .ok true w := h.run 9800 w
    simp [Instr.findAsking, h1, hitAt]
  | e :: l, i, _, .skip (r := r) h t => by
    have h1 : (Op.equal _ x e.key).run P w = .ok false w := h.run 9800 w
    rw [hitAt_skip]
    simp [Instr.findAsking, h1, findAsking_run w l (i + 1) r t]
theorem sameNow_agg (d : TypeDesc) (a : Array Value) (y : Value) : Instr.sameNow d (.agg a) y = none := by
  unfold Instr.sameNow; split <;> simp_all
theorem findKey_run {t : TypeId} {kd : KD} {x : Value} (ht : KdOK P t kd) (hx : KeyV kd x) (w : World) {l : List MapEntry} {r : Option Nat} (hs : Scan P t kd x (l.map (·.key)) r) :
    (Instr.findKey t x l).run P w = .ok (hitAt l 0 r) w := by
  cases hx with
  | sc h =>
    have : ∃ desc, P.underlying t = some desc := by
      rcases ht with ⟨_, ⟨kk, h1⟩⟩ | ⟨_, h1⟩ | ⟨_, h1⟩ <;> exact ⟨_, h1⟩
    obtain ⟨desc, hd⟩ := this
    simp [Instr.findKey, run_underlying hd, findNow_sc hd l 0 r hs]
  | ag h =>
    obtain ⟨fs, d0, h1, _, h2⟩ := FlatOK.ty ht
    cases l with
    | nil =>
      cases hs
      simp [Instr.findKey, run_underlying h1, Instr.findNow, hitAt]
    | cons e l =>
      simp [Instr.findKey, run_underlying h1, Instr.findNow, sameNow_agg, findAsking_run w (e :: l) 0 r hs]
/-! ### a key is one -/
theorem checkKey_sc {t : TypeId} {n : Nat} {x : Value} (ht : ScT P t n) (hx : ScV n x) (b : Bool) (d : Nat) (w : World) : (Instr.checkKey b (d + 1) t x).run P w = .ok () w := by
  cases hx <;> rcases ht with ⟨h0, ⟨kk, h1⟩⟩ | ⟨h0, h1⟩ | ⟨h0, h1⟩ <;> first | (exfalso; revert h0; decide) | simp [Instr.checkKey, run_underlying h1]
def CkP (P : Program) (Q : TypeId → List Nat → Prop) (d : Nat) : Prop := ∀ {t : TypeId} {ks : List Nat} {D : Nat} {xs : Array Value} {i : Nat} {a : List Value} (b : Bool) (w : World), Q t ks → d < D → ScL ks a → (∀ j, j < a.length → a[j]? = xs[i + j]?) →
  ∃ v, (part t xs i).run P w = .ok v w ∧ (Instr.checkKey b D t v).run P w = .ok () w
theorem ckP_sc {d : Nat} : CkP P (fun t ks => ∃ n, ks = [n] ∧ ScT P t n) d := by
  intro t ks D xs i a b w hQ hD hS ha
  obtain ⟨n, rfl, hT⟩ := hQ
  cases hS with
  | cons h tl =>
    cases tl
    have hx := ha 0 (by simp)
    simp only [List.getElem?_cons_zero, Nat.add_zero] at hx
    obtain ⟨D', rfl⟩ : ∃ D', D = D' + 1 := ⟨D - 1, by omega⟩
    exact ⟨_, run_part_sc hT hx.symm w, checkKey_sc hT h b D' w⟩
theorem ck_struct {Q : TypeId → List Nat → Prop} {d : Nat} (hQ : CkP P Q d) {t : TypeId} {fs : Array Field} (h1 : P.underlying t = some (.struct fs)) {D : Nat} (hD : d < D) (b : Bool) (w : World) {xs : Array Value} {ks : List Nat} {a : List Value} (hf : FlFs Q 0 fs.toList ks) (hS : ScL ks a) (ha : ∀ j, j < a.length → a[j]? = xs[0 + j]?) :
    (Instr.checkKey b (D + 1) t (.agg xs)).run P w = .ok () w := by
  simp only [Instr.checkKey, Sem.run_bind, run_underlying h1, Result.andThen_ok]
  rw [← Array.forIn_toList]
  generalize fs.toList = fl at hf
  generalize 0 = i at hf ha
  clear h1
  induction fl generalizing i ks a with
  | nil => simp
  | cons f fl ih =>
    obtain ⟨k1, k2, rfl, f1, f2, f3, f4⟩ := hf
    obtain ⟨a1, a3, rfl, s1, s2⟩ := hS.split
    have hl1 := s1.length
    obtain ⟨v, e1, e2⟩ := hQ (i := i) b w f3 hD s1 (fun j hj => by
      have := ha j (by simp; omega)
      rw [List.getElem?_append_left hj] at this; exact this)
    have e3 := ih (ks := k2) (a := a3) s2 (i + k1.length) f4 (fun j hj => by
      have := ha (a1.length + j) (by simp; omega)
      rw [List.getElem?_append_right (by omega), Nat.add_sub_cancel_left] at this
      rw [this, ← hl1]; congr 1; omega)
    rw [← f2] at e1
    simp only [List.forIn_cons]
    simp only [f1, ne_eq, not_false_eq_true, if_true, Sem.run_bind, e1, Result.andThen_ok, e2, Sem.run_pure]
    simpa using e3
theorem ckP_all (d : Nat) : CkP P (FlT P d) d := by
  induction d with
  | zero => intro t ks D xs i a b w hQ; exact ckP_sc b w hQ
  | succ d ih =>
    intro t ks D xs i a b w hQ hD hS ha
    rcases hQ with hQ | ⟨fs, h1, h2, ⟨info, h3, h4⟩, h5⟩
    · exact ckP_sc b w hQ hD hS ha
    · obtain ⟨D', rfl⟩ : ∃ D', D = D' + 1 := ⟨D - 1, by omega⟩
      have hl := hS.length
      exact ⟨_, run_part_st h1 h3 h4 xs i w, ck_struct ih h1 (by omega) b w h5 hS (fun j hj => by
        rw [Nat.zero_add, extract_get _ _ _ _ (by omega)]; exact ha j hj)⟩
theorem checkKey_run {t : TypeId} {kd : KD} {x : Value} (ht : KdOK P t kd) (hx : KeyV kd x) (b : Bool) (w : World) : (Instr.checkKey b 10000 t x).run P w = .ok () w := by
  show (Instr.checkKey b ((9800 + 199) + 1) t x).run P w = .ok () w
  generalize 9800 = d
  cases hx with
  | sc h => exact checkKey_sc ht h b (d + 199) w
  | ag h =>
    obtain ⟨fs, d0, h1, h2, h3⟩ := FlatOK.ty ht
    exact ck_struct (ckP_all d0) h1 (by omega) b w h3 h (fun j _ => by simp)
/-! ### the abstract search -/
abbrev keys3 (l : List (Value × Value × Nat)) : List Value := l.map (·.1)
theorem findE_inv {t : TypeId} {kd : KD} (ht : KdOK P t kd) {x : Value} (hx : KeyV kd x) {k : Option Value → Bool} : ∀ {l : List (Value × Value × Nat)}, findE x k l = true →
    ∃ r, Scan P t kd x (keys3 l) r ∧ ((r = none ∧ k none = true) ∨ ∃ i y, r = some i ∧ l[i]? = some y ∧ k (some y.2.1) = true)
  | [], h => ⟨_, .nil, .inl ⟨rfl, h⟩⟩
  | y :: l, h => by
    have h : keyEq x y.1 (fun r => Bool.rec (findE x k l) (k (some y.2.1)) r) = true := h
    obtain ⟨r, h1, h2⟩ := keyEq_inv ht hx h
    have h2 : (Bool.rec (findE x k l) (k (some y.2.1)) r : Bool) = true := h2
    rcases rec_inv h2 with ⟨rfl, h2⟩ | ⟨rfl, h2⟩
    · obtain ⟨r, h3, h4⟩ := findE_inv ht hx h2
      refine ⟨_, .skip h1 h3, ?_⟩
      rcases h4 with ⟨rfl, h4⟩ | ⟨i, z, rfl, h4, h5⟩
      · exact .inl ⟨rfl, h4⟩
      · exact .inr ⟨i + 1, z, rfl, by simpa using h4, h5⟩
    · exact ⟨_, .hit h1, .inr ⟨0, y, rfl, by simp, h2⟩⟩
theorem setE_inv {t : TypeId} {kd : KD} (ht : KdOK P t kd) {x v : Value} (hx : KeyV kd x) {c : Nat} : ∀ {l : List (Value × Value × Nat)} {k : List (Value × Value × Nat) → Bool → Bool}, setE x v c l k = true →
    ∃ r, Scan P t kd x (keys3 l) r ∧ ((r = none ∧ k (l ++ [(x, v, c)]) true = true) ∨ ∃ i y, r = some i ∧ l[i]? = some y ∧ k (l.set i (x, v, y.2.2)) false = true)
  | [], k, h => ⟨_, .nil, .inl ⟨rfl, h⟩⟩
  | y :: l, k, h => by
    have h : keyEq x y.1 (fun r => Bool.rec (setE x v c l (fun l' b => k (y :: l') b)) (k ((x, v, y.2.2) :: l) false) r) = true := h
    obtain ⟨r, h1, h2⟩ := keyEq_inv ht hx h
    have h2 : (Bool.rec (setE x v c l (fun l' b => k (y :: l') b)) (k ((x, v, y.2.2) :: l) false) r : Bool) = true := h2
    rcases rec_inv h2 with ⟨rfl, h2⟩ | ⟨rfl, h2⟩
    · obtain ⟨r, h3, h4⟩ := setE_inv ht hx h2
      refine ⟨_, .skip h1 h3, ?_⟩
      rcases h4 with ⟨rfl, h4⟩ | ⟨i, z, rfl, h4, h5⟩
      · exact .inl ⟨rfl, h4⟩
      · exact .inr ⟨i + 1, z, rfl, by simpa using h4, h5⟩
    · exact ⟨_, .hit h1, .inr ⟨0, y, rfl, by simp, h2⟩⟩
theorem delE_inv {t : TypeId} {kd : KD} (ht : KdOK P t kd) {x : Value} (hx : KeyV kd x) : ∀ {l : List (Value × Value × Nat)} {k : List (Value × Value × Nat) → Bool}, delE x l k = true →
    ∃ r, Scan P t kd x (keys3 l) r ∧ ((r = none ∧ k l = true) ∨ ∃ i y, r = some i ∧ l[i]? = some y ∧ k (l.eraseIdx i) = true)
  | [], k, h => ⟨_, .nil, .inl ⟨rfl, h⟩⟩
  | y :: l, k, h => by
    have h : keyEq x y.1 (fun r => Bool.rec (delE x l (fun l' => k (y :: l'))) (k l) r) = true := h
    obtain ⟨r, h1, h2⟩ := keyEq_inv ht hx h
    have h2 : (Bool.rec (delE x l (fun l' => k (y :: l'))) (k l) r : Bool) = true := h2
    rcases rec_inv h2 with ⟨rfl, h2⟩ | ⟨rfl, h2⟩
    · obtain ⟨r, h3, h4⟩ := delE_inv ht hx h2
      refine ⟨_, .skip h1 h3, ?_⟩
      rcases h4 with ⟨rfl, h4⟩ | ⟨i, z, rfl, h4, h5⟩
      · exact .inl ⟨rfl, h4⟩
      · exact .inr ⟨i + 1, z, rfl, by simpa using h4, h5⟩
    · exact ⟨_, .hit h1, .inr ⟨0, y, rfl, by simp, h2⟩⟩
theorem findU_inv {t : TypeId} {kd : KD} (ht : KdOK P t kd) {x : Value} (hx : KeyV kd x) {k : Option Value → Bool} : ∀ {l : List (Value × Value)} {acc : Option Value}, findU x k l acc = true →
    (∀ y ∈ l, ∃ r, Dec P t kd x y.1 r) ∧ ∃ r, k r = true ∧ ((r = acc ∧ ∀ y ∈ l, x ≠ y.1) ∨ ∃ y ∈ l, x = y.1 ∧ r = some y.2)
  | [], acc, h => ⟨by simp, acc, h, .inl ⟨rfl, by simp⟩⟩
  | y :: l, acc, h => by
    have h : keyEq x y.1 (fun r => Bool.rec (findU x k l acc) (findU x k l (some y.2)) r) = true := h
    obtain ⟨r, h1, h2⟩ := keyEq_inv ht hx h
    have h2 : (Bool.rec (findU x k l acc) (findU x k l (some y.2)) r : Bool) = true := h2
    rcases rec_inv h2 with ⟨rfl, h2⟩ | ⟨rfl, h2⟩
    · obtain ⟨h3, r, h4, h5⟩ := findU_inv ht hx h2
      refine ⟨by intro z hz; simp only [List.mem_cons] at hz; rcases hz with rfl | hz; exact ⟨_, h1⟩; exact h3 z hz, r, h4, ?_⟩
      rcases h5 with ⟨rfl, h5⟩ | ⟨z, hz, h5, h6⟩
      · refine .inl ⟨rfl, ?_⟩
        intro z hz; simp only [List.mem_cons] at hz
        rcases hz with rfl | hz
        · intro e; have := h1.eq.2 e; cases this
        · exact h5 z hz
      · exact .inr ⟨z, by simp [hz], h5, h6⟩
    · obtain ⟨h3, r, h4, h5⟩ := findU_inv ht hx h2
      refine ⟨by intro z hz; simp only [List.mem_cons] at hz; rcases hz with rfl | hz; exact ⟨_, h1⟩; exact h3 z hz, r, h4, ?_⟩
      rcases h5 with ⟨rfl, h5⟩ | ⟨z, hz, h5, h6⟩
      · exact .inr ⟨y, by simp, h1.eq.1 rfl, rfl⟩
      · exact .inr ⟨z, by simp [hz], h5, h6⟩
/-! ### entries -/
theorem ER.keys : ∀ {l : List (Value × Value × Nat)} {l' : List MapEntry}, ER m l l' → l'.map (·.key) = keys3 l
  | _, _, .nil => rfl
  | _, _, .cons hk h t => by simp [ER.keys t]
theorem ER.length : ∀ {l : List (Value × Value × Nat)} {l' : List MapEntry}, ER m l l' → l.length = l'.length
  | _, _, .nil => rfl
  | _, _, .cons hk h t => by simp [ER.length t]
theorem UR.length : ∀ {l : List (Value × Value)} {l' : List MapEntry}, UR m l l' → l.length = l'.length
  | _, _, .nil => rfl
  | _, _, .cons hk h t => by simp [UR.length t]
theorem ER.get : ∀ {l : List (Value × Value × Nat)} {l' : List MapEntry} {i : Nat} {y : Value × Value × Nat}, ER m l l' → l[i]? = some y → ∃ v', l'[i]? = some ⟨y.1, v', y.2.2⟩ ∧ VR m y.2.1 v' ∧ KeyP y.1
  | _, _, i, y, .nil, h => by simp at h
  | _, _, 0, y, .cons (v' := v') hk h t, e => by simp at e; subst e; exact ⟨v', by simp, h, hk⟩
  | _, _, i + 1, y, .cons hk h t, e => by simp at e; simpa using ER.get t e
theorem ER.snoc : ∀ {l : List (Value × Value × Nat)} {l' : List MapEntry} {x v v' : Value} {b : Nat}, ER m l l' → KeyP x → VR m v v' → ER m (l ++ [(x, v, b)]) (l' ++ [⟨x, v', b⟩])
  | _, _, _, _, _, _, .nil, hk, hv => .cons hk hv .nil
  | _, _, _, _, _, _, .cons a c t, hk, hv => .cons a c (ER.snoc t hk hv)
theorem ER.setAt : ∀ {l : List (Value × Value × Nat)} {l' : List MapEntry} {i : Nat} {x v v' : Value} {b : Nat}, ER m l l' → KeyP x → VR m v v' → ER m (l.set i (x, v, b)) (l'.set i ⟨x, v', b⟩)
  | _, _, i, _, _, _, _, .nil, hk, hv => by simpa using .nil
  | _, _, 0, _, _, _, _, .cons a c t, hk, hv => .cons hk hv t
  | _, _, i + 1, _, _, _, _, .cons a c t, hk, hv => .cons a c (ER.setAt t hk hv)
theorem ER.erase : ∀ {l : List (Value × Value × Nat)} {l' : List MapEntry} {i : Nat}, ER m l l' → ER m (l.eraseIdx i) (l'.eraseIdx i)
  | _, _, i, .nil => by simpa using .nil
  | _, _, 0, .cons a c t => t
  | _, _, i + 1, .cons a c t => .cons a c (ER.erase t)
theorem UR.mem : ∀ {l : List (Value × Value)} {l' : List MapEntry} {e : MapEntry}, UR m l l' → e ∈ l' → ∃ y ∈ l, y.1 = e.key ∧ VR m y.2 e.val
  | _, _, e, .nil, h => by simp at h
  | _, _, e, .cons hk h t, hm => by
    simp only [List.mem_cons] at hm
    rcases hm with rfl | hm
    · exact ⟨_, List.mem_cons_self, rfl, h⟩
    · obtain ⟨y, h1, h2, h3⟩ := UR.mem t hm
      exact ⟨y, by simp [h1], h2, h3⟩
theorem UR.mem' : ∀ {l : List (Value × Value)} {l' : List MapEntry} {y : Value × Value}, UR m l l' → y ∈ l → ∃ e ∈ l', y.1 = e.key ∧ VR m y.2 e.val
  | _, _, e, .nil, h => by simp at h
  | _, _, e, .cons hk h t, hm => by
    simp only [List.mem_cons] at hm
    rcases hm with rfl | hm
    · exact ⟨_, List.mem_cons_self, rfl, h⟩
    · obtain ⟨y, h1, h2, h3⟩ := UR.mem' t hm
      exact ⟨y, by simp [h1], h2, h3⟩
theorem nodup_fst {l : List (Value × Value)} (h : (l.map (·.1)).Nodup) : ∀ {y z : Value × Value}, y ∈ l → z ∈ l → y.1 = z.1 → y = z := by
  induction l with
  | nil => intro y z hy; simp at hy
  | cons a l ih =>
    simp only [List.map_cons, List.nodup_cons] at h
    intro y z hy hz e
    simp only [List.mem_cons] at hy hz
    rcases hy with rfl | hy <;> rcases hz with rfl | hz
    · rfl
    · exact (h.1 (List.mem_map.2 ⟨z, hz, e.symm⟩)).elim
    · exact (h.1 (List.mem_map.2 ⟨y, hy, e⟩)).elim
    · exact ih h.2 hy hz e
end Go.Ab
end
section
namespace Go.Ab
variable {X : Cx} {m m' : M} {h h' : Hp} {w w' : World} {P : Program}
theorem Sim.obj (hs : Sim X m h w) {b : Nat} {p : Pl} {x : AObj} (hm : m b = some p) (ho : h.oat b = some x) : ∃ o, w.heap[p.b]? = some o ∧ ObjR X m x o :=
  let ⟨o, h1, h2⟩ := hs.rel b p hm (live_iff_oat ho)
  ⟨o, h1, (h2.2 x ho).1⟩
theorem Sim.sh0 (hs : Sim X m h w) {b : Nat} {p : Pl} {x : AObj} (hm : m b = some p) (ho : h.oat b = some x) : p.sh = 0 :=
  let ⟨o, h1, h2⟩ := hs.rel b p hm (live_iff_oat ho)
  (h2.2 x ho).2
theorem objM_inv {c : Nat} {o : AObj} {k : List (Value × Value × Nat) → Nat → Bool} {u : List (Value × Value) → Bool} (hh : objM c o k u = true) :
    (∃ es clock, o = .amap es clock ∧ k es clock = true) ∨ (∃ es, o = .amapU es ∧ u es = true) := by
  cases o with
  | amap es clock => exact .inl ⟨es, clock, rfl, hh⟩
  | amapU es => exact .inr ⟨es, rfl, hh⟩
  | _ => exact ffa hh
theorem getMap_run {r : Nat} {l : Array MapEntry} {c : Nat} (hw : w.heap[r]? = some (.map l c)) : (getObj r).run P w = .ok (.map l c) w := by simp [getObj, Sem.run, hw]
theorem setMap_run {r : Nat} {l : Array MapEntry} {c : Nat} (hw : w.heap[r]? = some (.map l c)) (o : Obj) : (setObj r o).run P w = .ok () (w.putObj r o) := by simp [setObj, Sem.run, hw, World.putObj]
theorem zeroValue_run {t : TypeId} {i : TypeInfo} {z : Value} (hi : P.info? t = some i) (hz : i.zero = some z) (w : World) : (zeroValue t).run P w = .ok z w := by simp [zeroValue, typeInfo, hi, hz]
theorem lookR_inv {z : Value} {ok : Bool} {k : K1} {r : Option Value} (hh : lookR z ok k r = true) :
    (r = none ∧ k (if ok then .tuple #[z, .bool false] else z) = true) ∨ ∃ v, r = some v ∧ k (if ok then .tuple #[v, .bool true] else v) = true := by
  rcases opt2_inv hh with ⟨rfl, h1⟩ | ⟨v, rfl, h1⟩
  · rcases rec_inv h1 with ⟨rfl, h1⟩ | ⟨rfl, h1⟩
    · exact .inl ⟨rfl, by simpa using h1⟩
    · exact .inl ⟨rfl, by simpa using h1⟩
  · rcases rec_inv h1 with ⟨rfl, h1⟩ | ⟨rfl, h1⟩
    · exact .inr ⟨v, rfl, by simpa using h1⟩
    · exact .inr ⟨v, rfl, by simpa using h1⟩
theorem VR.okPair {v v' : Value} (hv : VR m v v') (ok b : Bool) : VR m (if ok then .tuple #[v, .bool b] else v) (if ok then .tuple #[v', .bool b] else v') := by
  cases ok with
  | true => exact .tuple (.cons hv (.cons (.bool b) .nil))
  | false => exact hv
theorem lookup_inv (hs : Sim X m h w) {mt kt et : TypeId} {kd : KD} {i : TypeInfo} {z : Value} (ht : P.underlying mt = some (.map kt et)) (hk : KdOK P kt kd)
    (hi : P.info? et = some i) (hz : i.zero = some z) (hp : plainV z = true) {x x' y y' : Value} (hx : VR m x x') (hy : VR m y y') {ok : Bool} {k : K1} (hh : alookup h kd z x y ok k = true) :
    ∃ v', (Instr.lookup mt x' y' ok).run P w = .ok v' w ∧ ∃ v, VR m v v' ∧ k v = true := by
  obtain ⟨hkv, h1⟩ := keyK_inv hh
  have := hkv.eq hy; subst this
  rcases vMap_inv h1 with ⟨r, rfl, h2⟩ | h2
  case inr => exact ffa h2
  have hzr := zeroValue_run (P := P) hi hz w
  have hzv : VR m z z := VR.plainV hp
  rcases opt2_inv h2 with ⟨rfl, h3⟩ | ⟨b, rfl, h3⟩
  · cases hx
    rcases lookR_inv h3 with ⟨_, h4⟩ | ⟨v, e, _⟩
    case inr => cases e
    refine ⟨_, ?_, _, hzv.okPair ok false, h4⟩
    have hf := findKey_run (P := P) (l := []) hk hkv w .nil
    simp [Instr.lookup, run_underlying ht, checkKey_run hk hkv, hf, hitAt, hzr]
  · cases hx with
    | map hm =>
      obtain ⟨o, h4, h5⟩ := Hp.obj_inv h3
      obtain ⟨o', h6, h7⟩ := hs.obj hm h4
      rcases objM_inv h5 with ⟨es, clock, rfl, h8⟩ | ⟨es, rfl, h8⟩
      · obtain ⟨l, rfl, g1, g2⟩ := h7
        obtain ⟨r, f1, f2⟩ := findE_inv hk hkv h8
        rw [← g1.keys] at f1
        have hf := findKey_run (P := P) hk hkv w f1
        rcases f2 with ⟨rfl, f2⟩ | ⟨j, y2, rfl, f3, f4⟩
        · rcases lookR_inv f2 with ⟨_, h4⟩ | ⟨v, e, _⟩
          case inr => cases e
          refine ⟨_, ?_, _, hzv.okPair ok false, h4⟩
          simp [Instr.lookup, run_underlying ht, checkKey_run hk hkv, getMap_run h6, hf, hitAt, hzr]
        · rcases lookR_inv f4 with ⟨e, _⟩ | ⟨v, e, h4⟩
          · cases e
          injection e with e; subst e
          obtain ⟨v', e1, e2, e3⟩ := g1.get f3
          refine ⟨_, ?_, _, e2.okPair ok true, h4⟩
          simp only [hitAt, Option.bind_some, e1, Option.map_some] at hf
          simp [Instr.lookup, run_underlying ht, checkKey_run hk hkv, getMap_run h6, hf]
      · obtain ⟨l, c, l', rfl, g1, g2, g3⟩ := h7
        obtain ⟨f1, r, f2, f3⟩ := findU_inv hk hkv h8
        have hall : ∀ y2 ∈ l.toList.map (·.key), ∃ r, Dec P kt kd y' y2 r := by
          intro y2 hy2
          obtain ⟨e, e1, rfl⟩ := List.mem_map.1 hy2
          obtain ⟨z2, e2, e3, e4⟩ := g2.mem (g1.mem_iff.2 e1)
          rw [← e3]; exact f1 z2 e2
        obtain ⟨r', s1⟩ := Scan.of_all _ hall
        have hf := findKey_run (P := P) hk hkv w s1
        cases r' with
        | none =>
          have s2 := s1.none_ne rfl
          rcases f3 with ⟨rfl, f3⟩ | ⟨z2, e1, e2, e3⟩
          · rcases lookR_inv f2 with ⟨_, h4⟩ | ⟨v, e, _⟩
            case inr => cases e
            refine ⟨_, ?_, _, hzv.okPair ok false, h4⟩
            simp [Instr.lookup, run_underlying ht, checkKey_run hk hkv, getMap_run h6, hf, hitAt, hzr]
          · exfalso
            obtain ⟨e4, e5, e6, e7⟩ := g2.mem' e1
            exact s2 (List.mem_map.2 ⟨e4, g1.mem_iff.1 e5, by rw [← e6, ← e2]⟩)
        | some j =>
          have s2 := s1.some_eq rfl
          rw [List.getElem?_map, Option.map_eq_some_iff] at s2
          obtain ⟨e, e1, e2⟩ := s2
          obtain ⟨z2, e3, e4, e5⟩ := g2.mem (g1.mem_iff.2 (List.mem_of_getElem? e1))
          rcases f3 with ⟨_, f3⟩ | ⟨z3, e6, e7, rfl⟩
          · exact (f3 z2 e3 (by rw [e4, e2])).elim
          · have : z3 = z2 := nodup_fst g3 e6 e3 (by rw [← e7, e4, e2])
            subst this
            rcases lookR_inv f2 with ⟨e, _⟩ | ⟨v, e8, h4⟩
            · cases e
            injection e8 with e8; subst e8
            refine ⟨_, ?_, _, e5.okPair ok true, h4⟩
            simp only [hitAt, Option.bind_some, e1, Option.map_some] at hf
            simp [Instr.lookup, run_underlying ht, checkKey_run hk hkv, getMap_run h6, hf]
theorem sameBits_sc {n : Nat} {x : Value} (h : ScV n x) (d : Nat) : Instr.sameBits d x x = true := by
  cases h
  · simp [Instr.sameBits]
  · simp [Instr.sameBits, str_beq]
  · simp [Instr.sameBits]
theorem sameBits_key {kd : KD} {x : Value} (h : KeyV kd x) : Instr.sameBits 10000 x x = true := by
  show Instr.sameBits (9999 + 1) x x = true
  cases h with
  | sc h => exact sameBits_sc h _
  | ag h =>
    rename_i ks a
    simp only [Instr.sameBits, beq_self_eq_true, Bool.true_and]
    generalize a.toList = l at h
    induction h with
    | nil => rfl
    | cons h t ih => simp only [List.zip_cons_cons, List.all_cons, sameBits_sc h, Bool.true_and]; exact ih
theorem keyStays_run {kd : KD} {x : Value} (h : KeyV kd x) (w : World) : (Instr.keyThatStays x x).run P w = .ok x w := by
  simp [Instr.keyThatStays, sameBits_key h]
theorem keys_set {l : List (Value × Value × Nat)} {j : Nat} {y : Value × Value × Nat} {x v : Value} (hy : l[j]? = some y) (hx : (keys3 l)[j]? = some x) : keys3 (l.set j (x, v, y.2.2)) = keys3 l := by
  apply List.ext_getElem?
  intro i
  simp only [List.getElem?_map, List.getElem?_set] at hx ⊢
  by_cases h : j = i
  · subst h
    have : j < l.length := (List.getElem?_eq_some_iff.1 hy).1
    simp only [this, if_true, Option.map_some]
    exact hx.symm
  · simp [h]
theorem toList_modify {l : Array MapEntry} {j : Nat} {e : MapEntry} {f : MapEntry → MapEntry} (h : l.toList[j]? = some e) : (l.modify j f).toList = l.toList.set j (f e) := by
  apply List.ext_getElem?
  intro i
  simp only [List.getElem?_set]
  have h2 : l[j]? = some e := by simpa using h
  by_cases hi : j = i
  · subst hi
    have : j < l.size := (Array.getElem?_eq_some_iff.1 h2).1
    have h3 := (Array.getElem?_eq_some_iff.1 h2).2
    simp [Array.getElem?_modify, this, h2, Array.getElem?_toList, h3]
  · simp [Array.getElem?_modify, hi, Array.getElem?_toList]
theorem update_inv (hs : Sim X m h w) {mt kt et : TypeId} {kd : KD} (ht : P.underlying mt = some (.map kt et)) (hk : KdOK P kt kd)
    {x x' y y' v v' : Value} (hx : VR m x x') (hy : VR m y y') (hv : VR m v v') {k : Hp → Bool} (hh : aupdate h kd x y v k = true) :
    ∃ w' h', (Instr.mapUpdate mt x' y' v').run P w = .ok () w' ∧ Sim X m h' w' ∧ Tn m h w m h' w' ∧ k h' = true := by
  obtain ⟨hkv, h1⟩ := keyK_inv hh
  have := hkv.eq hy; subst this
  rcases vMap_inv h1 with ⟨r, rfl, h2⟩ | h2
  case inr => exact ffa h2
  obtain ⟨b, rfl, h3⟩ := opt_inv h2
  cases hx with
  | map hm =>
    obtain ⟨o, h4, h5⟩ := Hp.obj_inv h3
    obtain ⟨o', h6, h7⟩ := hs.obj hm h4
    rcases objM_inv h5 with ⟨es, clock, rfl, h8⟩ | ⟨es, rfl, h8⟩
    case inr => exact ffa h8
    obtain ⟨l, rfl, g1, g2⟩ := h7
    obtain ⟨r, f1, f2⟩ := setE_inv hk hkv h8
    have f1' := f1
    rw [← g1.keys] at f1
    have hf := findKey_run (P := P) hk hkv w f1
    rcases f2 with ⟨rfl, f2⟩ | ⟨j, y2, rfl, f3, f4⟩
    · obtain ⟨_, h9⟩ := Hp.setObj_inv f2
      obtain ⟨s1, s2⟩ := hs.putO (x := .amap (es ++ [(y', v, clock)]) (clock + 1)) (o := .map (l.push ⟨y', v', clock⟩) (clock + 1)) hm h4
        ⟨_, rfl, by rw [Array.toList_push]; exact g1.snoc hkv.key hv, by
          rw [List.map_append]
          exact List.nodup_append.2 ⟨g2, by simp, by
            intro a ha b hb; simp at hb; subst hb
            intro e; subst e; exact f1'.none_ne rfl ha⟩⟩
      refine ⟨_, _, ?_, s1, s2, h9⟩
      simp [Instr.mapUpdate, run_underlying ht, checkKey_run hk hkv, getMap_run h6, hf, hitAt, setMap_run h6]
    · obtain ⟨_, h9⟩ := Hp.setObj_inv f4
      obtain ⟨v2, e1, e2, e3⟩ := g1.get f3
      have hkey := f1'.some_eq rfl
      have hyk : y2.1 = y' := by
        rw [List.getElem?_map, f3] at hkey; injection hkey
      have hmod := toList_modify (l := l) (j := j) (f := fun e => { e with key := y', val := v' }) e1
      obtain ⟨s1, s2⟩ := hs.putO (x := .amap (es.set j (y', v, y2.2.2)) clock) (o := .map (l.modify j fun e => { e with key := y', val := v' }) clock) hm h4
        ⟨_, rfl, by rw [hmod]; exact g1.setAt hkv.key hv, by
          show (keys3 _).Nodup
          rw [keys_set f3 hkey]; exact g2⟩
      refine ⟨_, _, ?_, s1, s2, h9⟩
      have e4 : l[j]? = some ⟨y2.1, v2, y2.2.2⟩ := by simpa using e1
      simp only [hitAt, Option.bind_some, e1, Option.map_some, Nat.zero_add] at hf
      simp [Instr.mapUpdate, run_underlying ht, checkKey_run hk hkv, getMap_run h6, hf, setMap_run h6, e4, hyk, keyStays_run hkv]
theorem map_eraseIdx {α β : Type} (f : α → β) : ∀ (l : List α) (j : Nat), (l.eraseIdx j).map f = (l.map f).eraseIdx j
  | [], _ => by simp
  | _ :: _, 0 => by simp
  | a :: l, j + 1 => by simp [map_eraseIdx f l j]
theorem delete_inv (hs : Sim X m h w) {mt kt et : TypeId} {kd : KD} (ht : P.underlying mt = some (.map kt et)) (hk : KdOK P kt kd)
    {x x' y y' : Value} (hx : VR m x x') (hy : VR m y y') {k : Hp → Bool} (ts : List TypeId) (ty : TypeId) (hh : adelete h kd x y k = true) :
    ∃ w' h', (Builtin.delete_ ⟨mt :: ts⟩ ty #[x', y']).run P w = .ok (.tuple #[]) w' ∧ Sim X m h' w' ∧ Tn m h w m h' w' ∧ k h' = true := by
  obtain ⟨hkv, h1⟩ := keyK_inv hh
  have := hkv.eq hy; subst this
  have hdef : Builtin.delete_ ⟨mt :: ts⟩ ty #[x', y'] = (do
    let .map keyType _ ← underlying mt | stuck "delete: map type expected"
    match x' with
    | .map none => Instr.checkKey true 10000 keyType y'
    | .map (some r) =>
      let .map es clock ← getObj r | stuck "delete: map expected"
      Instr.checkKey es.isEmpty 10000 keyType y'
      match ← Instr.findKey keyType y' es.toList with
      | some (i, _) => setObj r (.map (es.eraseIdxIfInBounds i) clock)
      | none => setObj r (.map es clock)
    | _ => stuck "delete: map expected"
    pure (.tuple #[])) := rfl
  rw [hdef]
  rcases vMap_inv h1 with ⟨r, rfl, h2⟩ | h2
  case inr => exact ffa h2
  rcases opt2_inv h2 with ⟨rfl, h3⟩ | ⟨b, rfl, h3⟩
  · cases hx
    exact ⟨w, h, by simp [run_underlying ht, checkKey_run hk hkv], hs, Tn.refl _ _ _, h3⟩
  cases hx with
  | map hm =>
    obtain ⟨o, h4, h5⟩ := Hp.obj_inv h3
    obtain ⟨o', h6, h7⟩ := hs.obj hm h4
    rcases objM_inv h5 with ⟨es, clock, rfl, h8⟩ | ⟨es, rfl, h8⟩
    case inr => exact ffa h8
    obtain ⟨l, rfl, g1, g2⟩ := h7
    obtain ⟨r, f1, f2⟩ := delE_inv hk hkv h8
    have f1' := f1
    rw [← g1.keys] at f1
    have hf := findKey_run (P := P) hk hkv w f1
    rcases f2 with ⟨rfl, f2⟩ | ⟨j, y2, rfl, f3, f4⟩
    · obtain ⟨_, h9⟩ := Hp.setObj_inv f2
      obtain ⟨s1, s2⟩ := hs.putO (x := .amap es clock) (o := .map l clock) hm h4 ⟨_, rfl, g1, g2⟩
      refine ⟨_, _, ?_, s1, s2, h9⟩
      simp [run_underlying ht, checkKey_run hk hkv, getMap_run h6, hf, hitAt, setMap_run h6]
    · obtain ⟨_, h9⟩ := Hp.setObj_inv f4
      obtain ⟨v2, e1, e2, e3⟩ := g1.get f3
      obtain ⟨s1, s2⟩ := hs.putO (x := .amap (es.eraseIdx j) clock) (o := .map (l.eraseIdxIfInBounds j) clock) hm h4
        ⟨_, rfl, by
          have : (l.eraseIdxIfInBounds j).toList = l.toList.eraseIdx j := by simp
          rw [this]; exact g1.erase, by
          show (keys3 _).Nodup
          have : keys3 (es.eraseIdx j) = (keys3 es).eraseIdx j := map_eraseIdx _ _ _
          rw [this]; exact g2.sublist (List.eraseIdx_sublist _ _)⟩
      refine ⟨_, _, ?_, s1, s2, h9⟩
      simp only [hitAt, Option.bind_some, e1, Option.map_some, Nat.zero_add] at hf
      simp [run_underlying ht, checkKey_run hk hkv, getMap_run h6, hf, setMap_run h6]
end Go.Ab
end
section
namespace Go.Ab
variable {X : Cx} {m m' : M} {h h' : Hp} {w w' : World} {P : Program}
theorem isSc_plain {v : Value} {k : Bool} (hh : isSc v k = true) : plain1 v = true ∧ k = true := by
  rcases vInt_inv hh with ⟨kk, i, rfl, h1⟩ | h1
  · exact ⟨rfl, h1⟩
  rcases vStr_inv h1 with ⟨s, rfl, h1⟩ | h1
  · exact ⟨rfl, h1⟩
  rcases vBool_inv h1 with ⟨b, rfl, h1⟩ | h1
  · exact ⟨rfl, h1⟩
  · exact ffa h1
theorem allSc_plain : ∀ {l : List Value} {k : Bool}, allSc k l = true → l.all plain1 = true
  | [], k, h => rfl
  | v :: l, k, h => by
    have h : isSc v (allSc k l) = true := h
    obtain ⟨h1, h2⟩ := isSc_plain h
    simp [h1, allSc_plain h2]
theorem KeyP.vr {x : Value} (h : KeyP x) : VR m x x := by
  rcases vAgg_inv h with ⟨a, rfl, h1⟩ | h1
  · exact VR.plainV (v := .agg a) (allSc_plain h1)
  · exact (VR.plain1 (isSc_plain h1).1).1
theorem newOb_done (hs : Sim X m h w) {x : AObj} {o : Obj} (hc : ObjR X m x o) {k : KV} {f : Nat → Value} {v' : Value}
    (hv : ∀ p : Pl, p.b = w.heap.size → p.sh = 0 → ∀ m' : M, m' (ob + h.no) = some p → VR m' (f (ob + h.no)) v')
    (hh : h.newO x (fun n h' => k (f n) h') = true) : Done X m h w k v' (w.alloc o) := by
  obtain ⟨h1, h2⟩ := Hp.newO_inv hh
  obtain ⟨s1, s2⟩ := hs.newOb h1 (p := ⟨w.heap.size, 0, 0, 0⟩) rfl rfl hc
  exact ⟨_, _, _, hv _ rfl rfl _ (M.put_same _ _ _), s1, s2, h2⟩
theorem makeMap_inv (hs : Sim X m h w) {t : TypeId} {k : KV} (hh : h.newO (.amap [] 0) (fun n h' => k (.map (some n)) h') = true) :
    ∃ v' w', (Instr.makeMap t none).run P w = .ok v' w' ∧ Done X m h w k v' w' := by
  have hr : (Instr.makeMap t none).run P w = .ok (.map (some w.heap.size)) (w.alloc (.map #[] 0)) := by simp [Instr.makeMap]
  refine ⟨_, _, hr, newOb_done hs (x := .amap [] 0) (o := .map #[] 0) (f := fun n => .map (some n)) ⟨#[], rfl, .nil, by simp⟩ (fun p hp _ m' hm => by
    have := VR.map hm
    rw [hp] at this; exact this) hh⟩
theorem newIt_inv (hs : Sim X m h w) {x : AObj} {o : Obj} (hc : ObjR X m x o) {k : KV} (hh : newIt h x k = true) : Done X m h w k (.pointer (some ⟨w.heap.size, 0, none⟩)) (w.alloc o) :=
  newOb_done hs hc (f := fun n => .pointer (some ⟨n, 0, none⟩)) (fun p hp hz m' hm => .ptr ⟨rfl, p, hm, by simp [hp, hz]⟩) hh
theorem ranS_inv (hs : Sim X m h w) {t : TypeId} (ht : P.underlying t = some .string) {x x' : Value} (hx : VR m x x') {k : KV}
    (hh : vStr x (fun s => newIt h (.iterS s.data.toList 0) k) (ff 92) = true) : ∃ v' w', (Instr.range t x').run P w = .ok v' w' ∧ Done X m h w k v' w' := by
  rcases vStr_inv hh with ⟨s, rfl, h1⟩ | h1
  case inr => exact ffa h1
  cases hx
  have hr : (Instr.range t (.string s)).run P w = .ok (.pointer (some ⟨w.heap.size, 0, none⟩)) (w.alloc (.stringIter s 0)) := by simp [Instr.range, run_underlying ht]
  exact ⟨_, _, hr, newIt_inv hs (x := .iterS s.data.toList 0) (o := .stringIter s 0) rfl h1⟩
theorem ranM_inv (hs : Sim X m h w) {t kt et : TypeId} (ht : P.underlying t = some (.map kt et)) {x x' : Value} (hx : VR m x x') {k : KV}
    (hh : vMap x (fun r => Option.rec (newIt h (.iterM none 0 [] 0) k) (fun m => h.obj m (fun o => objM 93 o (fun _ clock => newIt h (.iterM (some m) clock [] clock) k) (fun _ => ff 94))) r) (ff 95) = true) :
    ∃ v' w', (Instr.range t x').run P w = .ok v' w' ∧ Done X m h w k v' w' := by
  rcases vMap_inv hh with ⟨r, rfl, h1⟩ | h1
  case inr => exact ffa h1
  rcases opt2_inv h1 with ⟨rfl, h2⟩ | ⟨b, rfl, h2⟩
  · cases hx
    have hr : (Instr.range t (.map none)).run P w = .ok (.pointer (some ⟨w.heap.size, 0, none⟩)) (w.alloc (.mapIter none 0 #[] 0)) := by simp [Instr.range, run_underlying ht]
    exact ⟨_, _, hr, newIt_inv hs (x := .iterM none 0 [] 0) (o := .mapIter none 0 #[] 0) rfl h2⟩
  · cases hx with
    | map hm =>
      obtain ⟨o, h4, h5⟩ := Hp.obj_inv h2
      obtain ⟨o', h6, h7⟩ := hs.obj hm h4
      rcases objM_inv h5 with ⟨es, clock, rfl, h8⟩ | ⟨es, rfl, h8⟩
      case inr => exact ffa h8
      obtain ⟨l, rfl, g1, g2⟩ := h7
      rename_i p
      have hr : (Instr.range t (.map (some p.b))).run P w = .ok (.pointer (some ⟨w.heap.size, 0, none⟩)) (w.alloc (.mapIter (some p.b) clock #[] clock)) := by simp [Instr.range, run_underlying ht, getMap_run h6]
      exact ⟨_, _, hr, newIt_inv hs (x := .iterM (some b) clock [] clock) (o := .mapIter (some p.b) clock #[] clock) ⟨_, hm, rfl⟩ h8⟩
theorem getIter_run {r : Nat} {o : Obj} (hw : w.heap[r]? = some o) (ho : (∃ s p, o = .stringIter s p) ∨ ∃ a b c d, o = .mapIter a b c d) : (getObj r).run P w = .ok o w := by
  rcases ho with ⟨s, p, rfl⟩ | ⟨a, b, c, d, rfl⟩ <;> simp [getObj, Sem.run, hw]
theorem setIter_run {r : Nat} {o : Obj} (hw : w.heap[r]? = some o) (ho : (∃ s p, o = .stringIter s p) ∨ ∃ a b c d, o = .mapIter a b c d) (o2 : Obj) : (setObj r o2).run P w = .ok () (w.putObj r o2) := by
  rcases ho with ⟨s, p, rfl⟩ | ⟨a, b, c, d, rfl⟩ <;> simp [setObj, Sem.run, hw, World.putObj]
theorem VR.over : VR m over over := .tuple (.cons (.bool false) .nil)
theorem array_of_one {l : Array MapEntry} {e : MapEntry} (h : l.toList = [e]) : l = #[e] := Array.ext' h
theorem next_inv (hs : Sim X m h w) {ty : TypeId} {x x' : Value} (hx : VR m x x') {isS : Bool} {k : KV} (hh : anext h x isS k = true) :
    ∃ v' w', (Instr.next x' isS ty).run P w = .ok v' w' ∧ Done X m h w k v' w' := by
  obtain ⟨a, rfl, h1⟩ := vPtr_inv hh
  cases hx with
  | ptr ha =>
    obtain ⟨_, p, hm, rfl⟩ := ha
    obtain ⟨_, h1⟩ := spot0_inv h1
    obtain ⟨h2, h3⟩ := rec_t h1
    have h2 := beq_iff.1 h2
    obtain ⟨o, h4, h5⟩ := Hp.obj_inv h3
    obtain ⟨o', h6, h7⟩ := hs.obj hm h4
    have hz := hs.sh0 hm h4
    simp only [hz, h2, Nat.zero_add]
    cases o with
    | iterS s pos =>
      have h7 : o' = .stringIter ⟨⟨s⟩⟩ pos := h7
      subst h7
      have hi : (∃ s' p', (Obj.stringIter ⟨⟨s⟩⟩ pos) = .stringIter s' p') ∨ ∃ a b c d, (Obj.stringIter ⟨⟨s⟩⟩ pos) = .mapIter a b c d := .inl ⟨_, _, rfl⟩
      obtain ⟨rfl, h8⟩ := rec_t h5
      have hsz : (⟨⟨s⟩⟩ : ByteArray).size = s.length := rfl
      rcases rec_inv h8 with ⟨h9, h10⟩ | ⟨h9, h10⟩
      · have h9 : s.length < pos + 1 := ble_f.1 h9
        exact ⟨.tuple #[.bool false], w, by simp [Instr.next, getIter_run h6 hi, hsz, show ¬ pos < s.length by omega]
              , Done.of hs VR.over h10⟩
      · have h9 : pos + 1 ≤ s.length := ble_iff.1 h9
        obtain ⟨_, h11⟩ := Hp.setObj_inv h10
        obtain ⟨s1, s2⟩ := hs.putO (x := .iterS s (pos + (Utf8.decode ⟨⟨s⟩⟩ pos).2)) (o := .stringIter ⟨⟨s⟩⟩ (pos + (Utf8.decode ⟨⟨s⟩⟩ pos).2)) hm h4 rfl
        refine ⟨.tuple #[.bool true, goInt pos, .int .i32 (Int.ofNat (Utf8.decode ⟨⟨s⟩⟩ pos).1)], w.putObj p.b (.stringIter ⟨⟨s⟩⟩ (pos + (Utf8.decode ⟨⟨s⟩⟩ pos).2)), by simp [Instr.next, getIter_run h6 hi, hsz, show pos < s.length by omega, setIter_run h6 hi], ⟨_, _, _, ?_, s1, s2, h11⟩⟩
        exact .tuple (.cons (.bool true) (.cons (.int _ _) (.cons (.int _ _) .nil)))
    | iterM r since seen st =>
      cases isS with
      | true => exact ffa h5
      | false =>
        have h5 : (Option.rec (k over h) (fun m => nextM h a.block m since seen st k) r : Bool) = true := h5
        rcases opt2_inv h5 with ⟨rfl, h8⟩ | ⟨r, rfl, h8⟩
        · have h7 : o' = .mapIter none since seen.toArray st := h7
          subst h7
          exact ⟨.tuple #[.bool false], w, by simp [Instr.next, getIter_run h6 (.inr ⟨_, _, _, _, rfl⟩)]
              , Done.of hs VR.over h8⟩
        · obtain ⟨q, hq, rfl⟩ := h7
          have hi : (∃ s' p', (Obj.mapIter (some q.b) since seen.toArray st) = .stringIter s' p') ∨ ∃ a b c d, (Obj.mapIter (some q.b) since seen.toArray st) = .mapIter a b c d := .inr ⟨_, _, _, _, rfl⟩
          obtain ⟨o2, g1, g2⟩ := Hp.obj_inv h8
          obtain ⟨o2', g3, g4⟩ := hs.obj hq g1
          rcases objM_inv g2 with ⟨es, clock, rfl, g5⟩ | ⟨es, rfl, g5⟩
          case inr => exact ffa g5
          obtain ⟨l, rfl, e1, e2⟩ := g4
          match es, e1 with
          | [], e1 =>
            have hl : l = #[] := by
              have : l.toList = [] := by have := e1.length; exact List.eq_nil_of_length_eq_zero this.symm
              exact Array.ext' this
            subst hl
            exact ⟨.tuple #[.bool false], w, by simp [Instr.next, getIter_run h6 hi, getMap_run g3, choose, Question.forced, Sem.run]
              , Done.of hs VR.over g5⟩
          | [(kx, v, b)], e1 =>
            have hl : ∃ v', l = #[⟨kx, v', b⟩] ∧ VR m v v' ∧ KeyP kx := by
              generalize hll : l.toList = ll at e1
              cases e1 with
              | cons hk hv t =>
                cases t
                exact ⟨_, array_of_one hll, hv, hk⟩
            obtain ⟨v', rfl, hv, hk⟩ := hl
            match seen with
            | [] =>
              obtain ⟨h9, h10⟩ := rec_t g5
              obtain ⟨h9, h11⟩ := rec_t h9
              have h9 : b + 1 ≤ since := ble_iff.1 h9
              obtain ⟨_, h12⟩ := Hp.setObj_inv h10
              obtain ⟨s1, s2⟩ := hs.putO (x := .iterM (some r) since [b] clock) (o := .mapIter (some q.b) since #[b] clock) hm h4 ⟨q, hq, rfl⟩
              refine ⟨.tuple #[.bool true, kx, v'], w.putObj p.b (.mapIter (some q.b) since #[b] clock), by simp [Instr.next, getIter_run h6 hi, getMap_run g3, choose, Question.forced, Sem.run, show b < since by omega, show ¬ since ≤ b by omega, setIter_run h6 hi], ⟨_, _, _, ?_, s1, s2, h12⟩⟩
              exact .tuple (.cons (.bool true) (.cons hk.vr (.cons hv .nil)))
            | [b'] =>
              obtain ⟨h9, h10⟩ := rec_t g5
              obtain ⟨h9, h11⟩ := rec_t h9
              have h9 := beq_iff.1 h9
              subst h9
              have h11 : b + 1 ≤ st := ble_iff.1 h11
              exact ⟨.tuple #[.bool false], w, by simp [Instr.next, getIter_run h6 hi, getMap_run g3, choose, Question.forced, Sem.run, show ¬ st ≤ b by omega]
              , Done.of hs VR.over h10⟩
            | _ :: _ :: _ => exact ffa g5
          | _ :: _ :: _, e1 => exact ffa g5
    | _ => exact ffa h5
theorem entry_inv (hs : Sim X m h w) {x x' : Value} (hx : VR m x x') {k : K1} (hh : aentry h x k = true) :
    ∃ v', (Instr.entry x').run P w = .ok v' w ∧ ∃ v, VR m v v' ∧ k v = true := by
  obtain ⟨a, rfl, h1⟩ := vPtr_inv hh
  cases hx with
  | ptr ha =>
    obtain ⟨_, p, hm, rfl⟩ := ha
    obtain ⟨_, h1⟩ := spot0_inv h1
    obtain ⟨h2, h3⟩ := rec_t h1
    have h2 := beq_iff.1 h2
    obtain ⟨o, h4, h5⟩ := Hp.obj_inv h3
    obtain ⟨o', h6, h7⟩ := hs.obj hm h4
    have hz := hs.sh0 hm h4
    simp only [hz, h2, Nat.zero_add]
    cases o with
    | iterM r since seen st =>
      match r, seen with
      | some r, [b'] =>
        obtain ⟨q, hq, rfl⟩ := h7
        have hi : (∃ s' p', (Obj.mapIter (some q.b) since [b'].toArray st) = .stringIter s' p') ∨ ∃ a b c d, (Obj.mapIter (some q.b) since [b'].toArray st) = .mapIter a b c d := .inr ⟨_, _, _, _, rfl⟩
        obtain ⟨o2, g1, g2⟩ := Hp.obj_inv h5
        obtain ⟨o2', g3, g4⟩ := hs.obj hq g1
        rcases objM_inv g2 with ⟨es, clock, rfl, g5⟩ | ⟨es, rfl, g5⟩
        case inr => exact ffa g5
        obtain ⟨l, rfl, e1, e2⟩ := g4
        match es, e1 with
        | [], e1 => exact ffa g5
        | [(kx, v, b)], e1 =>
          have hl : ∃ v', l = #[⟨kx, v', b⟩] ∧ VR m v v' ∧ KeyP kx := by
            generalize hll : l.toList = ll at e1
            cases e1 with
            | cons hk hv t =>
              cases t
              exact ⟨_, array_of_one hll, hv, hk⟩
          obtain ⟨v', rfl, hv, hk⟩ := hl
          obtain ⟨h9, h10⟩ := rec_t g5
          obtain ⟨h9, h11⟩ := rec_t h9
          have h9 := beq_iff.1 h9
          have h11 := beq_iff.1 h11
          subst h9
          subst h11
          exact ⟨.tuple #[kx, v'], by simp [Instr.entry, getIter_run h6 hi, getMap_run g3], _, .tuple (.cons hk.vr (.cons hv .nil)), h10⟩
        | _ :: _ :: _, e1 => exact ffa g5
      | none, _ => exact ffa h5
      | some r, [] => exact ffa h5
      | some r, _ :: _ :: _ => exact ffa h5
    | _ => exact ffa h5
theorem lenM_inv (hs : Sim X m h w) {t kt et ty : TypeId} (ht : P.underlying t = some (.map kt et)) {x x' : Value} (hx : VR m x x') {k : KV} (ts : List TypeId)
    (hh : vMap x (fun r => Option.rec (k (goInt 0) h) (fun m => h.obj m (fun o => objM 160 o (fun es _ => k (goInt es.length) h) (fun es => k (goInt es.length) h))) r) (ff 160) = true) :
    ∃ v', (Builtin.len_ ⟨t :: ts⟩ ty #[x']).run P w = .ok v' w ∧ ∃ v, VR m v v' ∧ k v h = true := by
  have hdef : Builtin.len_ ⟨t :: ts⟩ ty #[x'] = (do
    match ← underlying t, x' with
    | .string, .string s => pure (goInt s.size)
    | .array n _, _ => pure (goInt n)
    | .pointer arr, _ =>
      let .array n _ ← underlying arr | stuck "len: pointer to array expected"
      pure (goInt n)
    | .slice _, .slice _ n _ => pure (goInt n)
    | .map _ _, .map none | .chan _ _, .chan none => pure (goInt 0)
    | .map _ _, .map (some r) =>
      let .map entries _ ← getObj r | stuck "len: map expected"
      pure (goInt entries.size)
    | .chan _ _, .chan (some r) =>
      let .chan _ buf _ _ _ timer ← getObj r | stuck "len: channel expected"
      pure (goInt (if timer then 0 else buf.size))
    | _, _ => stuck "len: string, array, pointer to array, slice, map or channel expected") := rfl
  rw [hdef]
  rcases vMap_inv hh with ⟨r, rfl, h1⟩ | h1
  case inr => exact ffa h1
  rcases opt2_inv h1 with ⟨rfl, h2⟩ | ⟨b, rfl, h2⟩
  · cases hx
    exact ⟨goInt 0, by simp [run_underlying ht], _, .int _ _, h2⟩
  · cases hx with
    | map hm =>
      obtain ⟨o, h4, h5⟩ := Hp.obj_inv h2
      obtain ⟨o', h6, h7⟩ := hs.obj hm h4
      rcases objM_inv h5 with ⟨es, clock, rfl, h8⟩ | ⟨es, rfl, h8⟩
      · obtain ⟨l, rfl, g1, g2⟩ := h7
        have := g1.length
        refine ⟨goInt l.size, by simp [run_underlying ht, getMap_run h6], _, ?_, h8⟩
        rw [this]
        exact .int _ _
      · obtain ⟨l, c, l', rfl, g1, g2, g3⟩ := h7
        have := g2.length.trans g1.length_eq
        refine ⟨goInt l.size, by simp [run_underlying ht, getMap_run h6], _, ?_, h8⟩
        rw [this]
        exact .int _ _
end Go.Ab
end

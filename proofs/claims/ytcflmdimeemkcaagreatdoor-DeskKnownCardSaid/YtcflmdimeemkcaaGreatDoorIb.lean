/-
  A part of the proof of the card of DeskKnown (the whole is said in the last text). No condition of its own beyond those that its theorems state.
-/
import Derived.Test.YtcflmdimeemkcaaGreatDoorIa
import Derived.Test.YtcflmdimeemkcaaGreatDoorSa
import Derived.Test.YtcflmdimeemkcaaGreatDoorSb
set_option autoImplicit true
set_option relaxedAutoImplicit true
set_option linter.unusedVariables false
set_option linter.unusedSimpArgs false
set_option linter.unusedSectionVars false
section
namespace Go.Ab
open Go.Proofs
variable {w0 : World} {st : Nat → Prop}
theorem store1_set {P : Program} {w w' : World} {a : Addr} {kd : IntKind} {n : Int} {old : Value} (hc : w.cell? a = some old) (hr : (storeCells a [.int kd n]).run P w = .ok () w') : w.frozen? a = false ∧ w' = w.setCell a (.int kd n) := by
    cases hf : w.frozen? a with
    | true => simp [storeCells, run_store_int, stored, hc, Sem.run_bind, Addr.add_zero', hf] at hr
    | false =>
      simp [storeCells, run_store_int, stored, hc, Sem.run_bind, Addr.add_zero', hf] at hr
      exact ⟨rfl, hr.symm⟩
theorem enters {g : Nat} {fn : Func} (hf : Tryz.prog.funcs[g]? = some fn) (hn : (fn.name == "runtime.NumGoroutine") = false) (hb : fn.body.isNone = false) (args : Array Value) (w : World) : (callFunc g args).run Tryz.prog w = .ok (.enter g args) w := by
  have hn2 : fn.name ≠ "runtime.NumGoroutine" := by simpa using hn
  have hb2 : fn.body ≠ none := fun e => by rw [e] at hb; cases hb
  simp [callFunc, run_program, hf, hn2, hb2]
theorem enters602 (args : Array Value) (w : World) : (callFunc 602 args).run Tryz.prog w = .ok (.enter 602 args) w := enters Tryz.func602 (by kernel_rfl) (by kernel_rfl) args w
theorem enters545 (args : Array Value) (w : World) : (callFunc 545 args).run Tryz.prog w = .ok (.enter 545 args) w := enters Tryz.func545 (by kernel_rfl) (by kernel_rfl) args w
theorem enters131 (args : Array Value) (w : World) : (callFunc 131 args).run Tryz.prog w = .ok (.enter 131 args) w := enters Tryz.func131 (by kernel_rfl) (by kernel_rfl) args w
abbrev Hnd (w0 : World) : Prop := w0.cell? ⟨0, 0, none⟩ = some (.iface 149 (.agg #[.pointer (some ⟨11, 32, none⟩)]))
/-- what sync.Once does behind the call -/
noncomputable def slowK (a : Addr) (k : KV) : KV := fun _ h2 =>
        load1 h2 (addrAdd a 1) (fun s2 => vInt s2 (fun ks2 j2 => Bool.rec (ff 343)
          (load1 h2 a (fun _ => storeC h2 a 1 [.int .u32 (.ofNat 1)] (fun h3 => storeC h3 (addrAdd a 1) 1 [.int .i32 (.ofNat 0)] (fun h4 => k (.tuple #[]) h4)))) (Bool.rec false (isNat 1 j2) (isI32 ks2))) (ff 344))
theorem slow_end {m : M} {h : Hp} {w : World} {a : Addr} {b off : Nat} (ha : AR m a ⟨b, off, none⟩) {k : KV} {w2 : World} {v' : Value} (hd : Done (X0 w0 st) m h w (slowK a k) v' w2) :
    ((∃ x, w2.cell? ⟨b, off, none⟩ = some x) ∧ w2.cell? ⟨b, off + 1, none⟩ = some (.int .i32 1) ∧ w2.frozen? ⟨b, off, none⟩ = false ∧ w2.frozen? ⟨b, off + 1, none⟩ = false) ∧
    Done (X0 w0 st) m h w k (.tuple #[]) ((w2.drew.setCell ⟨b, off, none⟩ (.int .u32 1)).setCell ⟨b, off + 1, none⟩ (.int .i32 0)) := by
  obtain ⟨m2, h2, u, d1, s2, t2, hh⟩ := hd
  have ha2 := ha.mono t2.sub
  have ha3 := (ha2.add 1).1
  rw [add_none] at ha3
  obtain ⟨v, v', q1, q2, q3, q4⟩ := load1_inv s2 ha3 hh
  rcases vInt_inv q4 with ⟨kd, n, rfl, q5⟩ | q5
  case inr => exact ffa q5
  obtain ⟨q6, q7⟩ := rec_t q5
  obtain ⟨q8, q9⟩ := and_inv q6
  have q8 := isI32_inv q8
  have q9 := isNat_inv q9
  subst q8; subst q9
  cases q1
  obtain ⟨z, z', z1, z2, z3, q7⟩ := load1_inv s2 ha2 q7
  obtain ⟨h3, w3, s3, t3, hh3, r3⟩ := storeC_inv s2 ha2 (n := 1) (vs := [.int .u32 (.ofNat 1)]) (vs' := [.int .u32 (.ofNat 1)]) (.cons (.int _ _) .nil) (by intro v hv; simp at hv; subst hv; rfl) rfl q7
  obtain ⟨e2, rfl⟩ := store1_set z3 (r3 Tryz.prog)
  obtain ⟨h4, w4, s4, t4, hh4, r4⟩ := storeC_inv s3 ha3 (n := 1) (vs := [.int .i32 (.ofNat 0)]) (vs' := [.int .i32 (.ofNat 0)]) (.cons (.int _ _) .nil) (by intro v hv; simp at hv; subst hv; rfl) rfl hh3
  have q3' := (World.cell?_setCell_other w2 ⟨b, off, none⟩ ⟨b, off + 1, none⟩ (.int .u32 (.ofNat 1)) (by simp)).trans q3
  obtain ⟨e5, rfl⟩ := store1_set q3' (r4 Tryz.prog)
  refine ⟨⟨⟨_, z3⟩, q3, e2, by simpa using e5⟩, ?_⟩
  obtain ⟨d5, d6⟩ := drew_sim s4
  exact ⟨m2, h4, _, .tuple .nil, d5, ((t2.trans t3).trans t4).trans d6, hh4⟩
theorem slow_ok (h0 : st 0) (hg : Hnd w0) : XOk (X0 w0 st) 602 (xSlow (fCall T1 60) 545) := by
  constructor
  intro m h w args args' k hs hv hgm hh
  unfold xSlow at hh
  split at hh
  case h_2 => exact ffa hh
  rename_i a f c
  cases hv with
  | cons p1 p2 =>
  cases p2 with
  | cons p2 p3 =>
  cases p3
  cases p1 with
  | ptr ha =>
  rename_i a'
  cases p2 with
  | func q1 q2 =>
  rename_i fa fb
  have hfa : fa = #[] := by
    generalize hl : fa.toList = l at q1
    cases q1
    exact Array.ext' hl
  obtain ⟨c', hfb, hc⟩ : ∃ c', fb = #[c'] ∧ VR m c c' := by
    generalize hl : fb.toList = l at q2
    cases q2 with
    | cons r1 r2 => cases r2; exact ⟨_, Array.ext' hl, r1⟩
  subst hfa; subst hfb
  obtain ⟨hfg, hh⟩ := rec_t hh
  have hfg := beq_iff.1 hfg
  subst hfg
  obtain ⟨p, hsp, hmp, rfl⟩ : ∃ p, a.spot = none ∧ m a.block = some p ∧ a' = ⟨p.b, p.sh + a.off, none⟩ := by
    obtain ⟨x1, p, x2, x3⟩ := ha
    exact ⟨p, x1, x2, x3⟩
  have ha1 := (ha.add 1).1
  rw [add_none] at ha1
  obtain ⟨v, v', g1, g2, g3, g4⟩ := load1_inv hs ha hh
  rcases vInt_inv g4 with ⟨kd, n, rfl, g5⟩ | g5
  case inr => exact ffa g5
  obtain ⟨g6, g7⟩ := rec_t g5
  obtain ⟨g8, g9⟩ := and_inv g6
  have g8 := isU32_inv g8
  have g9 := isNat_inv g9
  subst g8; subst g9
  cases g1
  obtain ⟨v, v', i1, i2, i3, i4⟩ := load1_inv hs ha1 g7
  rcases vInt_inv i4 with ⟨kd, n, rfl, i5⟩ | i5
  case inr => exact ffa i5
  obtain ⟨i6, i7⟩ := rec_t i5
  obtain ⟨i8, i9⟩ := and_inv i6
  have i8 := isI32_inv i8
  have i9 := isNat_inv i9
  subst i8; subst i9
  cases i1
  obtain ⟨h1, w1, s1, t1, hh1, r1⟩ := storeC_inv hs ha1 (n := 1) (vs := [.int .i32 (.ofNat 1)]) (vs' := [.int .i32 (.ofNat 1)]) (.cons (.int _ _) .nil) (by intro v hv; simp at hv; subst hv; rfl) rfl i7
  obtain ⟨e2, rfl⟩ := store1_set i3 (r1 Tryz.prog)
  have hcl := (sound1 h0 hg 60).fn s1 (VRL.cons hc .nil) hgm (k := slowK a k) hh1
  rcases hcl with ⟨u, w', x1, _⟩ | ⟨_, hcl⟩
  · have x1 : (callFunc 545 #[c']).run Tryz.prog _ = _ := x1
    rw [enters545] at x1; injection x1 with x1; cases x1
  · have hcl := callsIn_wide.1 hcl
    refine .inr ⟨enters602 _ w, callsIn_wide.2 ((YtcflmdimeemkcaaGreatDoor.slow_any p.b (p.sh + a.off) c' w (fun w2 => ∃ u, Done (X0 w0 st) m h1 (w.setCell ⟨p.b, p.sh + a.off + 1, none⟩ (.int .i32 1)) (slowK a k) u w2) g3 i3 e2 (hcl.mono ?_) ?_).mono ?_)⟩
    · intro e w2 he
      cases e with
      | returned u => exact ⟨⟨u, rfl⟩, u, he⟩
      | panicked c => exact he.elim
      | outgrown => exact he.elim
    · rintro w2 ⟨u, hd⟩
      exact (slow_end ha hd).1
    · rintro e w' ⟨rfl, w2, ⟨u, hd⟩, rfl⟩
      exact Done.after t1 (slow_end ha hd).2
end Go.Ab
end
section
namespace Go.Ab
open Go.Proofs
variable {w0 : World} {st : Nat → Prop}
theorem info314 : ∃ i, Tryz.prog.info? 314 = some i ∧ i.size = 2 := by
  have h : (Tryz.prog.info? 314).map (·.size) = some 2 := by kernel_rfl
  rw [Option.map_eq_some_iff] at h
  exact h
theorem size314 (w : World) : (sizeOf 314).run Tryz.prog w = .ok 2 w := by kernel_rfl
theorem overlaps_at (w : World) {b vb off voff vc : Nat} {e1 e2 : TypeId} {c1 c2 : Array Value} {fr : Nat × Nat} (hne : vb ≠ b) (h1 : w.heap[vb]? = some (.cells c1 e1 (0, 0))) (h2 : w.heap[b]? = some (.cells c2 e2 fr)) (hc : c2.size ≠ 0) (lb cb : Nat) :
    (callFunc 273 #[.slice (some ⟨vb, voff, none⟩) 1 vc, .slice (some ⟨b, off, none⟩) lb cb]).run Tryz.prog w = .ok (.value (.bool false)) w := by
  rw [run_callFunc_extern Tryz.func273 (by kernel_rfl) (by kernel_rfl) (by kernel_rfl) (e := Extern.SlicesOverlaps.overlaps #[309, 309] #[4]) (by kernel_rfl),
    Lib.run_overlaps_apart w 309 4 314 Tryz.underlying309 2 size314 ⟨vb, voff, none⟩ ⟨b, off, none⟩ 1 vc lb cb hne e1 e2 c1.size c2.size (by simp [World.shape?, h1]) (by simp [World.shape?, h2]) hc (by simp [World.frozen?, h1]) (by simp [World.frozen?, h1])]
  rfl
theorem ins_room (h0 : st 0) (hg : Hnd w0) {m : M} {h : Hp} {w : World} {a b : Addr} {c' cv : Nat} {p : Pl} {s3 : Value} {cb : CB} {k : KV} (hs : Sim (X0 w0 st) m h w)
    (eab : a.block ≠ b.block) (eay : a.block < yb) (hcb : h.blk b.block = some cb) (hfz : cb.fz = none) (ha : AR m a ⟨p.b, p.sh + a.off, none⟩) (hp : m a.block = some p) (hc2 : 2 ≤ c') (hr : p.sh + a.off + c' * p.es ≤ p.sz) (p3 : VR m (.slice (some b) 1 cv) s3)
    (hB : h.t.mod (fun ca kk => both (Nat.beq a.off 0) (both (Nat.beq ca.n 1) (both (Nat.beq ca.s 2) (kk ⟨ca.t, 2, ca.s, ca.e, ca.fz⟩)))) (pth a.block) (fun t =>
            copyE 2 ⟨h.y, t, h.o, h.ny, h.nt, h.no⟩ (.slice (some (addrAdd a 2)) 1 2) (.slice (some a) 2 4) (fun _ h2 =>
              copyE 2 h2 (.slice (some a) 2 4) (.slice (some b) 1 cv) (fun _ h3 => k (.slice (some a) 2 4) h3))) = true) :
    CallR Tryz.prog 131 #[.slice (some ⟨p.b, p.sh + a.off, none⟩) 1 c', .int .i64 0, s3] w (fun v' w' => Done (X0 w0 st) m h w k v' w') := by
  obtain ⟨ca, hca, hf⟩ := mod_inv hB
  obtain ⟨f1, hf⟩ := both_inv hf
  obtain ⟨f2, hf⟩ := both_inv hf
  obtain ⟨f3, hf⟩ := both_inv hf
  have f1 := beq_iff.1 f1
  have f2 := beq_iff.1 f2
  have f3 := beq_iff.1 f3
  have hblk : h.blk a.block = some ca := by
    unfold Hp.blk
    have : ¬ yb ≤ a.block := by omega
    simp [this, hca]
  obtain ⟨p', cs, fr, g1, _, g3, g4⟩ := hs.at ha hblk
  rw [hp] at g1; injection g1 with g1; subst g1
  have hes : p.es = 2 := by rw [← g4.es, f3]
  rw [hes] at hr
  obtain ⟨sL, tL⟩ := hs.longer (n := 2) hp eay hblk (by omega) (by rw [f3]; omega)
  obtain ⟨sD, tD⟩ := drew_sim sL
  -- the second slice
  obtain ⟨pb, vc, q1, q2, rfl⟩ : ∃ pb vc, m b.block = some pb ∧ AR m b ⟨pb.b, pb.sh + b.off, none⟩ ∧ s3 = .slice (some ⟨pb.b, pb.sh + b.off, none⟩) 1 vc := by
    cases p3 with
    | slE _ c hb =>
      obtain ⟨x1, pb, x2, x3⟩ := hb
      subst x3
      exact ⟨pb, c, x2, ⟨x1, pb, x2, rfl⟩, rfl⟩
    | slL hb _ _ _ =>
      rename_i c _
      obtain ⟨x1, pb, x2, x3⟩ := hb
      subst x3
      exact ⟨pb, _, x2, ⟨x1, pb, x2, rfl⟩, rfl⟩
  obtain ⟨pb', csb, frb, b1, _, b3, b4⟩ := hs.at q2 hcb
  rw [q1] at b1; injection b1 with b1; subst b1
  have hfr : frb = (0, 0) := by have := b4.fz; rw [hfz] at this; exact this
  subst hfr
  have hne : pb.b ≠ p.b := fun e => eab (hs.inj _ _ _ _ (live_iff_blk hblk) (live_iff_blk hcb) hp q1 e.symm)
  obtain ⟨i, hi, hsz⟩ := info314
  have ha2 := ha.add 2
  rw [add_none] at ha2
  have vd : VR m (.slice (some (addrAdd a 2)) 1 2) (.slice (some ⟨p.b, p.sh + a.off + 2, none⟩) 1 (c' - 1)) :=
    .slL (k := 1) ha2.1 (by rw [ha2.2.1]; exact hp) (by omega) (by rw [hes]; show p.sh + a.off + 2 + (c' - 1) * 2 ≤ p.sz; omega)
  have vs : VR m (.slice (some a) 2 4) (.slice (some ⟨p.b, p.sh + a.off, none⟩) 2 c') := .slL (k := 2) ha hp hc2 (by rw [hes]; exact hr)
  have hf' : copyE i.size (h.setB a.block ⟨ca.t, 2, ca.s, ca.e, ca.fz⟩) (.slice (some (addrAdd a 2)) 1 2) (.slice (some a) 2 4) (fun _ h2 =>
              copyE i.size h2 (.slice (some a) 2 4) (.slice (some b) 1 cv) (fun _ h3 => k (.slice (some a) 2 4) h3)) = true := by rw [hsz]; exact hf
  obtain ⟨v1, w1, r1, m1, h1, u1, _, s1, t1, k1⟩ := copy_inv (dt := 309) (e := 314) (st := 309) (ty := 0) (k := fun _ h2 => copyE i.size h2 (.slice (some a) 2 4) (.slice (some b) 1 cv) (fun _ h3 => k (.slice (some a) 2 4) h3)) sD Tryz.underlying309 hi vd vs hf' #[309, 309] rfl
  have k1' : copyE i.size h1 (.slice (some a) 2 4) (.slice (some b) 1 cv) (fun _ h3 => k (.slice (some a) 2 4) h3) = true := k1
  obtain ⟨v2, w2, r2, m2, h2, u2, _, s2, t2, k2⟩ := copy_inv (dt := 309) (e := 314) (st := 309) (ty := 0) (k := fun _ h3 => k (.slice (some a) 2 4) h3) s1 Tryz.underlying309 hi (vs.mono t1.sub) (p3.mono t1.sub) k1' #[309, 309] rfl
  have hcs : cs.size ≠ 0 := by have := g4.sz; omega
  refine .inr ⟨enters131 _ w, callsIn_wide.2 ((YtcflmdimeemkcaaGreatDoor.ins_shift p.b (p.sh + a.off) c' pb.b (pb.sh + b.off) vc w w1 w2 v1 v2 hc2 (fun lb cb => overlaps_at w hne b3 g3 hcs lb cb) (fun ty => r1) (fun ty => r2)).mono ?_)⟩
  rintro e w' ⟨rfl, rfl⟩
  exact ⟨m2, h2, .slice (some a) 2 4, (vs.mono t1.sub).mono t2.sub, s2, ((tL.trans tD).trans t1).trans t2, k2⟩
theorem ins_ok (h0 : st 0) (hg : Hnd w0) : XOk (X0 w0 st) 131 (xIns (fCall T1 60) 131) := by
  constructor
  intro m h w args args' k hs hv hgm hh
  unfold xIns at hh
  split at hh
  · exact (sound1 h0 hg 60).fn hs hv hgm hh
  case h_3 => exact ffa hh
  rename_i a n c z b mm cv
  obtain ⟨en, y1⟩ := both_inv hh
  obtain ⟨ec, y2⟩ := both_inv y1
  obtain ⟨ez, y3⟩ := both_inv y2
  obtain ⟨em, y4⟩ := both_inv y3
  obtain ⟨eab, y5⟩ := both_inv y4
  obtain ⟨eay, y6⟩ := both_inv y5
  replace en := beq_iff.1 en
  replace ec := beq_iff.1 ec
  replace ez := beq_iff.1 ez
  replace em := beq_iff.1 em
  replace eab : a.block ≠ b.block := by
    rcases rec_inv eab with ⟨x, _⟩ | ⟨_, x⟩
    · exact beq_f.1 x
    · exact ffa x
  replace eay : a.block < yb := by
    rcases rec_inv eay with ⟨x, _⟩ | ⟨_, x⟩
    · exact ble_f.1 x
    · exact ffa x
  obtain ⟨cb, hcb, hh2⟩ := Hp.cells_inv y6
  clear y1 y2 y3 y4 y5 y6 hh
  subst en; subst ez; subst em
  rcases hh2 with ⟨_, hh3⟩ | ⟨_, _, _, _, _, x⟩
  case inr => exact ffa x
  obtain ⟨hfz, hh4⟩ := noFz_inv hh3
  obtain ⟨hA, hB⟩ := both_inv hh4
  cases hv with
  | cons p1 p2 =>
  cases p2 with
  | cons p2 p3 =>
  cases p3 with
  | cons p3 p4 =>
  cases p4
  cases p2
  cases p1 with
  | slE _ c' _ => exfalso; omega
  | slL ha hp hk hr =>
    rename_i a' p kk c'
    obtain ⟨x1, p2, x2, x3⟩ := id ha
    rw [hp] at x2; injection x2 with x2; subst x2; subst x3
    by_cases hc1 : c' = 1
    · subst hc1
      exact (sound1 h0 hg 60).fn hs (VRL.cons (.slE 1 1 ha) (VRL.cons (.int _ _) (VRL.cons p3 .nil))) hgm hA
    · exact ins_room h0 hg hs eab eay hcb hfz ha hp (by omega) hr p3 hB
end Go.Ab
end
section
namespace Go.Ab
open Go.Proofs
variable {w0 : World} {st : Nat → Prop}
theorem ext0_ok (h0 : st 0) (hg : Hnd w0) (g : Nat) : ∀ x, ext0 g = some x → XOk (X0 w0 st) g x := by
  intro x h
  unfold ext0 at h
  cases h1 : Nat.beq g 131 with
  | true =>
    rw [h1] at h
    have h : some (xIns (fCall T1 60) 131) = some x := h
    injection h with h; subst h
    have := Nat.eq_of_beq_eq_true h1; subst this
    exact ins_ok h0 hg
  | false =>
    rw [h1] at h
    cases h2 : Nat.beq g 602 with
    | true =>
      rw [h2] at h
      have h : some (xSlow (fCall T1 60) 545) = some x := h
      injection h with h; subst h
      have := Nat.eq_of_beq_eq_true h2; subst this
      exact slow_ok h0 hg
    | false =>
      rw [h2] at h
      exact ext_ok h0 hg g x h
theorem tab0_ok (h0 : st 0) (hg : Hnd w0) : TabOk (X0 w0 st) T0 := by
  refine ⟨fun g fi h => ?_, ?_⟩
  · obtain ⟨fn, h1, h2, h3⟩ := fiT_ok g fi h
    exact ⟨fn, h1, by simpa using h2, h3⟩
  · intro g x h
    intro m h' w args args' k hs hv hgm hh
    exact (ext0_ok h0 hg g x h).law hs hv hgm hh
theorem sound0 (h0 : st 0) (hg : Hnd w0) (N : Nat) : SoundCl (X0 w0 st) gOk0 (fCall T0 N) := call_sound w_ok (tab0_ok h0 hg) N
end Go.Ab
end

/-
  A part of the proof of the card of DeskKnown (the whole is said in the last text). No condition of its own beyond those that its theorems state.
-/
import Derived.Test.YtcflmdimeemkcaaGreatDoorJb
import Derived.Test.YtcflmdimeemkcaaGreatDoorRows
import Derived.ProofKit
import Derived.LaidMore
import Derived.OpenShut
import Derived.Lib.LaidTab
import Derived.Lib.LaidU8
import Derived.Stop.Joined
import Derived.ChangeSame
import Derived.ChangeVars
import Derived.JoinedOf
import Derived.RowKit
import Derived.RowKitTokens
import Derived.LaidLaws
import Derived.LaidHandle
import Derived.Lib.LaidIn
set_option autoImplicit true
set_option relaxedAutoImplicit true
set_option linter.unusedVariables false
set_option linter.unusedSimpArgs false
set_option linter.unusedSectionVars false
section
namespace Go.Proofs.YtcflmdimeemkcaaGreatDoor
open Go.ChangeShapes Go.WideShapes Go.ChangeAt Go.WideMaps Go.WideElems Go.RowKit Go.Ab Go.Lib
/-! ### what a table's condition gives -/
theorem laid_vars {P : Program} {w : World} : ∀ {l : List (String × DataW Unit)} {ps : List MemPlace}, DataW.LaidVars P w l ps → ∀ n d, (n, d) ∈ l →
    ∃ g t cs fuel p, P.globalNamed n = some g ∧ (P.globals[g]?).map (·.type) = some t ∧ w.var? P n = some cs ∧ DataW.trod (fun _ => ()) P w 0 (fun _ => true) false fuel t cs.toList = some (d, p) ∧ ∀ q ∈ MemPlace.row ⟨g, 0, none⟩ cs.size, q ∈ ps
  | [], _, _, _, _, hm => by cases hm
  | (n', d') :: r, ps, h, n, d, hm => by
    obtain ⟨g, t, cs, fuel, p, q, h1, h2, h3, h4, h5, h6⟩ := h
    rcases List.mem_cons.1 hm with e | e
    · cases e
      exact ⟨g, t, cs, fuel, p, h1, h2, h3, h4, fun x hx => by rw [h6]; exact List.mem_append_left _ (List.mem_append_left _ hx)⟩
    · obtain ⟨g2, t2, cs2, fuel2, p2, a1, a2, a3, a4, a5⟩ := laid_vars h5 n d e
      exact ⟨g2, t2, cs2, fuel2, p2, a1, a2, a3, a4, fun x hx => by rw [h6]; exact List.mem_append_right _ (a5 x hx)⟩
theorem laid_block {P : Program} {w : World} {l : List (String × DataW Unit)} (h : laidMet P l w) {n : String} {d : DataW Unit} (hm : (n, d) ∈ l) {g : Nat} {t : TypeId} (hg : P.globalNamed n = some g) (ht : (P.globals[g]?).map (·.type) = some t) :
    ∃ cs fuel p, DataW.trod (fun _ => ()) P w 0 (fun _ => true) false fuel t cs.toList = some (d, p) ∧ (0 < cs.size → ∃ t', w.heap[g]? = some (.cells cs t' (0, 0))) := by
  obtain ⟨ps, hv, _, hc⟩ := h
  obtain ⟨g', t', cs, fuel, p, a1, a2, a3, a4, a5⟩ := laid_vars hv n d hm
  obtain rfl := Option.some.inj (hg.symm.trans a1)
  obtain rfl := Option.some.inj (ht.symm.trans a2)
  refine ⟨cs, fuel, p, a4, fun h0 => ?_⟩
  obtain ⟨⟨c, t2, h1⟩, _⟩ := hc g 0 (a5 _ (List.mem_map.2 ⟨0, List.mem_range.2 h0, by simp⟩))
  unfold World.var? at a3
  rw [hg] at a3
  simp only [Option.bind_some, h1, Option.some.injEq] at a3
  subst a3
  exact ⟨t2, h1⟩
/-- a table of numbers -/
theorem laid_ints {P : Program} {w : World} {l : List (String × DataW Unit)} (h : laidMet P l w) {n : String} {d : DataW Unit} (hm : (n, d) ∈ l) {g : Nat} {t e : TypeId} {k : IntKind} {m : Nat} {zs : List Int} {gl : List Value} (hg : P.globalNamed n = some g) (ht : (P.globals[g]?).map (·.type) = some t)
    (hu : P.underlying t = some (.array m e)) (he : P.underlying e = some (.int k)) (hce : P.cellsOf e = 1) (hct : P.cellsOf t = m) (hd : d = tabData k zs) (hgl : gl = zs.map fun z => Value.int k z) (h0 : 0 < gl.length) : ∃ t', w.heap[g]? = some (.cells gl.toArray t' (0, 0)) := by
  obtain ⟨cs, fuel, p, h1, h2⟩ := laid_block h hm hg ht
  subst hd
  have h3 := cells_of_tab hu he hce hct h1
  rw [← hgl] at h3
  have h4 : cs = gl.toArray := Array.ext' h3
  subst h4
  exact h2 (by simpa using h0)
theorem chunks_eq {cs gl : List Value} (h : ∀ i, (cs.drop (i * 2)).take 2 = (gl.drop (i * 2)).take 2) : cs = gl := by
  apply List.ext_getElem?
  intro j
  have h1 := congrArg (fun l => l[j % 2]?) (h (j / 2))
  simp only [List.getElem?_take, List.getElem?_drop] at h1
  have h2 : j % 2 < 2 := Nat.mod_lt _ (by decide)
  have h3 : j / 2 * 2 + j % 2 = j := by omega
  rw [if_pos h2, if_pos h2, h3] at h1
  exact h1
/-- a table of pairs of numbers -/
theorem laid_pairs {P : Program} {w : World} {l : List (String × DataW Unit)} (h : laidMet P l w) {n : String} {d : DataW Unit} (hm : (n, d) ∈ l) {g : Nat} {t e : TypeId} {k : IntKind} {m : Nat} {ds : List (DataW Unit)} {zs : List (Int × Int)} {gl : List Value} (hg : P.globalNamed n = some g) (ht : (P.globals[g]?).map (·.type) = some t)
    (hu : P.underlying t = some (.array m e)) (hce : P.cellsOf e = 2) (hct : P.cellsOf t = m * 2)
    (hel : ∀ (fuel : Nat) (cs : List Value) (a b : Int) (p : List MemPlace), DataW.trod (fun _ => ()) P w 0 (fun _ => true) false fuel e cs = some (.agg [.lit (.int k a), .lit (.int k b)], p) → cs = [.int k a, .int k b])
    (hd : d = .agg (zs.map fun z => .agg [.lit (.int k z.1), .lit (.int k z.2)])) (hz : zs.length = m) (hgl : gl = zs.flatMap fun z => [Value.int k z.1, .int k z.2]) (h0 : 0 < gl.length) : ∃ t', w.heap[g]? = some (.cells gl.toArray t' (0, 0)) := by
  obtain ⟨cs, fuel, p, h1, h2⟩ := laid_block h hm hg ht
  subst hd
  have hlen : cs.toList.length = m * 2 := by
    obtain ⟨xs, mm, _, _, h3, _⟩ := DataW.trod_array hu h1
    rw [h3, hct]
  have hfl : ∀ (zs : List (Int × Int)) (i : Nat), ((zs.flatMap fun z => [Value.int k z.1, .int k z.2]).drop (i * 2)).take 2 = match zs[i]? with | some z => [Value.int k z.1, .int k z.2] | none => [] := by
    intro zs
    induction zs with
    | nil => intro i; simp
    | cons z zs ih =>
      intro i
      cases i with
      | zero => simp
      | succ i =>
        rw [show (i + 1) * 2 = i * 2 + 2 by omega]
        simp only [List.flatMap_cons, List.cons_append, List.nil_append, List.drop_succ_cons, List.getElem?_cons_succ]
        exact ih i
  have h3 : cs.toList = gl := by
    apply chunks_eq
    intro i
    rw [hgl, hfl]
    by_cases hi : i < m
    · obtain ⟨fuel', d, q, h4, h5⟩ := array_elem hu h1 i hi
      rw [List.getElem?_map, Option.map_eq_some_iff] at h4
      obtain ⟨z, h6, rfl⟩ := h4
      rw [h6]
      rw [hce] at h5
      exact hel _ _ _ _ _ h5
    · rw [List.getElem?_eq_none (show zs.length ≤ i by omega)]
      simp only
      rw [List.drop_eq_nil_of_le (by omega)]; rfl
  have h4 : cs = gl.toArray := Array.ext' h3
  subst h4
  exact h2 (by simpa using h0)
theorem el165 {w : World} {fuel : Nat} {cs : List Value} {a b : Int} {p : List MemPlace} (h : DataW.trod (fun _ => ()) Tryz.prog w 0 (fun _ => true) false fuel 167 cs = some (.agg [.lit (.int .u8 a), .lit (.int .u8 b)], p)) : cs = [.int .u8 a, .int .u8 b] := by
  have := ints_of_struct (k := .u8) (zs := [a, b]) Tryz.underlying167 (by
    intro i f hf
    match i, hf with
    | 0, hf => simp at hf; subst hf; exact ⟨Tryz.underlying5, rfl, by kernel_rfl⟩
    | 1, hf => simp at hf; subst hf; exact ⟨Tryz.underlying5, rfl, by kernel_rfl⟩
    | i + 2, hf => simp at hf) (by kernel_rfl) h
  simpa using this
theorem el509 {w : World} {fuel : Nat} {cs : List Value} {a b : Int} {p : List MemPlace} (h : DataW.trod (fun _ => ()) Tryz.prog w 0 (fun _ => true) false fuel 511 cs = some (.agg [.lit (.int .i32 a), .lit (.int .i32 b)], p)) : cs = [.int .i32 a, .int .i32 b] := by
  have := cells_of_tab (k := .i32) (zs := [a, b]) Tryz.underlying511 Tryz.underlying21 (by kernel_rfl) (by kernel_rfl) h
  simpa using this
end Go.Proofs.YtcflmdimeemkcaaGreatDoor
end
section
namespace Go.Proofs.YtcflmdimeemkcaaGreatDoor
open Go.ChangeShapes Go.WideShapes Go.ChangeAt Go.WideMaps Go.WideElems Go.RowKit Go.Ab Go.Lib
set_option maxRecDepth 100000
def zs1 : List Int := [240, 240, 240, 240, 240, 240, 240, 240, 240, 240, 240, 240, 240, 240, 240, 240, 240, 240, 240, 240, 240, 240, 240, 240, 240, 240, 240, 240, 240, 240, 240, 240, 240, 240, 240, 240, 240, 240, 240, 240, 240, 240, 240, 240, 240, 240, 240, 240, 240, 240, 240, 240, 240, 240, 240, 240, 240, 240, 240, 240, 240, 240, 240, 240, 240, 240, 240, 240, 240, 240, 240, 240, 240, 240, 240, 240, 240, 240, 240, 240, 240, 240, 240, 240, 240, 240, 240, 240, 240, 240, 240, 240, 240, 240, 240, 240, 240, 240, 240, 240, 240, 240, 240, 240, 240, 240, 240, 240, 240, 240, 240, 240, 240, 240, 240, 240, 240, 240, 240, 240, 240, 240, 240, 240, 240, 240, 240, 240, 241, 241, 241, 241, 241, 241, 241, 241, 241, 241, 241, 241, 241, 241, 241, 241, 241, 241, 241, 241, 241, 241, 241, 241, 241, 241, 241, 241, 241, 241, 241, 241, 241, 241, 241, 241, 241, 241, 241, 241, 241, 241, 241, 241, 241, 241, 241, 241, 241, 241, 241, 241, 241, 241, 241, 241, 241, 241, 241, 241, 241, 241, 241, 241, 241, 241, 2, 2, 2, 2, 2, 2, 2, 2, 2, 2, 2, 2, 2, 2, 2, 2, 2, 2, 2, 2, 2, 2, 2, 2, 2, 2, 2, 2, 2, 2, 19, 3, 3, 3, 3, 3, 3, 3, 3, 3, 3, 3, 3, 35, 3, 3, 52, 4, 4, 4, 68, 241, 241, 241, 241, 241, 241, 241, 241, 241, 241, 241]
def zs4 : List Int := [0, 1, 56, 2, 57, 49, 28, 3, 61, 58, 42, 50, 38, 29, 17, 4, 62, 47, 59, 36, 45, 43, 51, 22, 53, 39, 33, 30, 24, 18, 12, 5, 63, 55, 48, 27, 60, 41, 37, 16, 46, 35, 44, 21, 52, 32, 23, 11, 54, 26, 40, 15, 34, 20, 31, 10, 25, 14, 19, 9, 13, 8, 7, 6]
def zs5 : List Int := [1, 10, 100, 1000, 10000, 100000, 1000000, 10000000, 100000000, 1000000000, 10000000000, 100000000000, 1000000000000, 10000000000000, 100000000000000, 1000000000000000, 10000000000000000, 100000000000000000, 1000000000000000000, 10000000000000000000]
def zs9 : List Int := [0, 1, 28, 2, 29, 14, 24, 3, 30, 22, 20, 15, 25, 17, 4, 8, 31, 27, 13, 23, 21, 19, 16, 7, 26, 12, 18, 6, 11, 5, 10, 9]
def zs10 : List Int := [1, 2, 3, 4, 5, 7, 8, 9]
def zs2 : List (Int × Int) := [(128, 191), (160, 191), (128, 159), (144, 191), (128, 143), (0, 0), (0, 0), (0, 0), (0, 0), (0, 0), (0, 0), (0, 0), (0, 0), (0, 0), (0, 0), (0, 0)]
def zs8 : List (Int × Int) := [(0, 31), (127, 159), (768, 879), (1155, 1161), (1425, 1469), (1552, 1562), (1611, 1631), (4352, 4447), (8203, 8207), (8400, 8447), (11904, 12350), (12353, 13311), (13312, 19903), (19968, 40959), (40960, 42191), (44032, 55203), (63744, 64255), (65024, 65039), (65056, 65071), (65072, 65135), (65280, 65376), (65504, 65510), (127744, 128591), (129280, 129535), (131072, 262141), (917760, 917999)]
abbrev laidD : List (String × DataW Unit) := Rows.deskKnownRow.laid.filter fun x => x.2.handleName?.isNone
theorem gl1_eq : gl1 = zs1.map fun z => Value.int .u8 z := by kernel_rfl
theorem zd1_eq : (Rows.laid_unicode_utf8_first : DataW Unit) = tabData .u8 zs1 := by kernel_rfl
theorem gl4_eq : gl4 = zs4.map fun z => Value.int .u8 z := by kernel_rfl
theorem zd4_eq : (Rows.laid_math_bits_deBruijn64tab : DataW Unit) = tabData .u8 zs4 := by kernel_rfl
theorem gl5_eq : gl5 = zs5.map fun z => Value.int .u64 z := by kernel_rfl
theorem zd5_eq : (Rows.laid_internal_strconv_uint64pow10 : DataW Unit) = tabData .u64 zs5 := by kernel_rfl
theorem gl9_eq : gl9 = zs9.map fun z => Value.int .u8 z := by kernel_rfl
theorem zd9_eq : (Rows.laid_math_bits_deBruijn32tab : DataW Unit) = tabData .u8 zs9 := by kernel_rfl
theorem gl10_eq : gl10 = zs10.map fun z => Value.int .i64 z := by kernel_rfl
theorem zd10_eq : (Rows.laid_jalousie_attr_flags : DataW Unit) = tabData .i64 zs10 := by kernel_rfl
theorem gl2_eq : gl2 = zs2.flatMap fun z => [Value.int .u8 z.1, .int .u8 z.2] := by kernel_rfl
theorem gl8_eq : gl8 = zs8.flatMap fun z => [Value.int .i32 z.1, .int .i32 z.2] := by kernel_rfl
theorem zd2_eq : (Rows.laid_unicode_utf8_acceptRanges : DataW Unit) = .agg (zs2.map fun z => .agg [.lit (.int .u8 z.1), .lit (.int .u8 z.2)]) := by kernel_rfl
theorem zd8_eq : (Rows.laid_jalousie_width_bounds : DataW Unit) = .agg (zs8.map fun z => .agg [.lit (.int .i32 z.1), .lit (.int .i32 z.2)]) := by kernel_rfl
theorem gn1 : Tryz.prog.globalNamed "unicode/utf8.first" = some 1 := by kernel_rfl
theorem gt1 : (Tryz.prog.globals[1]?).map (·.type) = some 164 := by kernel_rfl
theorem gn2 : Tryz.prog.globalNamed "unicode/utf8.acceptRanges" = some 2 := by kernel_rfl
theorem gt2 : (Tryz.prog.globals[2]?).map (·.type) = some 168 := by kernel_rfl
theorem gn4 : Tryz.prog.globalNamed "math/bits.deBruijn64tab" = some 4 := by kernel_rfl
theorem gt4 : (Tryz.prog.globals[4]?).map (·.type) = some 241 := by kernel_rfl
theorem gn5 : Tryz.prog.globalNamed "internal/strconv.uint64pow10" = some 5 := by kernel_rfl
theorem gt5 : (Tryz.prog.globals[5]?).map (·.type) = some 441 := by kernel_rfl
theorem gn8 : Tryz.prog.globalNamed "jalousie/width.bounds" = some 8 := by kernel_rfl
theorem gt8 : (Tryz.prog.globals[8]?).map (·.type) = some 615 := by kernel_rfl
theorem gn9 : Tryz.prog.globalNamed "math/bits.deBruijn32tab" = some 9 := by kernel_rfl
theorem gt9 : (Tryz.prog.globals[9]?).map (·.type) = some 666 := by kernel_rfl
theorem gn10 : Tryz.prog.globalNamed "jalousie/attr.flags" = some 10 := by kernel_rfl
theorem gt10 : (Tryz.prog.globals[10]?).map (·.type) = some 705 := by kernel_rfl
theorem laidD_eq : laidD = [("math/bits.deBruijn64tab", Rows.laid_math_bits_deBruijn64tab), ("unicode/utf8.first", Rows.laid_unicode_utf8_first), ("unicode/utf8.acceptRanges", Rows.laid_unicode_utf8_acceptRanges), ("strconv.ErrSyntax", Rows.laid_strconv_ErrSyntax), ("strconv.ErrRange", Rows.laid_strconv_ErrRange), ("internal/strconv.uint64pow10", Rows.laid_internal_strconv_uint64pow10), ("math/bits.deBruijn32tab", Rows.laid_math_bits_deBruijn32tab), ("jalousie/width.bounds", Rows.laid_jalousie_width_bounds), ("jalousie/attr.flags", Rows.laid_jalousie_attr_flags)] := by kernel_rfl
theorem laidH_eq : (Rows.deskKnownRow.laid.filter fun x => x.2.handleName?.isSome) = [("errors.errorType", Rows.laid_errors_errorType)] := by kernel_rfl
theorem met_parts {W : World} (h : laidMetH Tryz.prog Rows.deskKnownRow.laid W) : laidMet Tryz.prog laidD W ∧ handlesMet Tryz.prog [("errors.errorType", Rows.laid_errors_errorType)] W := by
  unfold laidMetH at h
  rw [laidH_eq] at h
  exact h
theorem et : Tryz.prog.globalNamed "errors.errorType" = some 0 := by kernel_rfl
theorem rt : (Tryz.prog.cutTypes.find? (·.1 == "internal/reflectlite.rtype")).map (·.2) = some 149 := by kernel_rfl
theorem oneRow : ((List.range 783).filter fun t => Tryz.prog.rowNamed t [101, 114, 114, 111, 114]) = [32] := by kernel_rfl
theorem tsize : Tryz.prog.types.size = 783 := by kernel_rfl
theorem handle_of_laid {W : World} (h : laidMetH Tryz.prog Rows.deskKnownRow.laid W) : W.cell? ⟨0, 0, none⟩ = some (.iface 149 (.agg #[.pointer (some ⟨11, 32, none⟩)])) := by
  obtain ⟨name, u, ty, e1, e2, e3, e4, e5⟩ := (met_parts h).2 _ (List.mem_singleton.2 rfl)
  have en : name = [101, 114, 114, 111, 114] := (Option.some.inj e1).symm
  subst en
  obtain rfl := Option.some.inj (rt.symm.trans e2)
  have hm : ty ∈ (List.range 783).filter fun t => Tryz.prog.rowNamed t [101, 114, 114, 111, 114] := List.mem_filter.2 ⟨List.mem_range.2 (by rw [← tsize]; exact e3), e4⟩
  rw [oneRow] at hm
  obtain rfl := List.mem_singleton.1 hm
  have hh : typeHandle Tryz.prog 32 = .pointer (some ⟨11, 32, none⟩) := by kernel_rfl
  rw [hh] at e5
  simpa using World.var?_cell et e5 0
theorem laid0_of {W : World} (h : laidMetH Tryz.prog Rows.deskKnownRow.laid W) : Laid0 W := by
  refine ⟨handle_of_laid h, fun g n l hg => ?_⟩
  have hd := (met_parts h).1
  rw [laidD_eq] at hd
  have len := (gl_len hg).1
  rcases glOf_cases hg with ⟨rfl, e⟩ | ⟨rfl, e⟩ | ⟨rfl, e⟩ | ⟨rfl, e⟩ | ⟨rfl, e⟩ | ⟨rfl, e⟩ | ⟨rfl, e⟩ <;> injection e with e1 e2 <;> subst e1 <;> subst e2
  · exact laid_ints hd (n := "unicode/utf8.first") (d := Rows.laid_unicode_utf8_first) (by simp) gn1 gt1 Tryz.underlying164 Tryz.underlying5 (by kernel_rfl) (by kernel_rfl) zd1_eq gl1_eq (by omega)
  · exact laid_pairs (ds := []) hd (n := "unicode/utf8.acceptRanges") (d := Rows.laid_unicode_utf8_acceptRanges) (by simp) gn2 gt2 Tryz.underlying168 (by kernel_rfl) (by kernel_rfl) (fun _ _ _ _ _ h => el165 h) zd2_eq (by kernel_rfl) gl2_eq (by omega)
  · exact laid_ints hd (n := "math/bits.deBruijn64tab") (d := Rows.laid_math_bits_deBruijn64tab) (by simp) gn4 gt4 Tryz.underlying241 Tryz.underlying5 (by kernel_rfl) (by kernel_rfl) zd4_eq gl4_eq (by omega)
  · exact laid_ints hd (n := "internal/strconv.uint64pow10") (d := Rows.laid_internal_strconv_uint64pow10) (by simp) gn5 gt5 Tryz.underlying441 Tryz.underlying86 (by kernel_rfl) (by kernel_rfl) zd5_eq gl5_eq (by omega)
  · exact laid_pairs (ds := []) hd (n := "jalousie/width.bounds") (d := Rows.laid_jalousie_width_bounds) (by simp) gn8 gt8 Tryz.underlying615 (by kernel_rfl) (by kernel_rfl) (fun _ _ _ _ _ h => el509 h) zd8_eq (by kernel_rfl) gl8_eq (by omega)
  · exact laid_ints hd (n := "math/bits.deBruijn32tab") (d := Rows.laid_math_bits_deBruijn32tab) (by simp) gn9 gt9 Tryz.underlying666 Tryz.underlying5 (by kernel_rfl) (by kernel_rfl) zd9_eq gl9_eq (by omega)
  · exact laid_ints hd (n := "jalousie/attr.flags") (d := Rows.laid_jalousie_attr_flags) (by simp) gn10 gt10 Tryz.underlying705 Tryz.underlying3 (by kernel_rfl) (by kernel_rfl) zd10_eq gl10_eq (by omega)
end Go.Proofs.YtcflmdimeemkcaaGreatDoor
end
section
namespace Go.Proofs.YtcflmdimeemkcaaGreatDoor
open Go.ChangeShapes Go.WideShapes Go.ChangeAt Go.WideMaps Go.WideElems Go.RowKit Go.Ab Go.Lib
set_option maxRecDepth 100000
/-- a world in which the tables lie -/
def fillB (h : Array Obj) (i : Nat) (cs : Array Value) : Array Obj := h.modify i fun
  | .cells _ t frozen => .cells cs t frozen
  | o => o
noncomputable def laidHeap (h : Array Obj) : Array Obj :=
  let n := h.size
  let h := fillB h 0 #[.iface 149 (.agg #[.pointer (some ⟨11, 32, none⟩)])]
  let h := fillB h 1 gl1.toArray
  let h := fillB h 2 gl2.toArray
  let h := fillB h 4 gl4.toArray
  let h := fillB h 5 gl5.toArray
  let h := fillB h 6 #[.iface 667 (.pointer (some ⟨n + 1, 0, none⟩))]
  let h := fillB h 7 #[.iface 667 (.pointer (some ⟨n, 0, none⟩))]
  let h := fillB h 8 gl8.toArray
  let h := fillB h 9 gl9.toArray
  let h := fillB h 10 gl10.toArray
  (h.push (.cells #[.string ⟨⟨[118, 97, 108, 117, 101, 32, 111, 117, 116, 32, 111, 102, 32, 114, 97, 110, 103, 101]⟩⟩] 669)).push (.cells #[.string ⟨⟨[105, 110, 118, 97, 108, 105, 100, 32, 115, 121, 110, 116, 97, 120]⟩⟩] 669)
noncomputable def laidWorld (os : Os) : World :=
  let w0 := World.holding Tryz.prog os ⟨#[], #[], []⟩
  { w0 with heap := laidHeap w0.heap }
noncomputable abbrev laidMem (os : Os) (args : Array Value) : World := ((laidWorld os).forCall (fun _ _ => 0) ⟨#[], args, []⟩).memory
abbrev part1 : List (String × DataW Unit) := [("math/bits.deBruijn64tab", Rows.laid_math_bits_deBruijn64tab)]
abbrev part2 : List (String × DataW Unit) := [("unicode/utf8.first", Rows.laid_unicode_utf8_first)]
abbrev part3 : List (String × DataW Unit) := [("unicode/utf8.acceptRanges", Rows.laid_unicode_utf8_acceptRanges), ("strconv.ErrSyntax", Rows.laid_strconv_ErrSyntax), ("strconv.ErrRange", Rows.laid_strconv_ErrRange), ("internal/strconv.uint64pow10", Rows.laid_internal_strconv_uint64pow10), ("math/bits.deBruijn32tab", Rows.laid_math_bits_deBruijn32tab), ("jalousie/width.bounds", Rows.laid_jalousie_width_bounds), ("jalousie/attr.flags", Rows.laid_jalousie_attr_flags)]
end Go.Proofs.YtcflmdimeemkcaaGreatDoor
end

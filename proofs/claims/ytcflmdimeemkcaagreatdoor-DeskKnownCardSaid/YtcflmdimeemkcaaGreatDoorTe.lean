/-
  A part of the proof of the card of DeskKnown (the whole is said in the last text). No condition of its own beyond those that its theorems state.
-/
import Derived.Test.YtcflmdimeemkcaaGreatDoorTb
import Derived.Test.YtcflmdimeemkcaaGreatDoorTc
import Derived.Test.YtcflmdimeemkcaaGreatDoorTd
set_option autoImplicit true
set_option relaxedAutoImplicit true
set_option linter.unusedVariables false
set_option linter.unusedSimpArgs false
set_option linter.unusedSectionVars false
section
namespace Go.Proofs.YtcflmdimeemkcaaGreatDoor
open Go
theorem pin_laid_unicode_utf8_first : Tryz.pinned.checked.prog.pinnedFits "unicode/utf8.first" = true := by kernel_rfl
theorem noOwnUnsafe : Tryz.pinned.checked.prog.headLifts.contains "ownunsafe" = false := by kernel_rfl
theorem fits1 : Tryz.pinned.checked.prog.listedFits [("math/bits.deBruijn64tab", Rows.laid_math_bits_deBruijn64tab), ("unicode/utf8.first", Rows.laid_unicode_utf8_first), ("unicode/utf8.acceptRanges", Rows.laid_unicode_utf8_acceptRanges), ("strconv.ErrSyntax", Rows.laid_strconv_ErrSyntax), ("strconv.ErrRange", Rows.laid_strconv_ErrRange), ("internal/strconv.uint64pow10", Rows.laid_internal_strconv_uint64pow10), ("math/bits.deBruijn32tab", Rows.laid_math_bits_deBruijn32tab), ("jalousie/width.bounds", Rows.laid_jalousie_width_bounds), ("jalousie/attr.flags", Rows.laid_jalousie_attr_flags), ("errors.errorType", Rows.laid_errors_errorType)] = true := by
  unfold Program.listedFits
  rw [noOwnUnsafe]
  kernel_rfl
theorem tie : Tryz.prog.laidByTextLater theList [.data, .data, .sentinel, .sentinel, .data, .data, .data, .data, .handle] true :=
  Program.laidByTextLater_by_run_h 400 8 tw1 tw2 tw3 tk tg tn td th1 th2 th3
theorem deskKnown_row_tie : Rows.deskKnownRow.laidByTextAt .later Tryz.pinned [.data, .pinned, .data, .sentinel, .sentinel, .data, .data, .data, .data, .handle] true :=
  OpenClaim.laidByTextAt_pinned rfl rfl tie rfl rfl rfl rfl (fun y hy _e => by
    simp only [Rows.deskKnownRow, List.zip_cons_cons, List.zip_nil_right, List.mem_cons, List.mem_nil_iff, or_false] at hy
    rcases hy with rfl | rfl | rfl | rfl | rfl | rfl | rfl | rfl | rfl | rfl
    · cases _e
    · exact ⟨pin_laid_unicode_utf8_first, by kernel_rfl⟩
    · cases _e
    · cases _e
    · cases _e
    · cases _e
    · cases _e
    · cases _e
    · cases _e
    · cases _e) fits1
end Go.Proofs.YtcflmdimeemkcaaGreatDoor
end

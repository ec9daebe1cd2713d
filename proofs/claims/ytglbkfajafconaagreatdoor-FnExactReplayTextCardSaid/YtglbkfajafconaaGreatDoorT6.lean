/- No condition. -/
import Derived.Test.YtglbkfajafconaaGreatDoorT2
import Derived.Test.YtglbkfajafconaaGreatDoorT3
import Derived.Test.YtglbkfajafconaaGreatDoorT4
import Derived.Test.YtglbkfajafconaaGreatDoorT5
import Derived.SevenTiedAt
set_option linter.all false
namespace Go.Proofs.YtglbkfajafconaaGreatDoor
open Go
theorem pin_laid_unicode_utf8_first : Tryz.pinned.checked.prog.pinnedFits "unicode/utf8.first" = true := by kernel_rfl
theorem noOwnUnsafe : Tryz.pinned.checked.prog.headLifts.contains "ownunsafe" = false := by kernel_rfl
theorem fits1 : Tryz.pinned.checked.prog.listedFits [("unicode/utf8.first", Rows.laid_unicode_utf8_first), ("unicode/utf8.acceptRanges", Rows.laid_unicode_utf8_acceptRanges), ("loop.example/g01633/impl.eventWords", Rows.laid_loop_example_g01633_impl_eventWords), ("strconv.ErrSyntax", Rows.laid_strconv_ErrSyntax), ("strconv.ErrRange", Rows.laid_strconv_ErrRange), ("internal/strconv.uint64pow10", Rows.laid_internal_strconv_uint64pow10), ("math/bits.deBruijn32tab", Rows.laid_math_bits_deBruijn32tab), ("math/bits.deBruijn64tab", Rows.laid_math_bits_deBruijn64tab)] = true := by
  unfold Program.listedFits
  rw [noOwnUnsafe]
  kernel_rfl
theorem tie:Tryz.prog.laidByTextLater ltl [.data, .data, .sentinel, .sentinel, .data, .data, .data] true:=Program.laidByTextLater_by_run 400 8 tieF1 tieF2 tieF3 tieF4 tieF5 tieF6 tieF7 tieF8 tieF9
theorem fnExactReplayText_row_tie : Rows.fnExactReplayTextRow.laidByTextAt .later Tryz.pinned [.pinned, .data, .data, .sentinel, .sentinel, .data, .data, .data] true :=
  OpenClaim.laidByTextAt_pinned rfl rfl tie rfl rfl rfl rfl (fun y hy _e => by
    simp only [Rows.fnExactReplayTextRow, List.zip_cons_cons, List.zip_nil_right, List.mem_cons, List.mem_nil_iff, or_false] at hy
    rcases hy with rfl | rfl | rfl | rfl | rfl | rfl | rfl | rfl
    · exact ⟨pin_laid_unicode_utf8_first, by kernel_rfl⟩
    · cases _e
    · cases _e
    · cases _e
    · cases _e
    · cases _e
    · cases _e
    · cases _e) fits1
end Go.Proofs.YtglbkfajafconaaGreatDoor

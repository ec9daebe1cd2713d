/- No condition. -/
import Derived.Test.YtglbkfajafconaaGreatDoorRows
import Derived.LaidByTextLater
set_option linter.all false
namespace Go.Proofs.YtglbkfajafconaaGreatDoor
open Go
def ltl:List (String×DataW Unit):=[("unicode/utf8.acceptRanges", Rows.laid_unicode_utf8_acceptRanges), ("loop.example/g01633/impl.eventWords", Rows.laid_loop_example_g01633_impl_eventWords), ("strconv.ErrSyntax", Rows.laid_strconv_ErrSyntax), ("strconv.ErrRange", Rows.laid_strconv_ErrRange), ("internal/strconv.uint64pow10", Rows.laid_internal_strconv_uint64pow10), ("math/bits.deBruijn32tab", Rows.laid_math_bits_deBruijn32tab), ("math/bits.deBruijn64tab", Rows.laid_math_bits_deBruijn64tab)]
theorem tieF1:Tryz.prog.worded (varsWordLater true)=true:=by kernel_rfl
theorem tieF2:Tryz.prog.worded (varsWordLater !true)=false:=by kernel_rfl
theorem tieF3:Tryz.prog.worded rootWordLater=true:=by kernel_rfl
theorem tieF5:(Tryz.prog.funcNamed "gosem.cut.vars").isSome=true:=by kernel_rfl
theorem tieF4:ltl.map (λx=>Tryz.prog.kindOfLater x.1)=([.data, .data, .sentinel, .sentinel, .data, .data, .data]:List LaidKind).map some:=by kernel_rfl
end Go.Proofs.YtglbkfajafconaaGreatDoor

/- FnErrors returns true for all arguments. No condition. -/
import Derived.Test.YtgepmefongfeeaaGreatR1
namespace Go.Proofs.YtgepmefongfeeaaGreat
open Go.Am Go.ChangeShapes Go.WideShapes Go.ChangeAt Go.RowKit
set_option linter.unusedVariables false
theorem Qv6:ownKnob Tryz.prog.godebug=none:=by kernel_rfl
end Go.Proofs.YtgepmefongfeeaaGreat

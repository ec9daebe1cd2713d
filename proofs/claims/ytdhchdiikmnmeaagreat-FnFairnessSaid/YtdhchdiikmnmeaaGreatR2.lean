/- FnFairness returns true for all arguments. No condition. -/
import Derived.Test.YtdhchdiikmnmeaaGreatR1
namespace Go.Proofs.YtdhchdiikmnmeaaGreat
open Go.Am Go.ChangeShapes Go.WideShapes Go.ChangeAt Go.RowKit
set_option linter.unusedVariables false
theorem Qq1:ownKnob Tryz.prog.godebug=none:=by kernel_rfl
end Go.Proofs.YtdhchdiikmnmeaaGreat

/- FnTransfers returns true for all arguments. No condition. -/
import Derived.Test.YtpadmiphiogdhaaGreatR1
namespace Go.Proofs.YtpadmiphiogdhaaGreat
open Go.Am Go.ChangeShapes Go.WideShapes Go.ChangeAt Go.RowKit
set_option linter.unusedVariables false
theorem Qk7:ownKnob Tryz.prog.godebug=none:=by kernel_rfl
end Go.Proofs.YtpadmiphiogdhaaGreat

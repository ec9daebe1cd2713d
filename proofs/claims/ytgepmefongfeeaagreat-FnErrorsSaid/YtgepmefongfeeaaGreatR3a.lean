/- FnErrors returns true for all arguments. No condition. -/
import Derived.Test.YtgepmefongfeeaaGreatR3
namespace Go.Proofs.YtgepmefongfeeaaGreat
open Go.Am Go.ChangeShapes Go.WideShapes Go.ChangeAt Go.RowKit
set_option linter.unusedVariables false
theorem Qx0: (Rows.fnErrorsRow.inPlace==Tryz.prog.inPlace 3)=true:=by kernel_rfl
end Go.Proofs.YtgepmefongfeeaaGreat

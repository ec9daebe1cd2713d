/- FnErrors returns true for all arguments. No condition. -/
import Derived.Test.YtgepmefongfeeaaGreatR3a
namespace Go.Proofs.YtgepmefongfeeaaGreat
open Go.Am Go.ChangeShapes Go.WideShapes Go.ChangeAt Go.RowKit
set_option linter.unusedVariables false
theorem Qx1: (Rows.fnErrorsRow.unfollowed==Tryz.prog.unfollowed 3)=true:=by kernel_rfl
end Go.Proofs.YtgepmefongfeeaaGreat

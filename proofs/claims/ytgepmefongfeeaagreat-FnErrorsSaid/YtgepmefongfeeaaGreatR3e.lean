/- FnErrors returns true for all arguments. No condition. -/
import Derived.Test.YtgepmefongfeeaaGreatR3d
namespace Go.Proofs.YtgepmefongfeeaaGreat
open Go.Am Go.ChangeShapes Go.WideShapes Go.ChangeAt Go.RowKit
set_option linter.unusedVariables false
theorem Qnc:joinedFacts Tryz.prog 3 Tryz.f3 Rows.fnErrorsSpec Rows.fnErrorsRow=true:=by
 unfold joinedFacts;rw[Qx0,Qx1,Qx2,Qx3];kernel_rfl
end Go.Proofs.YtgepmefongfeeaaGreat

/- FnLines returns true for all arguments. No condition. -/
import Derived.Test.YtplcdmnbgcgdfaaGreatDoorR3d
namespace Go.Proofs.YtplcdmnbgcgdfaaGreatDoor
open Go.Am Go.ChangeShapes Go.WideShapes Go.ChangeAt Go.RowKit
set_option linter.unusedVariables false
theorem Qr9:joinedFacts Tryz.prog 3 Tryz.f3 Rows.fnLinesSpec Rows.fnLinesRow=true:=by
 unfold joinedFacts
 rw[Q13,Q14,Q15,Q16]
 kernel_rfl
end Go.Proofs.YtplcdmnbgcgdfaaGreatDoor

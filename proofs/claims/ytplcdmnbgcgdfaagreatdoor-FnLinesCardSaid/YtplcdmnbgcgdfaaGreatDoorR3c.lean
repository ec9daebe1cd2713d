/- FnLines returns true for all arguments. No condition. -/
import Derived.Test.YtplcdmnbgcgdfaaGreatDoorR3b
namespace Go.Proofs.YtplcdmnbgcgdfaaGreatDoor
open Go.Am Go.ChangeShapes Go.WideShapes Go.ChangeAt Go.RowKit
set_option linter.unusedVariables false
theorem Q15: (Rows.fnLinesRow.recurses==Tryz.prog.recurses 3)=true:=by kernel_rfl
end Go.Proofs.YtplcdmnbgcgdfaaGreatDoor

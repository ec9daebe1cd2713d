/- FnLines returns true for all arguments. No condition. -/
import Derived.Test.YtplcdmnbgcgdfaaGreatDoorR3
namespace Go.Proofs.YtplcdmnbgcgdfaaGreatDoor
open Go.Am Go.ChangeShapes Go.WideShapes Go.ChangeAt Go.RowKit
set_option linter.unusedVariables false
theorem Q17:false=Rows.fnLinesRow.goesBy Tryz.prog:=by kernel_rfl
end Go.Proofs.YtplcdmnbgcgdfaaGreatDoor

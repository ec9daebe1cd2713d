/- FnLines returns true for all arguments. No condition. -/
import Derived.Test.YtplcdmnbgcgdfaaGreatDoorR4a
namespace Go.Proofs.YtplcdmnbgcgdfaaGreatDoor
open Go.Am Go.ChangeShapes Go.WideShapes Go.ChangeAt Go.RowKit
set_option linter.unusedVariables false
theorem Q18:Rows.fnLinesCard.stood.looks=Tryz.prog.looks []:=by kernel_rfl
end Go.Proofs.YtplcdmnbgcgdfaaGreatDoor

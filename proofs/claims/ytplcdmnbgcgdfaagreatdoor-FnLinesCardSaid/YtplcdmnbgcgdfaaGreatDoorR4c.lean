/- FnLines returns true for all arguments. No condition. -/
import Derived.Test.YtplcdmnbgcgdfaaGreatDoorR4b
namespace Go.Proofs.YtplcdmnbgcgdfaaGreatDoor
open Go.Am Go.ChangeShapes Go.WideShapes Go.ChangeAt Go.RowKit
set_option linter.unusedVariables false
theorem Q19:Tryz.prog.funcNamed Rows.fnLinesRow.func=some 3:=by kernel_rfl
theorem Q2a:Tryz.prog.mainIs=some (Rows.fnLinesCard.stood.harness.1,Rows.fnLinesCard.stood.harness.2.toList):=by kernel_rfl
end Go.Proofs.YtplcdmnbgcgdfaaGreatDoor

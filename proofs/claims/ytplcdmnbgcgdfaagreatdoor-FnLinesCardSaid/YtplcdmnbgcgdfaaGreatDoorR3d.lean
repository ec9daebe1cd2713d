/- FnLines returns true for all arguments. No condition. -/
import Derived.Test.YtplcdmnbgcgdfaaGreatDoorR3c
namespace Go.Proofs.YtplcdmnbgcgdfaaGreatDoor
open Go.Am Go.ChangeShapes Go.WideShapes Go.ChangeAt Go.RowKit
set_option linter.unusedVariables false
theorem Q16: (Rows.fnLinesRow.named==Tryz.prog.varsNamed 3)=true:=by kernel_rfl
end Go.Proofs.YtplcdmnbgcgdfaaGreatDoor

/- FnTraces returns true for all arguments. No condition. -/
import Derived.Test.YtahooemkbchdeaaGreatDoorR3c
namespace Go.Proofs.YtahooemkbchdeaaGreatDoor
open Go.Am Go.ChangeShapes Go.WideShapes Go.ChangeAt Go.RowKit
set_option linter.unusedVariables false
theorem fnTraces_cd : (Rows.fnTracesRow.named == Tryz.prog.varsNamed 3) = true := by kernel_rfl
end Go.Proofs.YtahooemkbchdeaaGreatDoor

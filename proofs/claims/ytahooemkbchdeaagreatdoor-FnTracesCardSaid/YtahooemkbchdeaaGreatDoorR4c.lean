/- FnTraces returns true for all arguments. No condition. -/
import Derived.Test.YtahooemkbchdeaaGreatDoorR4b
namespace Go.Proofs.YtahooemkbchdeaaGreatDoor
open Go.Am Go.ChangeShapes Go.WideShapes Go.ChangeAt Go.RowKit
set_option linter.unusedVariables false
theorem fnTraces_kc : Tryz.prog.funcNamed Rows.fnTracesRow.func = some 3 := by kernel_rfl
theorem fnTraces_kd : Tryz.prog.mainIs = some (Rows.fnTracesCard.stood.harness.1, Rows.fnTracesCard.stood.harness.2.toList) := by kernel_rfl
end Go.Proofs.YtahooemkbchdeaaGreatDoor

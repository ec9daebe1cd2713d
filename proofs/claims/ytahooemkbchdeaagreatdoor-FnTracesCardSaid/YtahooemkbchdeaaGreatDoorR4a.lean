/- FnTraces returns true for all arguments. No condition. -/
import Derived.Test.YtahooemkbchdeaaGreatDoorR3
namespace Go.Proofs.YtahooemkbchdeaaGreatDoor
open Go.Am Go.ChangeShapes Go.WideShapes Go.ChangeAt Go.RowKit
set_option linter.unusedVariables false
theorem fnTraces_ka : false = Rows.fnTracesRow.goesBy Tryz.prog := by kernel_rfl
end Go.Proofs.YtahooemkbchdeaaGreatDoor

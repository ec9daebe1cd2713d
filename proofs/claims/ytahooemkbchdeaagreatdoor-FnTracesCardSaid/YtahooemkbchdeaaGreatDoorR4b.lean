/- FnTraces returns true for all arguments. No condition. -/
import Derived.Test.YtahooemkbchdeaaGreatDoorR4a
namespace Go.Proofs.YtahooemkbchdeaaGreatDoor
open Go.Am Go.ChangeShapes Go.WideShapes Go.ChangeAt Go.RowKit
set_option linter.unusedVariables false
theorem fnTraces_kb : Rows.fnTracesCard.stood.looks = Tryz.prog.looks [] := by kernel_rfl
end Go.Proofs.YtahooemkbchdeaaGreatDoor

/- FnTraces returns true for all arguments. No condition. -/
import Derived.Test.YtahooemkbchdeaaGreatDoorR3d
namespace Go.Proofs.YtahooemkbchdeaaGreatDoor
open Go.Am Go.ChangeShapes Go.WideShapes Go.ChangeAt Go.RowKit
set_option linter.unusedVariables false
theorem fnTraces_closed : joinedFacts Tryz.prog 3 Tryz.f3 Rows.fnTracesSpec Rows.fnTracesRow = true := by
 unfold joinedFacts
 rw [fnTraces_ca, fnTraces_cb, fnTraces_cc, fnTraces_cd]
 kernel_rfl
end Go.Proofs.YtahooemkbchdeaaGreatDoor

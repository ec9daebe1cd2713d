/- No condition. -/
import Derived.Test.YtcnklikmapfnmaaGreatDoorCards
import Derived.KernelRfl
set_option linter.all false
namespace Go.Proofs.YtcnklikmapfnmaaGreatDoor
open Go
theorem Qaz:Tryz.prog.funcNamed Rows.fnReplaysRow.func=some 3:=by kernel_rfl
theorem Qa0:Tryz.prog.mainIs=some (Rows.fnReplaysCard.stood.harness.1,Rows.fnReplaysCard.stood.harness.2.toList):=by kernel_rfl
end Go.Proofs.YtcnklikmapfnmaaGreatDoor

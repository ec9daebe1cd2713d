/- No condition. -/
import Derived.Test.YtcnklikmapfnmaaGreatDoorR0
set_option linter.all false
namespace Go.Proofs.YtcnklikmapfnmaaGreatDoor
open Go
theorem Qat:(Rows.fnReplaysRow.inPlace==Tryz.prog.inPlace 3)=true:=by unfold Program.inPlace;rw[clE];kernel_rfl
end Go.Proofs.YtcnklikmapfnmaaGreatDoor

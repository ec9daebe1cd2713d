/- No condition. -/
import Derived.Test.YtcnklikmapfnmaaGreatDoorR0
set_option linter.all false
namespace Go.Proofs.YtcnklikmapfnmaaGreatDoor
open Go
theorem Qaw:(Rows.fnReplaysRow.named==Tryz.prog.varsNamed 3)=true:=by unfold Program.varsNamed;rw[clE];kernel_rfl
end Go.Proofs.YtcnklikmapfnmaaGreatDoor

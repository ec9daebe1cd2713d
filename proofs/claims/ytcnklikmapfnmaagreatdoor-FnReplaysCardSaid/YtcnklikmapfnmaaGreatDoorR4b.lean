/- No condition. -/
import Derived.Test.YtcnklikmapfnmaaGreatDoorCards
import Derived.KernelRfl
set_option linter.all false
namespace Go.Proofs.YtcnklikmapfnmaaGreatDoor
open Go
theorem Qay:Rows.fnReplaysCard.stood.looks=Tryz.prog.looks []:=by kernel_rfl
end Go.Proofs.YtcnklikmapfnmaaGreatDoor

/- No condition. -/
import Derived.Test.YtcnklikmapfnmaaGreatDoorT1
set_option linter.all false
namespace Go.Proofs.YtcnklikmapfnmaaGreatDoor
open Go
theorem tieF6:varsNamedLaterB Tryz.prog (varsId Tryz.prog) ltl=true:=by kernel_rfl
end Go.Proofs.YtcnklikmapfnmaaGreatDoor

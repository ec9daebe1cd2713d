/- No condition. -/
import Derived.Test.YtglbkfajafconaaGreatDoorT1
set_option linter.all false
namespace Go.Proofs.YtglbkfajafconaaGreatDoor
open Go
theorem tieF6:varsNamedLaterB Tryz.prog (varsId Tryz.prog) ltl=true:=by kernel_rfl
end Go.Proofs.YtglbkfajafconaaGreatDoor

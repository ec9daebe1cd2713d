/- No condition. -/
import Derived.Test.YtglbkfajafconaaGreatDoorCards
import Derived.KernelRfl
set_option linter.all false
namespace Go.Proofs.YtglbkfajafconaaGreatDoor
open Go
theorem Zkp:Rows.fnExactReplayTextCard.stood.looks=Tryz.prog.looks []:=by kernel_rfl
end Go.Proofs.YtglbkfajafconaaGreatDoor

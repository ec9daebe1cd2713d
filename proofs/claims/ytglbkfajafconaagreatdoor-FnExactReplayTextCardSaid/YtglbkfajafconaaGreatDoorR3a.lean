/- No condition. -/
import Derived.Test.YtglbkfajafconaaGreatDoorR0
set_option linter.all false
namespace Go.Proofs.YtglbkfajafconaaGreatDoor
open Go
theorem Zkk:(Rows.fnExactReplayTextRow.inPlace==Tryz.prog.inPlace 3)=true:=by unfold Program.inPlace;rw[clE];kernel_rfl
end Go.Proofs.YtglbkfajafconaaGreatDoor

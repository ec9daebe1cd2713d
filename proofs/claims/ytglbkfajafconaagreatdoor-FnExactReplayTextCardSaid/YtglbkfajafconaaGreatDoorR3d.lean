/- No condition. -/
import Derived.Test.YtglbkfajafconaaGreatDoorR0
set_option linter.all false
namespace Go.Proofs.YtglbkfajafconaaGreatDoor
open Go
theorem Zkn:(Rows.fnExactReplayTextRow.named==Tryz.prog.varsNamed 3)=true:=by unfold Program.varsNamed;rw[clE];kernel_rfl
end Go.Proofs.YtglbkfajafconaaGreatDoor

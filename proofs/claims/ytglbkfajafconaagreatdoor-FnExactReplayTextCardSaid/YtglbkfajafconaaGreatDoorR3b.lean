/- No condition. -/
import Derived.Test.YtglbkfajafconaaGreatDoorR0
set_option linter.all false
namespace Go.Proofs.YtglbkfajafconaaGreatDoor
open Go
theorem Zkl:(Rows.fnExactReplayTextRow.unfollowed==Tryz.prog.unfollowed 3)=true:=by unfold Program.unfollowed;rw[clE];kernel_rfl
theorem Zkm:(Rows.fnExactReplayTextRow.recurses==Tryz.prog.recurses 3)=true:=by unfold Program.recurses;rw[<-eq_of_beq Zkl];rfl
end Go.Proofs.YtglbkfajafconaaGreatDoor

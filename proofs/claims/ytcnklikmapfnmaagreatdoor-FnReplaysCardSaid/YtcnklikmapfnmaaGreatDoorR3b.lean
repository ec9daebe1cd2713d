/- No condition. -/
import Derived.Test.YtcnklikmapfnmaaGreatDoorR0
set_option linter.all false
namespace Go.Proofs.YtcnklikmapfnmaaGreatDoor
open Go
theorem Qau:(Rows.fnReplaysRow.unfollowed==Tryz.prog.unfollowed 3)=true:=by unfold Program.unfollowed;rw[clE];kernel_rfl
theorem Qav:(Rows.fnReplaysRow.recurses==Tryz.prog.recurses 3)=true:=by unfold Program.recurses;rw[<-eq_of_beq Qau];rfl
end Go.Proofs.YtcnklikmapfnmaaGreatDoor

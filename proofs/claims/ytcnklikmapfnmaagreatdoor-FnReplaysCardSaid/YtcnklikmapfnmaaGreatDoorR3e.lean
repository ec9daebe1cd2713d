/- No condition. -/
import Derived.Test.YtcnklikmapfnmaaGreatDoorR3a
import Derived.Test.YtcnklikmapfnmaaGreatDoorR3b
import Derived.Test.YtcnklikmapfnmaaGreatDoorR3d
import Derived.JoinedOf
set_option linter.all false
namespace Go.Proofs.YtcnklikmapfnmaaGreatDoor
open Go
theorem Zws:joinedFacts Tryz.prog 3 Tryz.f3 Rows.fnReplaysSpec Rows.fnReplaysRow=true:=by unfold joinedFacts;rw[Qat,Qau,Qav,Qaw];kernel_rfl
end Go.Proofs.YtcnklikmapfnmaaGreatDoor

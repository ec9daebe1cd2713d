/- No condition. -/
import Derived.Test.YtglbkfajafconaaGreatDoorR3a
import Derived.Test.YtglbkfajafconaaGreatDoorR3b
import Derived.Test.YtglbkfajafconaaGreatDoorR3d
import Derived.JoinedOf
set_option linter.all false
namespace Go.Proofs.YtglbkfajafconaaGreatDoor
open Go
theorem Ze0:joinedFacts Tryz.prog 3 Tryz.f3 Rows.fnExactReplayTextSpec Rows.fnExactReplayTextRow=true:=by unfold joinedFacts;rw[Zkk,Zkl,Zkm,Zkn];kernel_rfl
end Go.Proofs.YtglbkfajafconaaGreatDoor

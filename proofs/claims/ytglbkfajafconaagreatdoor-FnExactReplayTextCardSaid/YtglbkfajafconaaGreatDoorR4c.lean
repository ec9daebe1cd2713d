/- No condition. -/
import Derived.Test.YtglbkfajafconaaGreatDoorCards
import Derived.KernelRfl
set_option linter.all false
namespace Go.Proofs.YtglbkfajafconaaGreatDoor
open Go
theorem Zkq:Tryz.prog.funcNamed Rows.fnExactReplayTextRow.func=some 3:=by kernel_rfl
theorem Zkr:Tryz.prog.mainIs=some (Rows.fnExactReplayTextCard.stood.harness.1,Rows.fnExactReplayTextCard.stood.harness.2.toList):=by kernel_rfl
end Go.Proofs.YtglbkfajafconaaGreatDoor

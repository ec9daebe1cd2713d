/- No condition. -/
import Derived.Test.YtglbkfajafconaaGreatDoorT1
set_option linter.all false
namespace Go.Proofs.YtglbkfajafconaaGreatDoor
open Go
theorem tieF7:∀os tape,varsDone Tryz.prog 400 (varsId Tryz.prog) os tape=true:=λ_ _=>by kernel_rfl
end Go.Proofs.YtglbkfajafconaaGreatDoor

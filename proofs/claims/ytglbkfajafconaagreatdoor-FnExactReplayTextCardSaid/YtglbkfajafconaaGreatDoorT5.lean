/- No condition. -/
import Derived.Test.YtglbkfajafconaaGreatDoorT1
set_option linter.all false
namespace Go.Proofs.YtglbkfajafconaaGreatDoor
open Go
theorem tieF9:∀os tape,(DataW.laidRun Tryz.prog (varsWorld Tryz.prog 400 (varsId Tryz.prog) os tape).memory 8 (ltl.map (·.1))).map (λx=>decide x.2.Nodup&&laidRowsB Tryz.prog (varsWorld Tryz.prog 400 (varsId Tryz.prog) os tape).memory x.2)=some true:=λ_ _=>by kernel_rfl
end Go.Proofs.YtglbkfajafconaaGreatDoor

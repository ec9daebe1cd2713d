/- No condition. -/
import Derived.Test.YtcnklikmapfnmaaGreatDoorR2
import Derived.Test.YtcnklikmapfnmaaGreatDoorR3e
set_option linter.all false
namespace Go.Proofs.YtcnklikmapfnmaaGreatDoor
open Go.Am Go.ChangeShapes Go.WideShapes Go.ChangeAt Go.RowKit
theorem Z37:Rows.FnReplaysSaid:=
 OpenClaim.holds_of_wide 3 Tryz.f3 rfl rfl rfl rfl rfl rfl rfl ⟨rfl,rfl,rfl,rfl,rfl⟩ rfl rfl rfl rfl rfl Ab Tryz.func3 Zws
  (pE Ab) (by unfold Func.isWrapper;first|(rw[if_pos (by decide+kernel)];kernel_rfl)|(rw[if_neg (by decide+kernel)];exact⟨rfl,rfl⟩))
  (λos started H enc _=>Zwt os started H enc)
end Go.Proofs.YtcnklikmapfnmaaGreatDoor

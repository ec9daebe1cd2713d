/- No condition. -/
import Derived.Test.YtglbkfajafconaaGreatDoorR2
import Derived.Test.YtglbkfajafconaaGreatDoorR3e
set_option linter.all false
namespace Go.Proofs.YtglbkfajafconaaGreatDoor
open Go.Am Go.ChangeShapes Go.WideShapes Go.ChangeAt Go.RowKit
theorem Zhd:Rows.FnExactReplayTextSaid:=
 OpenClaim.holds_of_wide 3 Tryz.f3 rfl rfl rfl rfl rfl rfl rfl ⟨rfl,rfl,rfl,rfl,rfl⟩ rfl rfl rfl rfl rfl Ab Tryz.func3 Ze0
  (pE Ab) (by unfold Func.isWrapper;first|(rw[if_pos (by decide+kernel)];kernel_rfl)|(rw[if_neg (by decide+kernel)];exact⟨rfl,rfl⟩))
  (λos started H enc _=>Ze1 os started H enc)
end Go.Proofs.YtglbkfajafconaaGreatDoor

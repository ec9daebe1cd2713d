/- FnFairness returns true for all arguments. No condition. -/
import Derived.Test.YtdhchdiikmnmeaaGreatR3
namespace Go.Proofs.YtdhchdiikmnmeaaGreat
open Go.Am Go.ChangeShapes Go.WideShapes Go.ChangeAt Go.RowKit
set_option linter.unusedVariables false
theorem fnFairness_proved:Rows.FnFairnessSaid:=
 OpenClaim.holds_of_wide 3 Tryz.f3 rfl rfl rfl rfl rfl rfl rfl ⟨rfl,rfl,rfl,rfl,rfl⟩ rfl rfl rfl rfl rfl (by kernel_rfl) Tryz.func3 (by kernel_rfl)
  (Ode (by kernel_rfl)) (by unfold Func.isWrapper;first| (rw[if_pos (by decide+kernel)];kernel_rfl)| (rw[if_neg (by decide+kernel)];exact⟨rfl,rfl⟩))
  (fun os started H enc _=>Qee os started H enc)
#print axioms fnFairness_proved
end Go.Proofs.YtdhchdiikmnmeaaGreat

/- FnHandles returns true for all arguments. No condition. -/
import Derived.Test.YtmlpcjbkbnkajaaGreatR3e
namespace Go.Proofs.YtmlpcjbkbnkajaaGreat
open Go.Am Go.ChangeShapes Go.WideShapes Go.ChangeAt Go.RowKit
set_option linter.unusedVariables false
theorem fnHandles_proved:Rows.FnHandlesSaid:=
 OpenClaim.holds_of_wide 3 Tryz.f3 rfl rfl rfl rfl rfl rfl rfl ⟨rfl,rfl,rfl,rfl,rfl⟩ rfl rfl rfl rfl rfl (by kernel_rfl) Tryz.func3 Qga
  (Ode (by kernel_rfl)) (by unfold Func.isWrapper;first| (rw[if_pos (by decide+kernel)];kernel_rfl)| (rw[if_neg (by decide+kernel)];exact⟨rfl,rfl⟩))
  (fun os started H enc _=>Qgb os started H enc)
#print axioms fnHandles_proved
end Go.Proofs.YtmlpcjbkbnkajaaGreat

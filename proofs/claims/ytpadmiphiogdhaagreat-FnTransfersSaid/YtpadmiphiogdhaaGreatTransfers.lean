/- FnTransfers returns true for all arguments. No condition. -/
import Derived.Test.YtpadmiphiogdhaaGreatR3
namespace Go.Proofs.YtpadmiphiogdhaaGreat
open Go.Am Go.ChangeShapes Go.WideShapes Go.ChangeAt Go.RowKit
set_option linter.unusedVariables false
theorem fnTransfers_proved:Rows.FnTransfersSaid:=
 OpenClaim.holds_of_wide 3 Tryz.f3 rfl rfl rfl rfl rfl rfl rfl ⟨rfl,rfl,rfl,rfl,rfl⟩ rfl rfl rfl rfl rfl (by kernel_rfl) Tryz.func3 (by kernel_rfl)
  (of_decide_eq_true (by kernel_rfl)) (by unfold Func.isWrapper;first| (rw[if_pos (by decide+kernel)];kernel_rfl)| (rw[if_neg (by decide+kernel)];exact⟨rfl,rfl⟩))
  (fun os started H enc _=>Z7k os started H enc)
#print axioms fnTransfers_proved
end Go.Proofs.YtpadmiphiogdhaaGreat

/- FnForged returns true for all arguments. No condition. -/
import Derived.Test.YtfhellopliifdaaGreatR3e
set_option linter.all false
namespace Go.Proofs.YtfhellopliifdaaGreat
open Go.Am Go.ChangeShapes Go.WideShapes Go.ChangeAt Go.RowKit
theorem fnForged_proved:Rows.FnForgedSaid:=
 OpenClaim.holds_of_wide 3 Tryz.f3 rfl rfl rfl rfl rfl rfl rfl ⟨rfl,rfl,rfl,rfl,rfl⟩ rfl rfl rfl rfl rfl (by kernel_rfl) Tryz.func3 Qla
  (Ode (by kernel_rfl)) (by unfold Func.isWrapper;first|(rw[if_pos (by decide+kernel)];kernel_rfl)|(rw[if_neg (by decide+kernel)];exact⟨rfl,rfl⟩))
  (λos started H enc _=>Qlb os started H enc)
#print axioms fnForged_proved
end Go.Proofs.YtfhellopliifdaaGreat

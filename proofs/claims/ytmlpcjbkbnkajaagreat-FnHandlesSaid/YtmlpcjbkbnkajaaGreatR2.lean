/- FnHandles returns true for all arguments. No condition. -/
import Derived.Test.YtmlpcjbkbnkajaaGreatR1
namespace Go.Proofs.YtmlpcjbkbnkajaaGreat
open Go.Am Go.ChangeShapes Go.WideShapes Go.ChangeAt Go.RowKit
set_option linter.unusedVariables false
theorem Qqr:ownKnob Tryz.prog.godebug=none:=by kernel_rfl
end Go.Proofs.YtmlpcjbkbnkajaaGreat

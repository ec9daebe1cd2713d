/- FnHandles returns true for all arguments. No condition. -/
import Derived.Test.YtmlpcjbkbnkajaaGreatR3a
namespace Go.Proofs.YtmlpcjbkbnkajaaGreat
open Go.Am Go.ChangeShapes Go.WideShapes Go.ChangeAt Go.RowKit
set_option linter.unusedVariables false
theorem Qtd: (Rows.fnHandlesRow.unfollowed==Tryz.prog.unfollowed 3)=true:=by kernel_rfl
end Go.Proofs.YtmlpcjbkbnkajaaGreat

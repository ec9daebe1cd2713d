/- FnHandles returns true for all arguments. No condition. -/
import Derived.Test.YtmlpcjbkbnkajaaGreatR3b
namespace Go.Proofs.YtmlpcjbkbnkajaaGreat
open Go.Am Go.ChangeShapes Go.WideShapes Go.ChangeAt Go.RowKit
set_option linter.unusedVariables false
theorem Qte: (Rows.fnHandlesRow.recurses==Tryz.prog.recurses 3)=true:=by kernel_rfl
end Go.Proofs.YtmlpcjbkbnkajaaGreat

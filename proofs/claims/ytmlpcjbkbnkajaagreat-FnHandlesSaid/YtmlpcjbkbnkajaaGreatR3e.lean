/- FnHandles returns true for all arguments. No condition. -/
import Derived.Test.YtmlpcjbkbnkajaaGreatR3d
namespace Go.Proofs.YtmlpcjbkbnkajaaGreat
open Go.Am Go.ChangeShapes Go.WideShapes Go.ChangeAt Go.RowKit
set_option linter.unusedVariables false
theorem Qga:joinedFacts Tryz.prog 3 Tryz.f3 Rows.fnHandlesSpec Rows.fnHandlesRow=true:=by
 unfold joinedFacts;rw[Qtc,Qtd,Qte,Qtf];kernel_rfl
end Go.Proofs.YtmlpcjbkbnkajaaGreat

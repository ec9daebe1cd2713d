/- FnForged returns true for all arguments. No condition. -/
import Derived.Test.YtfhellopliifdaaGreatR3d
set_option linter.all false
namespace Go.Proofs.YtfhellopliifdaaGreat
open Go.Am Go.ChangeShapes Go.WideShapes Go.ChangeAt Go.RowKit
theorem Qla:joinedFacts Tryz.prog 3 Tryz.f3 Rows.fnForgedSpec Rows.fnForgedRow=true:=by
 unfold joinedFacts;rw[Qvs,Qvt,Qvu,Qvv];kernel_rfl
end Go.Proofs.YtfhellopliifdaaGreat

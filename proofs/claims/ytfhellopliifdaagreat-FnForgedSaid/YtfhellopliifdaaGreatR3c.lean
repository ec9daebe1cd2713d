/- FnForged returns true for all arguments. No condition. -/
import Derived.Test.YtfhellopliifdaaGreatR3b
set_option linter.all false
namespace Go.Proofs.YtfhellopliifdaaGreat
open Go.Am Go.ChangeShapes Go.WideShapes Go.ChangeAt Go.RowKit
theorem Qvu:(Rows.fnForgedRow.recurses==Tryz.prog.recurses 3)=true:=by kernel_rfl
end Go.Proofs.YtfhellopliifdaaGreat

/- FnForged returns true for all arguments. No condition. -/
import Derived.Test.YtfhellopliifdaaGreatR1
set_option linter.all false
namespace Go.Proofs.YtfhellopliifdaaGreat
open Go.Am Go.ChangeShapes Go.WideShapes Go.ChangeAt Go.RowKit
theorem Qth:ownKnob Tryz.prog.godebug=none:=by kernel_rfl
end Go.Proofs.YtfhellopliifdaaGreat

/- No condition. -/
import Derived.Test.YtahnlnkboamdmaaGreatDoorR3b
set_option linter.all false
namespace Go.Proofs.YtahnlnkboamdmaaGreatDoor
open Go.Am Go.ChangeShapes Go.WideShapes Go.ChangeAt Go.RowKit
theorem Qim:(Rows.fnTopRow.recurses==Tryz.prog.recurses 3)=true:=Ah
end Go.Proofs.YtahnlnkboamdmaaGreatDoor

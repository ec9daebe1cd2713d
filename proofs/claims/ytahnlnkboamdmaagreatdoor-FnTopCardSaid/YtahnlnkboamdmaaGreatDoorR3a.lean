/- No condition. -/
import Derived.Test.YtahnlnkboamdmaaGreatDoorR2
set_option linter.all false
namespace Go.Proofs.YtahnlnkboamdmaaGreatDoor
open Go.Am Go.ChangeShapes Go.WideShapes Go.ChangeAt Go.RowKit
theorem Qik:(Rows.fnTopRow.inPlace==Tryz.prog.inPlace 3)=true:=Ah
end Go.Proofs.YtahnlnkboamdmaaGreatDoor

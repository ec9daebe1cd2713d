/- No condition. -/
import Derived.Test.YtahnlnkboamdmaaGreatDoorR3c
set_option linter.all false
namespace Go.Proofs.YtahnlnkboamdmaaGreatDoor
open Go.Am Go.ChangeShapes Go.WideShapes Go.ChangeAt Go.RowKit
theorem Qin:(Rows.fnTopRow.named==Tryz.prog.varsNamed 3)=true:=Ah
end Go.Proofs.YtahnlnkboamdmaaGreatDoor

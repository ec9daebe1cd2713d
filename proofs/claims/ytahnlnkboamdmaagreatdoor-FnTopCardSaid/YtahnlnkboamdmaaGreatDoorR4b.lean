/- No condition. -/
import Derived.Test.YtahnlnkboamdmaaGreatDoorR4a
set_option linter.all false
namespace Go.Proofs.YtahnlnkboamdmaaGreatDoor
open Go.Am Go.ChangeShapes Go.WideShapes Go.ChangeAt Go.RowKit
theorem Qip:Rows.fnTopCard.stood.looks=Tryz.prog.looks []:=Ah
end Go.Proofs.YtahnlnkboamdmaaGreatDoor

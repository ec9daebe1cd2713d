/- No condition. -/
import Derived.Test.YtahnlnkboamdmaaGreatDoorR4b
set_option linter.all false
namespace Go.Proofs.YtahnlnkboamdmaaGreatDoor
open Go.Am Go.ChangeShapes Go.WideShapes Go.ChangeAt Go.RowKit
theorem Qiq:Tryz.prog.funcNamed Rows.fnTopRow.func=some 3:=Ah
theorem Qir:Tryz.prog.mainIs=some (Rows.fnTopCard.stood.harness.1,Rows.fnTopCard.stood.harness.2.toList):=Ah
end Go.Proofs.YtahnlnkboamdmaaGreatDoor

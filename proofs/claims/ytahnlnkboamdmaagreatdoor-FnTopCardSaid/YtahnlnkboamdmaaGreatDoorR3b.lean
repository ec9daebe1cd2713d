/- No condition. -/
import Derived.Test.YtahnlnkboamdmaaGreatDoorR3a
set_option linter.all false
namespace Go.Proofs.YtahnlnkboamdmaaGreatDoor
open Go.Am Go.ChangeShapes Go.WideShapes Go.ChangeAt Go.RowKit
theorem Qil:(Rows.fnTopRow.unfollowed==Tryz.prog.unfollowed 3)=true:=Ah
end Go.Proofs.YtahnlnkboamdmaaGreatDoor

/- No condition. -/
import Derived.Test.YtahnlnkboamdmaaGreatDoorR3d
set_option linter.all false
namespace Go.Proofs.YtahnlnkboamdmaaGreatDoor
open Go.Am Go.ChangeShapes Go.WideShapes Go.ChangeAt Go.RowKit
theorem Z5z:joinedFacts Tryz.prog 3 Tryz.f3 Rows.fnTopSpec Rows.fnTopRow=true:=by
 unfold joinedFacts;rw[Qik,Qil,Qim,Qin];kernel_rfl
end Go.Proofs.YtahnlnkboamdmaaGreatDoor

/- No condition. -/
import Derived.Test.YtcnklikmapfnmaaGreatDoorR1
set_option linter.all false
namespace Go.Proofs.YtcnklikmapfnmaaGreatDoor
open Go.Am Go.ChangeShapes Go.WideShapes Go.ChangeAt Go.RowKit
set_option maxRecDepth 100000 in
theorem Zwt(os:Os)(started:os.Started)(H:Type)(enc:TypeId×Value->H):
  ReturnsInHanded {} Tryz.checked os 3 .any (λw args=>(Rows.fnReplaysSpec.pre enc Tryz.prog Tryz.f3 [] false w args/\laidMetH Tryz.prog Rows.fnReplaysRow.laid w)/\sizedMet enc Tryz.prog Tryz.f3 (OpenSpec.ofChange Rows.fnReplaysSpec) false w args)
   (Rows.fnReplaysSpec.post enc Tryz.prog Tryz.f3 false true false false):=by
 refine Zli (C:=Tryz.checked) (X:=λw _=>laidMetH Tryz.prog Rows.fnReplaysRow.laid w) (λ_ _ _ hh h=>h.of_heap hh) Z69 started Ab Tryz.func3
  (ChangeSpec.witness_shaped (enc:=enc) (C:=Tryz.checked) (os:=os) (X:=λw _=>laidMetH Tryz.prog Rows.fnReplaysRow.laid w) false (World.laidAll Tryz.prog os Rows.fnReplaysRow.laid) #[.slice none 0 0] 8 (World.laidAll_os _ _ _) (World.shaped_of_ZipB Ab Ab) Ab Ab Ab (Z36 os _)) ?_
 intro W base args ds gs before hval hW hL hsh;exact Z7c Zu1 Qo0 (λH ds gs h h2=>by
  match ds,gs,h,h2 with
  |[d0],[g0],_,_=>rfl) Ab Ab Ab rfl Tryz.underlying4 W base args ds gs before hval (Z7a hL hsh) hW
end Go.Proofs.YtcnklikmapfnmaaGreatDoor

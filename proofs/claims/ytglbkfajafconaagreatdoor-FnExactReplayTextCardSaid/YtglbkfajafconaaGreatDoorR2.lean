/- No condition. -/
import Derived.Test.YtglbkfajafconaaGreatDoorR1
set_option linter.all false
namespace Go.Proofs.YtglbkfajafconaaGreatDoor
open Go.Am Go.ChangeShapes Go.WideShapes Go.ChangeAt Go.RowKit
set_option maxRecDepth 100000 in
theorem Ze1(os:Os)(started:os.Started)(H:Type)(enc:TypeId×Value->H):
  ReturnsInHanded {} Tryz.checked os 3 .any (λw args=>(Rows.fnExactReplayTextSpec.pre enc Tryz.prog Tryz.f3 [] false w args/\laidMetH Tryz.prog Rows.fnExactReplayTextRow.laid w)/\sizedMet enc Tryz.prog Tryz.f3 (OpenSpec.ofChange Rows.fnExactReplayTextSpec) false w args)
   (Rows.fnExactReplayTextSpec.post enc Tryz.prog Tryz.f3 false true false false):=by
 refine Zos (C:=Tryz.checked) (X:=λw _=>laidMetH Tryz.prog Rows.fnExactReplayTextRow.laid w) (λ_ _ _ hh h=>h.of_heap hh) Zje started Ab Tryz.func3
  (ChangeSpec.witness_shaped (enc:=enc) (C:=Tryz.checked) (os:=os) (X:=λw _=>laidMetH Tryz.prog Rows.fnExactReplayTextRow.laid w) false (World.laidAll Tryz.prog os Rows.fnExactReplayTextRow.laid) #[.bool false,.agg #[.int .i64 0,.int .i64 0,.int .i64 0,.int .i64 0,.int .i64 0,.int .i64 0,.int .i64 0,.int .i64 0],.agg #[.int .i64 0,.int .i64 0,.int .i64 0,.int .i64 0,.int .i64 0,.int .i64 0,.int .i64 0,.int .i64 0],.string .empty] 8 (World.laidAll_os _ _ _) (World.shaped_of_ZipB Ab Ab) Ab Ab Ab (Zhc os _)) ?_
 intro W base args ds gs before hval hW hL hsh;exact Z49 Zc0 Qml (λH ds gs h h2=>by
  match ds,gs,h,h2 with
  |[d0,d1,d2,d3],[g0],_,_=>rfl) Ab Ab Ab rfl Tryz.underlying4 W base args ds gs before hval (Zjf hL hsh) hW
end Go.Proofs.YtglbkfajafconaaGreatDoor

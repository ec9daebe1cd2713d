/- FnLines returns true for all arguments. No condition. -/
import Derived.Test.YtplcdmnbgcgdfaaGreatDoorR1
namespace Go.Proofs.YtplcdmnbgcgdfaaGreatDoor
open Go.Am Go.ChangeShapes Go.WideShapes Go.ChangeAt Go.RowKit
set_option linter.unusedVariables false
set_option maxRecDepth 100000 in
theorem Qsa(os:Os)(started:os.Started)(H:Type)(enc:TypeId×Value→H):
  ReturnsInHanded {} Tryz.checked os 3 .any (fun w args=>(Rows.fnLinesSpec.pre enc Tryz.prog Tryz.f3 [] false w args∧laidMetH Tryz.prog Rows.fnLinesRow.laid w)∧sizedMet enc Tryz.prog Tryz.f3 (OpenSpec.ofChange Rows.fnLinesSpec) false w args)
   (Rows.fnLinesSpec.post enc Tryz.prog Tryz.f3 false true false false):=by
 refine Znz (C:=Tryz.checked) (X:=fun w _=>laidMetH Tryz.prog Rows.fnLinesRow.laid w) (fun _ _ _ hh h=>h.of_heap hh) Qz3 started (by kernel_rfl) Tryz.func3
  (ChangeSpec.witness_shaped (enc:=enc) (C:=Tryz.checked) (os:=os) (X:=fun w _=>laidMetH Tryz.prog Rows.fnLinesRow.laid w) false (World.doorLaid Tryz.prog 400 os) #[.slice none 0 0] 8 rfl (World.shaped_of_RefB (by kernel_rfl) (by kernel_rfl)) (by kernel_rfl) (by kernel_rfl) (by kernel_rfl) (Qxw os _)) ?_
 intro W base args ds gs before hval hW hL hsh
 exact Qyc Qoj Q7r rfl (fun H ds h=>by
  match ds,h with
  | [d0],_=>rfl) (by kernel_rfl) (by kernel_rfl) rfl Tryz.underlying4 W base args ds gs before hval (Qz4 hL hsh) hW
end Go.Proofs.YtplcdmnbgcgdfaaGreatDoor

/- No condition. -/
import Derived.Test.YtahnlnkboamdmaaGreatDoorR1
set_option linter.all false
namespace Go.Proofs.YtahnlnkboamdmaaGreatDoor
open Go.Am Go.ChangeShapes Go.WideShapes Go.ChangeAt Go.RowKit
set_option maxRecDepth 100000 in
theorem Z50(os:Os)(started:os.Started)(H:Type)(enc:TypeId×Value->H):
  ReturnsInHanded {} Tryz.checked os 3 .any (λw args=>(Rows.fnTopSpec.pre enc Tryz.prog Tryz.f3 [] false w args/\laidMetH Tryz.prog Rows.fnTopRow.laid w)/\sizedMet enc Tryz.prog Tryz.f3 (OpenSpec.ofChange Rows.fnTopSpec) false w args)
   (Rows.fnTopSpec.post enc Tryz.prog Tryz.f3 false true false false):=by
 refine yf (C:=Tryz.checked) (X:=λw _=>laidMetH Tryz.prog Rows.fnTopRow.laid w) (λ_ _ _ hh h=>h.of_heap hh) Qfu started Ah Tryz.func3
  (ChangeSpec.witness_shaped (enc:=enc) (C:=Tryz.checked) (os:=os) (X:=λw _=>laidMetH Tryz.prog Rows.fnTopRow.laid w) false (World.laidAll Tryz.prog os Rows.fnTopRow.laid) #[.slice none 0 0] 8 (World.laidAll_os _ _ _) (World.shaped_of_ZipB Ah Ah) Ah Ah Ah (Qa0 os _)) ?_
 intro W base args ds gs before hval hW hL hsh;exact Z2s Z2x Qjd (λH ds gs h h2=>by
  match ds,gs,h,h2 with
  |[d0],[g0],_,_=>rfl) Ah Ah Ah rfl Tryz.underlying4 W base args ds gs before hval (Qfv hL hsh) hW
end Go.Proofs.YtahnlnkboamdmaaGreatDoor

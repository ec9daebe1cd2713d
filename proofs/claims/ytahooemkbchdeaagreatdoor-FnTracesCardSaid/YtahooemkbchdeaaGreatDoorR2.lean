/- FnTraces returns true for all arguments. No condition. -/
import Derived.Test.YtahooemkbchdeaaGreatDoorR1
namespace Go.Proofs.YtahooemkbchdeaaGreatDoor
open Go.Am Go.ChangeShapes Go.WideShapes Go.ChangeAt Go.RowKit
set_option linter.unusedVariables false
set_option maxRecDepth 100000 in
theorem Qgs (os : Os) (started : os.Started) (H : Type) (enc : TypeId × Value → H) :
  ReturnsInHanded {} Tryz.checked os 3 .any (fun w args => (Rows.fnTracesSpec.pre enc Tryz.prog Tryz.f3 [] false w args ∧ laidMetH Tryz.prog Rows.fnTracesRow.laid w) ∧ sizedMet enc Tryz.prog Tryz.f3 (OpenSpec.ofChange Rows.fnTracesSpec) false w args)
   (Rows.fnTracesSpec.post enc Tryz.prog Tryz.f3 false true false false) := by
 refine Zkv (C := Tryz.checked) (X := fun w _ => laidMetH Tryz.prog Rows.fnTracesRow.laid w) (fun _ _ _ hh h => h.of_heap hh) Qph started (by kernel_rfl) Tryz.func3
  (ChangeSpec.witness_shaped (enc := enc) (C := Tryz.checked) (os := os) (X := fun w _ => laidMetH Tryz.prog Rows.fnTracesRow.laid w) false (World.laidAll Tryz.prog os Rows.fnTracesRow.laid) #[.slice none 0 0] 8 (World.laidAll_os _ _ _) (World.shaped_of_ZipB (by kernel_rfl) (by kernel_rfl)) (by kernel_rfl) (by kernel_rfl) (by kernel_rfl) (Qm0 os _)) ?_
 intro W base args ds gs before hval hW hL hsh
 exact Qpt Qcl Qx6 rfl (fun H ds h => by
  match ds, h with
  | [d0], _ => rfl) (by kernel_rfl) (by kernel_rfl) rfl Tryz.underlying4 W base args ds gs before hval (Qpi hL hsh) hW
end Go.Proofs.YtahooemkbchdeaaGreatDoor

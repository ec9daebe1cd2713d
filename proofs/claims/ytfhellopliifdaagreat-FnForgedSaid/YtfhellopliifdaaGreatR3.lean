/- FnForged returns true for all arguments. No condition. -/
import Derived.Test.YtfhellopliifdaaGreatR2
set_option linter.all false
namespace Go.Proofs.YtfhellopliifdaaGreat
open Go.Am Go.ChangeShapes Go.WideShapes Go.ChangeAt Go.RowKit
set_option maxRecDepth 100000 in
theorem Qlb(os:Os)(started:os.Started)(H:Type)(enc:TypeId×Value->H):
  ReturnsInHanded {} Tryz.checked os 3 .any (Rows.fnForgedSpec.pre6 enc Tryz.prog Tryz.f3 Rows.fnForgedRow.domain false) (Rows.fnForgedSpec.post enc Tryz.prog Tryz.f3 false true false false):=by
 refine returnsInHanded_of_change (C:=Tryz.checked) Qth started (by kernel_rfl) Tryz.func3
  (ChangeSpec.witness6 (enc:=enc) (C:=Tryz.checked) false ⟨#[],#[.slice none 0 0],[]⟩ 8 (by kernel_rfl) (by kernel_rfl) (by kernel_rfl) (by kernel_rfl)) ?_
 intro W base args ds gs before hval hW _ _;exact Qts Qir Q7a rfl (λH ds h=>by
  match ds,h with
  |[d0],_=>rfl) (by kernel_rfl) (by kernel_rfl) rfl Tryz.underlying4 W base args ds gs before hval trivial hW
end Go.Proofs.YtfhellopliifdaaGreat

/- FnExactErrorName returns true for all arguments. No condition. -/
import Derived.Test.YtnfmhhhnjfpijaaModExactErrorName
import Derived.KernelRfl
namespace Go.Proofs.Ytnfmhhhnjfpijaa
open Go.Am Go.ChangeShapes Go.WideShapes Go.ChangeAt Go.RowKit
set_option linter.unusedVariables false
theorem law_true : ∀ xs : dens [.int .i64], wfA [.int .i64] xs → laws_FnExactErrorName xs.1 = some (true, ()) := by
  intro xs _
  have h : ∃ r, impl_ErrorName xs.1 = some r := by
    unfold impl_ErrorName
    simp only [cond_eq_ite]
    repeat' split
    all_goals exact ⟨_, rfl⟩
  obtain ⟨r, hr⟩ := h
  have hs : spec_ErrorName xs.1 = some r := hr
  unfold laws_FnExactErrorName
  simp [hr, hs]

theorem fnExactErrorName_own : ownKnob Try.prog.godebug = none := by kernel_rfl
set_option maxRecDepth 100000 in
theorem fnExactErrorName_lifted (os : Os) (started : os.Started) (H : Type) (enc : TypeId × Value → H) :
    ReturnsInHanded {} Try.checked os 4 .any (Rows.fnExactErrorNameSpec.pre6 enc Try.prog Try.f4 Rows.fnExactErrorNameRow.domain false) (Rows.fnExactErrorNameSpec.post enc Try.prog Try.f4 false true false false) := by
  refine returnsInHanded_of_change (C := Try.checked) fnExactErrorName_own started (by kernel_rfl) Try.func4
    (ChangeSpec.witness6 (enc := enc) (C := Try.checked) false ⟨#[], #[.int .i64 0], []⟩ 8 (by kernel_rfl) (by kernel_rfl) (by kernel_rfl) (by kernel_rfl)) ?_
  intro W base args ds gs before hval hW _ _
  exact law_contract ok_laws_FnExactErrorName law_true rfl (fun H ds h => by
    match ds, h with
    | [d0], _ => rfl) (by kernel_rfl) (by kernel_rfl) rfl Try.underlying4 W base args ds gs before hval hW
/-- The law returns true for all arguments. -/
theorem fnExactErrorName_proved : Rows.FnExactErrorNameSaid :=
  OpenClaim.holds_of_wide 4 Try.f4 rfl rfl rfl rfl rfl rfl rfl ⟨rfl, rfl, rfl, rfl, rfl⟩ rfl rfl rfl rfl rfl (by kernel_rfl) Try.func4 (by kernel_rfl)
    (of_decide_eq_true (by kernel_rfl)) (by unfold Func.isWrapper; first | (rw [if_pos (by decide +kernel)]; kernel_rfl) | (rw [if_neg (by decide +kernel)]; exact ⟨rfl, rfl⟩))
    (fun os started H enc _ => fnExactErrorName_lifted os started H enc)
#print axioms fnExactErrorName_proved
end Go.Proofs.Ytnfmhhhnjfpijaa

/- FnExactIsPrefixOf returns true for all arguments. No condition. -/
import Derived.Test.YtnfmhhhnjfpijaaModExactIsPrefixOf
import Derived.KernelRfl
namespace Go.Proofs.Ytnfmhhhnjfpijaa
open Go.Am Go.ChangeShapes Go.WideShapes Go.ChangeAt Go.RowKit
set_option linter.unusedVariables false
theorem spec_some (a b : List UInt8) : ∃ r, spec_IsPrefixOf a b = some (r, ()) ∧ impl_IsPrefixOf a b = some (r, ()) := by
  have hg : ∀ t : Bool, t = decide ((a.length : Int) ≤ (b.length : Int)) → (t = true → ((0 : Int) ≤ (0 : Int) ∧ (0 : Int) ≤ (a.length : Int) ∧ (a.length : Int) ≤ b.length)) := by
    intro t ht h
    subst ht
    have := of_decide_eq_true h
    omega
  unfold spec_IsPrefixOf impl_IsPrefixOf strings_HasPrefix stringslite_HasPrefix
  simp only []
  rw [guardP_pos (hg _ rfl)]
  exact ⟨_, rfl, rfl⟩
theorem law_true : ∀ xs : dens [.str, .str], wfA [.str, .str] xs → laws_FnExactIsPrefixOf xs.1 xs.2.1 = some (true, ()) := by
  intro xs _
  obtain ⟨r, h1, h2⟩ := spec_some xs.1 xs.2.1
  unfold laws_FnExactIsPrefixOf
  rw [h1, h2]
  simp only [Option.bind_some, cond_eq_ite]
  simp

theorem fnExactIsPrefixOf_own : ownKnob Try.prog.godebug = none := by kernel_rfl
set_option maxRecDepth 100000 in
theorem fnExactIsPrefixOf_lifted (os : Os) (started : os.Started) (H : Type) (enc : TypeId × Value → H) :
    ReturnsInHanded {} Try.checked os 3 .any (Rows.fnExactIsPrefixOfSpec.pre6 enc Try.prog Try.f3 Rows.fnExactIsPrefixOfRow.domain false) (Rows.fnExactIsPrefixOfSpec.post enc Try.prog Try.f3 false true false false) := by
  refine returnsInHanded_of_change (C := Try.checked) fnExactIsPrefixOf_own started (by kernel_rfl) Try.func3
    (ChangeSpec.witness6 (enc := enc) (C := Try.checked) false ⟨#[], #[.string .empty, .string .empty], []⟩ 8 (by kernel_rfl) (by kernel_rfl) (by kernel_rfl) (by kernel_rfl)) ?_
  intro W base args ds gs before hval hW _ _
  exact law_contract ok_laws_FnExactIsPrefixOf law_true rfl (fun H ds h => by
    match ds, h with
    | [d0, d1], _ => rfl) (by kernel_rfl) (by kernel_rfl) rfl Try.underlying4 W base args ds gs before hval hW
/-- The law returns true for all arguments. -/
theorem fnExactIsPrefixOf_proved : Rows.FnExactIsPrefixOfSaid :=
  OpenClaim.holds_of_wide 3 Try.f3 rfl rfl rfl rfl rfl rfl rfl ⟨rfl, rfl, rfl, rfl, rfl⟩ rfl rfl rfl rfl rfl (by kernel_rfl) Try.func3 (by kernel_rfl)
    (of_decide_eq_true (by kernel_rfl)) (by unfold Func.isWrapper; first | (rw [if_pos (by decide +kernel)]; kernel_rfl) | (rw [if_neg (by decide +kernel)]; exact ⟨rfl, rfl⟩))
    (fun os started H enc _ => fnExactIsPrefixOf_lifted os started H enc)
#print axioms fnExactIsPrefixOf_proved
end Go.Proofs.Ytnfmhhhnjfpijaa

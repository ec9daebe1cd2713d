/- FnExactIsRising returns true for all arguments. No condition. -/
import Derived.Test.YtnfmhhhnjfpijaaModExactIsRising
import Derived.KernelRfl
namespace Go.Proofs.Ytnfmhhhnjfpijaa
open Go.Am Go.ChangeShapes Go.WideShapes Go.ChangeAt Go.RowKit
set_option linter.unusedVariables false
theorem toIntS (a : List Int) (h : a.length ≤ 1048576) : laws_toIntS a = some (a, ()) := by
  unfold laws_toIntS
  simp only []
  rw [guardP_pos (by unfold capN; omega)]
  exact copy_loop (d := (0 : Int)) (L := laws_toIntS_l1) (fun _ _ _ _ => rfl) _ a _ 0 (by omega) (by simp) (by omega) (by simp) (by unfold laws_toIntS_l1_fuel; omega)
theorem eqIntS (a : List Int) (h : a.length ≤ 1048576) : laws_eqIntS a a = some (true, ()) := by
  unfold laws_eqIntS
  rw [bif_false (by simp)]
  exact eq_loop (d := (0 : Int)) (ne := fun x y => x != y) (by simp) (L := laws_eqIntS_l1) (fun _ _ _ _ => rfl) _ a 0 (by omega) (by omega) (by unfold laws_eqIntS_l1_fuel; omega)
theorem rising_loop : ∀ (N : Nat) (a : List Int) (i : Nat), a.length ≤ 1048576 → 0 < i → (i ≤ a.length ∨ i = 1) → a.length - i < N → ∃ r, spec_IsRising_l1 N a i = some r ∧ impl_IsRising_l1 N a i = some r
  | 0, _, _, _, _, _, h => by omega
  | N + 1, a, i, ha, h0, hi, hN => by
    unfold spec_IsRising_l1 impl_IsRising_l1
    by_cases h : i < a.length
    · have e : IntKind.i64.wrap ((i : Int) - 1) = ((i - 1 : Nat) : Int) := by rw [i64_ok (by omega) (by omega)]; omega
      simp only [bif_true (dec_true (show (i : Int) < (a.length : Int) by omega)), e]
      rw [guardP_pos (by omega), guardP_pos (by omega), guardP_pos (by omega), guardP_pos (by omega), i64_succ h (by omega)]
      obtain ⟨r, h1, h2⟩ := rising_loop N a (i + 1) ha (by omega) (.inl h) (by omega)
      rw [h1, h2]
      cases decide (a.getD (i : Int).toNat 0 < a.getD ((i - 1 : Nat) : Int).toNat 0)
      · exact ⟨_, rfl, rfl⟩
      · exact ⟨_, rfl, rfl⟩
    · simp only [bif_false (dec_false (show ¬ (i : Int) < (a.length : Int) by omega))]
      exact ⟨_, rfl, rfl⟩
theorem rising (a : List Int) (h : a.length ≤ 1048576) : ∃ r, spec_IsRising a = some r ∧ impl_IsRising a = some r := by
  obtain ⟨r, h1, h2⟩ := rising_loop (((a.length : Int) - 1).toNat + 1) a 1 h (by omega) (.inr rfl) (by omega)
  exact ⟨r, h1, h2⟩
theorem law_true : ∀ xs : dens [.slice 3 (.int .i64)], wfA [.slice 3 (.int .i64)] xs → laws_FnExactIsRising xs.1 = some (true, ()) := by
  intro xs _
  unfold laws_FnExactIsRising
  by_cases h : ((List.length xs.1 : Nat) : Int) > 1048576
  · rw [bif_true (dec_true h)]
  · rw [bif_false (dec_false h)]
    have hl : List.length xs.1 ≤ 1048576 := by omega
    obtain ⟨r, h1, h2⟩ := rising xs.1 hl
    simp only [toIntS _ hl, Option.bind_some, h1, h2, eqIntS _ hl]
    simp

theorem fnExactIsRising_own : ownKnob Try.prog.godebug = none := by kernel_rfl
set_option maxRecDepth 100000 in
theorem fnExactIsRising_lifted (os : Os) (started : os.Started) (H : Type) (enc : TypeId × Value → H) :
    ReturnsInHanded {} Try.checked os 5 .any (Rows.fnExactIsRisingSpec.pre6 enc Try.prog Try.f5 Rows.fnExactIsRisingRow.domain false) (Rows.fnExactIsRisingSpec.post enc Try.prog Try.f5 false true false false) := by
  refine returnsInHanded_of_change (C := Try.checked) fnExactIsRising_own started (by kernel_rfl) Try.func5
    (ChangeSpec.witness6 (enc := enc) (C := Try.checked) false ⟨#[], #[.slice none 0 0], []⟩ 8 (by kernel_rfl) (by kernel_rfl) (by kernel_rfl) (by kernel_rfl)) ?_
  intro W base args ds gs before hval hW _ _
  exact law_contract ok_laws_FnExactIsRising law_true rfl (fun H ds h => by
    match ds, h with
    | [d0], _ => rfl) (by kernel_rfl) (by kernel_rfl) rfl Try.underlying4 W base args ds gs before hval hW
/-- The law returns true for all arguments. -/
theorem fnExactIsRising_proved : Rows.FnExactIsRisingSaid :=
  OpenClaim.holds_of_wide 5 Try.f5 rfl rfl rfl rfl rfl rfl rfl ⟨rfl, rfl, rfl, rfl, rfl⟩ rfl rfl rfl rfl rfl (by kernel_rfl) Try.func5 (by kernel_rfl)
    (of_decide_eq_true (by kernel_rfl)) (by unfold Func.isWrapper; first | (rw [if_pos (by decide +kernel)]; kernel_rfl) | (rw [if_neg (by decide +kernel)]; exact ⟨rfl, rfl⟩))
    (fun os started H enc _ => fnExactIsRising_lifted os started H enc)
#print axioms fnExactIsRising_proved
end Go.Proofs.Ytnfmhhhnjfpijaa

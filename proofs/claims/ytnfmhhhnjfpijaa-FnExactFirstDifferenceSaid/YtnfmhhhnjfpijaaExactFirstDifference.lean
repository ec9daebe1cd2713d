/- FnExactFirstDifference returns true for all arguments. No condition. -/
import Derived.Test.YtnfmhhhnjfpijaaModExactFirstDifference
import Derived.KernelRfl
namespace Go.Proofs.Ytnfmhhhnjfpijaa
open Go.Am Go.ChangeShapes Go.WideShapes Go.ChangeAt Go.RowKit
set_option linter.unusedVariables false
theorem toStringS (a : List (List UInt8)) (h : a.length ≤ 1048576) : laws_toStringS a = some (a, ()) := by
  unfold laws_toStringS
  simp only []
  rw [guardP_pos (by unfold capN; omega)]
  exact copy_loop (d := ([] : List UInt8)) (L := laws_toStringS_l1) (fun _ _ _ _ => rfl) _ a _ 0 (by omega) (by simp) (by omega) (by simp) (by unfold laws_toStringS_l1_fuel; omega)
theorem eqStringS (a : List (List UInt8)) (h : a.length ≤ 1048576) : laws_eqStringS a a = some (true, ()) := by
  unfold laws_eqStringS
  rw [bif_false (by simp)]
  exact eq_loop (d := ([] : List UInt8)) (ne := fun x y => !(x == y)) (by simp) (L := laws_eqStringS_l1) (fun _ _ _ _ => rfl) _ a 0 (by omega) (by omega) (by unfold laws_eqStringS_l1_fuel; omega)
theorem szStringS (a : List (List UInt8)) (left : Int) (h0 : 0 ≤ left) (h1 : left ≤ 1048576) (ha : a.length ≤ maxLen) (hw : ∀ x ∈ a, x.length ≤ maxLen) :
    ∃ r, laws_szStringS a left = some (r, ()) ∧ r ≤ left ∧ (0 ≤ r → a.length ≤ left) := by
  have hm := maxLen_le
  unfold laws_szStringS
  simp only []
  rw [i64_ok (by omega) (by omega)]
  by_cases h : left - (a.length : Int) < 0
  · rw [bif_true (dec_true h)]
    exact ⟨-1, rfl, by omega, by omega⟩
  · rw [bif_false (dec_false h)]
    obtain ⟨r, g1, g2, g3⟩ := sz_loop (d := ([] : List UInt8)) (f := fun x => (x.length : Int)) (ok := fun x => x.length ≤ maxLen) (fun x hx => ⟨by omega, by omega⟩) (L := laws_szStringS_l1) (fun _ _ _ _ => rfl)
      (laws_szStringS_l1_fuel a (left - (a.length : Int)) 0) a (left - (a.length : Int)) 0 hw (by omega) (by omega) (by omega) (by omega) (by unfold laws_szStringS_l1_fuel; omega)
    exact ⟨r, g1, by omega, fun hr => by omega⟩

theorem diff_loop : ∀ (N M : Nat) (a b : List (List UInt8)) (i : Nat), a.length ≤ 1048576 → b.length ≤ 1048576 → i ≤ a.length → i ≤ b.length → a.length - i < N → min a.length b.length - i < M →
    ∃ r, spec_FirstDifference_l1 N a b i = some (r, ()) ∧ impl_FirstDifference_l1 M a b (min (a.length : Int) (b.length : Int)) i = some (r, ())
  | 0, _, _, _, _, _, _, _, _, h, _ => by omega
  | _, 0, _, _, _, _, _, _, _, _, h => by omega
  | N + 1, M + 1, a, b, i, ha, hb, hi, hj, hN, hM => by
    unfold spec_FirstDifference_l1 impl_FirstDifference_l1
    by_cases h : i < a.length ∧ i < b.length
    · have e1 : (decide ((i : Int) < (a.length : Int)) && decide ((i : Int) < (b.length : Int))) = true := by
        simp; omega
      simp only [bif_true e1, bif_true (dec_true (show (i : Int) < min (a.length : Int) (b.length : Int) by omega))]
      rw [guardP_pos (by omega), guardP_pos (by omega), guardP_pos (by omega), guardP_pos (by omega), i64_succ h.1 (by omega)]
      obtain ⟨r, h1, h2⟩ := diff_loop N M a b (i + 1) ha hb h.1 h.2 (by omega) (by omega)
      rw [h1, h2]
      cases !(a.getD (i : Int).toNat ([] : List UInt8) == b.getD (i : Int).toNat ([] : List UInt8))
      · exact ⟨_, rfl, rfl⟩
      · exact ⟨_, rfl, rfl⟩
    · have e1 : (decide ((i : Int) < (a.length : Int)) && decide ((i : Int) < (b.length : Int))) = false := by
        simp; omega
      simp only [bif_false e1, bif_false (dec_false (show ¬ (i : Int) < min (a.length : Int) (b.length : Int) by omega))]
      cases ((a.length : Int) == (b.length : Int))
      · exact ⟨_, rfl, rfl⟩
      · exact ⟨_, rfl, rfl⟩
theorem law_true : ∀ xs : dens [.slice 9 .str, .slice 9 .str], wfA [.slice 9 .str, .slice 9 .str] xs → laws_FnExactFirstDifference xs.1 xs.2.1 = some (true, ()) := by
  intro xs hw
  obtain ⟨⟨hw1, hw2⟩, ⟨hw3, hw4⟩, _⟩ := hw
  unfold laws_FnExactFirstDifference
  obtain ⟨r, h1, h2, h3⟩ := szStringS xs.1 1048576 (by omega) (by omega) hw1 hw2
  rw [h1]
  simp only [Option.bind_some]
  by_cases h : r < 0
  · rw [bif_true (dec_true h)]
  · rw [bif_false (dec_false h)]
    obtain ⟨q, g1, g2, g3⟩ := szStringS xs.2.1 r (by omega) h2 hw3 hw4
    rw [g1]
    simp only [Option.bind_some]
    by_cases h' : q < 0
    · rw [bif_true (dec_true h')]
    · rw [bif_false (dec_false h')]
      have ha : List.length xs.1 ≤ 1048576 := by have := h3 (by omega); omega
      have hb : List.length xs.2.1 ≤ 1048576 := by have := g3 (by omega); omega
      obtain ⟨m, k1, k2⟩ := diff_loop ((((List.length xs.1 : Nat) : Int) - 0).toNat + 1) ((min ((List.length xs.1 : Nat) : Int) ((List.length xs.2.1 : Nat) : Int) - 0).toNat + 1) xs.1 xs.2.1 0 ha hb (by omega) (by omega) (by omega) (by omega)
      have e1 : spec_FirstDifference xs.1 xs.2.1 = some (m, ()) := k1
      have e2 : impl_FirstDifference xs.1 xs.2.1 = some (m, ()) := k2
      simp only [toStringS _ ha, toStringS _ hb, Option.bind_some, e1, e2, eqStringS _ ha, eqStringS _ hb]
      simp

theorem fnExactFirstDifference_own : ownKnob Try.prog.godebug = none := by kernel_rfl
set_option maxRecDepth 100000 in
theorem fnExactFirstDifference_lifted (os : Os) (started : os.Started) (H : Type) (enc : TypeId × Value → H) :
    ReturnsInHanded {} Try.checked os 6 .any (Rows.fnExactFirstDifferenceSpec.pre6 enc Try.prog Try.f6 Rows.fnExactFirstDifferenceRow.domain false) (Rows.fnExactFirstDifferenceSpec.post enc Try.prog Try.f6 false true false false) := by
  refine returnsInHanded_of_change (C := Try.checked) fnExactFirstDifference_own started (by kernel_rfl) Try.func6
    (ChangeSpec.witness6 (enc := enc) (C := Try.checked) false ⟨#[], #[.slice none 0 0, .slice none 0 0], []⟩ 8 (by kernel_rfl) (by kernel_rfl) (by kernel_rfl) (by kernel_rfl)) ?_
  intro W base args ds gs before hval hW _ _
  exact law_contract ok_laws_FnExactFirstDifference law_true rfl (fun H ds h => by
    match ds, h with
    | [d0, d1], _ => rfl) (by kernel_rfl) (by kernel_rfl) rfl Try.underlying4 W base args ds gs before hval hW
/-- The law returns true for all arguments. -/
theorem fnExactFirstDifference_proved : Rows.FnExactFirstDifferenceSaid :=
  OpenClaim.holds_of_wide 6 Try.f6 rfl rfl rfl rfl rfl rfl rfl ⟨rfl, rfl, rfl, rfl, rfl⟩ rfl rfl rfl rfl rfl (by kernel_rfl) Try.func6 (by kernel_rfl)
    (of_decide_eq_true (by kernel_rfl)) (by unfold Func.isWrapper; first | (rw [if_pos (by decide +kernel)]; kernel_rfl) | (rw [if_neg (by decide +kernel)]; exact ⟨rfl, rfl⟩))
    (fun os started H enc _ => fnExactFirstDifference_lifted os started H enc)
#print axioms fnExactFirstDifference_proved
end Go.Proofs.Ytnfmhhhnjfpijaa

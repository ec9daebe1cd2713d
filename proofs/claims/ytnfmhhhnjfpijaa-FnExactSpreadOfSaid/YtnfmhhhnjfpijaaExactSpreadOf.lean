/- FnExactSpreadOf returns true for all arguments. No condition. -/
import Derived.Test.YtnfmhhhnjfpijaaModExactSpreadOf
import Derived.KernelRfl
namespace Go.Proofs.Ytnfmhhhnjfpijaa
open Go.Am Go.ChangeShapes Go.WideShapes Go.ChangeAt Go.RowKit
set_option linter.unusedVariables false
theorem toIntS (a : List Int) (h : a.length ≤ 1048576) : laws_toIntS a = some (a, ()) := by
  unfold laws_toIntS
  simp only []
  rw [guardP_pos (by unfold capN; omega)]
  exact copy_loop (d := (0 : Int)) (L := laws_toIntS_l1) (fun _ _ _ _ => rfl) _ a _ 0 (by omega) (by simp) (by omega) (by simp) (by unfold laws_toIntS_l1_fuel; omega)
theorem eqIntS (a : List Int) (h : a.length ≤ 1048576) : laws_eqIntS a a = some (true, ()) := by
  unfold laws_eqIntS
  rw [bif_false (by simp)]
  exact eq_loop (d := (0 : Int)) (ne := fun x y => x != y) (by simp) (L := laws_eqIntS_l1) (fun _ _ _ _ => rfl) _ a 0 (by omega) (by omega) (by unfold laws_eqIntS_l1_fuel; omega)
theorem turns_loop : ∀ (N M : Nat) (l : List Int) (id n : Int) (i : Nat), l.length ≤ 1048576 → i ≤ l.length → 0 ≤ n → n + (l.length - i) ≤ 1048576 → l.length - i < N → l.length - i < M →
    ∃ r, spec_TurnsOf_l1 N l id n i = some (r, ()) ∧ impl_TurnsOf_l1 M id n l l.length i = some (r, ()) ∧ 0 ≤ r
  | 0, _, _, _, _, _, _, _, _, _, h, _ => by omega
  | _, 0, _, _, _, _, _, _, _, _, _, h => by omega
  | N + 1, M + 1, l, id, n, i, hl, hi, h0, hn, hN, hM => by
    unfold spec_TurnsOf_l1 impl_TurnsOf_l1
    by_cases h : i < l.length
    · simp only [bif_true (dec_true (show (i : Int) < (l.length : Int) by omega))]
      rw [guardP_pos (by omega), guardP_pos (by omega)]
      cases (l.getD (i : Int).toNat (0 : Int) == id)
      · obtain ⟨r, h1, h2, h3⟩ := turns_loop N M l id n (i + 1) hl h h0 (by omega) (by omega) (by omega)
        refine ⟨r, ?_, ?_, h3⟩
        · unfold spec_TurnsOf_j1
          rw [bif_false rfl, i64_succ h (by omega)]
          exact h1
        · unfold impl_one
          rw [bif_false rfl, Option.bind_some, i64_succ h (by omega), Int.add_zero, i64_ok (by omega) (by omega)]
          exact h2
      · obtain ⟨r, h1, h2, h3⟩ := turns_loop N M l id (n + 1) (i + 1) hl h (by omega) (by omega) (by omega) (by omega)
        refine ⟨r, ?_, ?_, h3⟩
        · unfold spec_TurnsOf_j1
          rw [bif_true rfl, i64_succ h (by omega), i64_ok (n := n + 1) (by omega) (by omega)]
          exact h1
        · unfold impl_one
          rw [bif_true rfl, Option.bind_some, i64_succ h (by omega), i64_ok (n := n + 1) (by omega) (by omega)]
          exact h2
    · simp only [bif_false (dec_false (show ¬ (i : Int) < (l.length : Int) by omega))]
      exact ⟨n, rfl, rfl, h0⟩
theorem turns (l : List Int) (id : Int) (hl : l.length ≤ 1048576) : ∃ r, spec_TurnsOf l id = some (r, ()) ∧ impl_TurnsOf l id = some (r, ()) ∧ 0 ≤ r := by
  obtain ⟨r, h1, h2, h3⟩ := turns_loop (((l.length : Int) - 0).toNat + 1) (((l.length : Int) - 0).toNat + 1) l id 0 0 hl (by omega) (by omega) (by omega) (by omega) (by omega)
  exact ⟨r, h1, h2, h3⟩
theorem spread_loop : ∀ (N M : Nat) (l ids : List Int) (low high : Int) (i : Nat), l.length ≤ 1048576 → ids.length ≤ 1048576 → 0 < i → i ≤ ids.length → ids.length - i < N → ids.length - i < M →
    ∃ r, spec_SpreadOf_l1 N l ids low high i = some (r, ()) ∧ impl_SpreadOf_l1 M l low high ids ids.length i = some (r, ())
  | 0, _, _, _, _, _, _, _, _, _, _, h, _ => by omega
  | _, 0, _, _, _, _, _, _, _, _, _, _, h => by omega
  | N + 1, M + 1, l, ids, low, high, i, hl, hids, hp, hi, hN, hM => by
    unfold spec_SpreadOf_l1 impl_SpreadOf_l1
    by_cases h : i < ids.length
    · simp only [bif_true (dec_true (show (i : Int) < (ids.length : Int) by omega))]
      obtain ⟨t, t1, t2, t3⟩ := turns l (ids.getD (i : Int).toNat (0 : Int)) hl
      rw [guardP_pos (by omega), guardP_pos (by omega), t1, t2]
      simp only [Option.bind_some]
      obtain ⟨r, h1, h2⟩ := spread_loop N M l ids (min low t) (max high t) (i + 1) hl hids (by omega) h (by omega) (by omega)
      refine ⟨r, ?_, by rw [i64_succ h (by omega)]; exact h2⟩
      unfold spec_SpreadOf_j1
      have e0 : ((i : Int) == (0 : Int)) = false := by simp; omega
      rw [e0, Bool.false_or, i64_succ h (by omega)]
      by_cases hc : t < low
      · rw [bif_true (dec_true hc)]
        rw [show min low t = t by omega] at h1
        exact h1
      · rw [bif_false (dec_false hc)]
        rw [show min low t = low by omega] at h1
        exact h1
    · simp only [bif_false (dec_false (show ¬ (i : Int) < (ids.length : Int) by omega))]
      exact ⟨_, rfl, rfl⟩
theorem spread (l ids : List Int) (hl : l.length ≤ 1048576) (hids : ids.length ≤ 1048576) : ∃ r, spec_SpreadOf l ids = some (r, ()) ∧ impl_SpreadOf l ids = some (r, ()) := by
  unfold spec_SpreadOf impl_SpreadOf
  have ef : spec_SpreadOf_l1_fuel l ids 0 0 0 = ids.length + 1 := by
    show ((ids.length : Int) - 0).toNat + 1 = _
    omega
  rw [ef]
  by_cases h : ids.length = 0
  · have e0 : ((ids.length : Int) == (0 : Int)) = true := by simp [h]
    rw [bif_true e0]
    unfold spec_SpreadOf_l1
    rw [bif_false (dec_false (show ¬ (0 : Int) < (ids.length : Int) by omega))]
    exact ⟨0, rfl, rfl⟩
  · have e0 : ((ids.length : Int) == (0 : Int)) = false := beq_eq_false_iff_ne.2 (by omega)
    rw [bif_false e0, guardP_pos (by omega), guardP_pos (by omega)]
    obtain ⟨t, t1, t2, t3⟩ := turns l (ids.getD (0 : Int).toNat (0 : Int)) hl
    rw [t2]
    simp only [Option.bind_some]
    obtain ⟨r, h1, h2⟩ := spread_loop ids.length ids.length l ids t t 1 hl hids (by omega) (by omega) (by omega) (by omega)
    have eg : impl_SpreadOf_l1_fuel l t t ids ids.length 0 = ids.length + 1 := by
      show ((ids.length : Int) - 0).toNat + 1 = _
      omega
    have e1 : IntKind.i64.wrap ((0 : Int) + 1) = ((1 : Nat) : Int) := i64_succ (i := 0) (m := 1) (by omega) (by omega)
    refine ⟨r, ?_, ?_⟩
    · unfold spec_SpreadOf_l1
      rw [bif_true (dec_true (show (0 : Int) < (ids.length : Int) by omega)), guardP_pos (by omega), t1]
      simp only [Option.bind_some]
      unfold spec_SpreadOf_j1
      rw [bif_true (by simp), e1, show max (0 : Int) t = t by omega]
      exact h1
    · rw [eg]
      unfold impl_SpreadOf_l1
      rw [bif_true (dec_true (show (0 : Int) < (ids.length : Int) by omega)), guardP_pos (by omega), t2]
      simp only [Option.bind_some]
      rw [e1, Int.min_self, Int.max_self]
      exact h2
theorem law_true : ∀ xs : dens [.slice 3 (.int .i64), .slice 3 (.int .i64)], wfA [.slice 3 (.int .i64), .slice 3 (.int .i64)] xs → laws_FnExactSpreadOf xs.1 xs.2.1 = some (true, ()) := by
  intro xs _
  unfold laws_FnExactSpreadOf
  by_cases h : ((List.length xs.1 : Nat) : Int) > 1048576
  · rw [bif_true (dec_true h)]
  · rw [bif_false (dec_false h)]
    by_cases h' : ((List.length xs.2.1 : Nat) : Int) > 1048576
    · rw [bif_true (dec_true h')]
    · rw [bif_false (dec_false h')]
      have hl : List.length xs.1 ≤ 1048576 := by omega
      have hl' : List.length xs.2.1 ≤ 1048576 := by omega
      obtain ⟨r, h1, h2⟩ := spread xs.1 xs.2.1 hl hl'
      simp only [toIntS _ hl, toIntS _ hl', Option.bind_some, h1, h2, eqIntS _ hl, eqIntS _ hl']
      simp

theorem fnExactSpreadOf_own : ownKnob Try.prog.godebug = none := by kernel_rfl
set_option maxRecDepth 100000 in
theorem fnExactSpreadOf_lifted (os : Os) (started : os.Started) (H : Type) (enc : TypeId × Value → H) :
    ReturnsInHanded {} Try.checked os 8 .any (Rows.fnExactSpreadOfSpec.pre6 enc Try.prog Try.f8 Rows.fnExactSpreadOfRow.domain false) (Rows.fnExactSpreadOfSpec.post enc Try.prog Try.f8 false true false false) := by
  refine returnsInHanded_of_change (C := Try.checked) fnExactSpreadOf_own started (by kernel_rfl) Try.func8
    (ChangeSpec.witness6 (enc := enc) (C := Try.checked) false ⟨#[], #[.slice none 0 0, .slice none 0 0], []⟩ 8 (by kernel_rfl) (by kernel_rfl) (by kernel_rfl) (by kernel_rfl)) ?_
  intro W base args ds gs before hval hW _ _
  exact law_contract ok_laws_FnExactSpreadOf law_true rfl (fun H ds h => by
    match ds, h with
    | [d0, d1], _ => rfl) (by kernel_rfl) (by kernel_rfl) rfl Try.underlying4 W base args ds gs before hval hW
/-- The law returns true for all arguments. -/
theorem fnExactSpreadOf_proved : Rows.FnExactSpreadOfSaid :=
  OpenClaim.holds_of_wide 8 Try.f8 rfl rfl rfl rfl rfl rfl rfl ⟨rfl, rfl, rfl, rfl, rfl⟩ rfl rfl rfl rfl rfl (by kernel_rfl) Try.func8 (by kernel_rfl)
    (of_decide_eq_true (by kernel_rfl)) (by unfold Func.isWrapper; first | (rw [if_pos (by decide +kernel)]; kernel_rfl) | (rw [if_neg (by decide +kernel)]; exact ⟨rfl, rfl⟩))
    (fun os started H enc _ => fnExactSpreadOf_lifted os started H enc)
#print axioms fnExactSpreadOf_proved
end Go.Proofs.Ytnfmhhhnjfpijaa

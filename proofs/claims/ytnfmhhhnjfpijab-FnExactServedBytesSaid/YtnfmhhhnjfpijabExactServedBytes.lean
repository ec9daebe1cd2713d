/- FnExactServedBytes returns true for all arguments. No condition. -/
import Derived.Test.YtnfmhhhnjfpijabModExactServedBytes
import Derived.KernelRfl
namespace Go.Proofs.Ytnfmhhhnjfpijab
open Go.Am Go.ChangeShapes Go.WideShapes Go.ChangeAt Go.RowKit
set_option linter.unusedVariables false
theorem toFrameS (a : List TFrame) (h : a.length ≤ 1048576) : laws_toFrameS a = some (a, ()) := by
  unfold laws_toFrameS
  simp only []
  rw [guardP_pos (by unfold capN; omega)]
  exact copy_loop_by (d := zFrame) (g := laws_toFrame) (ok := fun _ => True) (fun _ _ => rfl) (L := laws_toFrameS_l1) (fun _ _ _ _ => rfl) _ a _ 0 (by simp) (by omega) (by simp) (by omega) (by simp) (by unfold laws_toFrameS_l1_fuel; omega)
theorem eqFrame (x : TFrame) : laws_eqFrame x x = some (true, ()) := by
  unfold laws_eqFrame
  simp
theorem eqFrameS (a : List TFrame) (h : a.length ≤ 1048576) : laws_eqFrameS a a = some (true, ()) := by
  unfold laws_eqFrameS
  rw [bif_false (by simp)]
  exact eq_loop_by (d := zFrame) (g := laws_eqFrame) eqFrame (L := laws_eqFrameS_l1) (fun _ _ _ _ => rfl) _ a 0 (by omega) (by omega) (by unfold laws_eqFrameS_l1_fuel; omega)
theorem szFrame (x : TFrame) (left : Int) (hx : wf tyFrame x) (h0 : 0 ≤ left) (h1 : left ≤ 9223372036854775807) : ∃ r, laws_szFrame x left = some (r, ()) ∧ r ≤ left ∧ (0 ≤ r → (x.2.2.2.1.length : Int) ≤ left - r) := by
  have hm := maxLen_le
  have hl : x.2.2.2.1.length ≤ maxLen := hx.2.2.2.1
  unfold laws_szFrame
  simp only []
  rw [i64_ok (by omega) (by omega)]
  by_cases h : left - (x.2.2.2.1.length : Int) < 0
  · rw [bif_true (dec_true h)]
    exact ⟨-1, rfl, by omega, by omega⟩
  · rw [bif_false (dec_false h)]
    exact ⟨_, rfl, by omega, by omega⟩
theorem szFrameS (a : List TFrame) (left : Int) (h0 : 0 ≤ left) (h1 : left ≤ 1048576) (ha : a.length ≤ maxLen) (hw : ∀ x ∈ a, wf tyFrame x) :
    ∃ r, laws_szFrameS a left = some (r, ()) ∧ r ≤ left ∧ (0 ≤ r → a.length ≤ left) := by
  have hm := maxLen_le
  unfold laws_szFrameS
  simp only []
  rw [i64_ok (by omega) (by omega)]
  by_cases h : left - (a.length : Int) < 0
  · rw [bif_true (dec_true h)]
    exact ⟨-1, rfl, by omega, by omega⟩
  · rw [bif_false (dec_false h)]
    obtain ⟨r, g1, g2, g3⟩ := sz_loop_by (d := zFrame) (g := laws_szFrame) (m := fun x => (x.2.2.2.1.length : Int)) (ok := fun x => wf tyFrame x) szFrame (L := laws_szFrameS_l1) (fun _ _ _ _ => rfl)
      (laws_szFrameS_l1_fuel a (left - (a.length : Int)) 0) a (left - (a.length : Int)) 0 hw (by omega) (by omega) (by omega) (by omega) (by unfold laws_szFrameS_l1_fuel; omega)
    exact ⟨r, g1, by omega, fun hr => by omega⟩
theorem served_loop : ∀ (N : Nat) (l : List TFrame) (id n : Int) (i : Nat), l.length ≤ 1048576 → i ≤ l.length → l.length - i < N →
    ∃ r, spec_ServedBytes_l1 N l id n i = some (r, ()) ∧ impl_ServedBytes_l1 N id n l l.length i = some (r, ())
  | 0, _, _, _, _, _, _, h => by omega
  | N + 1, l, id, n, i, hl, hi, hN => by
    unfold spec_ServedBytes_l1 impl_ServedBytes_l1
    by_cases h : i < l.length
    · simp only [bif_true (dec_true (show (i : Int) < (l.length : Int) by omega))]
      rw [guardP_pos (by omega), guardP_pos (fun _ => by omega), guardP_pos (by omega), guardP_pos (by omega), i64_succ h (by omega)]
      unfold spec_ServedBytes_j1
      rw [i64_succ h (by omega)]
      cases ((l.getD (i : Int).toNat zFrame).1 == (8 : Int)) && ((l.getD (i : Int).toNat zFrame).2.1 == id)
      · exact served_loop N l id n (i + 1) hl h (by omega)
      · exact served_loop N l id _ (i + 1) hl h (by omega)
    · simp only [bif_false (dec_false (show ¬ (i : Int) < (l.length : Int) by omega))]
      exact ⟨n, rfl, rfl⟩
theorem served (l : List TFrame) (id : Int) (hl : l.length ≤ 1048576) : ∃ r, spec_ServedBytes l id = some (r, ()) ∧ impl_ServedBytes l id = some (r, ()) := by
  obtain ⟨r, h1, h2⟩ := served_loop (((l.length : Int) - 0).toNat + 1) l id 0 0 hl (by omega) (by omega)
  exact ⟨r, h1, h2⟩
theorem law_true : ∀ xs : dens e_laws_FnExactServedBytes.args, wfA e_laws_FnExactServedBytes.args xs → laws_FnExactServedBytes xs.1 xs.2.1 = some (true, ()) := by
  intro xs hw
  obtain ⟨⟨hw1, hw2⟩, _⟩ := hw
  unfold laws_FnExactServedBytes
  obtain ⟨r, h1, h2, h3⟩ := szFrameS xs.1 1048576 (by omega) (by omega) hw1 hw2
  rw [h1]
  simp only [Option.bind_some]
  by_cases h : r < 0
  · rw [bif_true (dec_true h)]
  · rw [bif_false (dec_false h)]
    have hl : List.length xs.1 ≤ 1048576 := by have := h3 (by omega); omega
    obtain ⟨m, e1, e2⟩ := served xs.1 xs.2.1 hl
    simp only [toFrameS _ hl, Option.bind_some, e1, e2, eqFrameS _ hl]
    simp

theorem fnExactServedBytes_own : ownKnob Try.prog.godebug = none := by kernel_rfl
set_option maxRecDepth 100000 in
theorem fnExactServedBytes_lifted (os : Os) (started : os.Started) (H : Type) (enc : TypeId × Value → H) :
    ReturnsInHanded {} Try.checked os 3 .any (Rows.fnExactServedBytesSpec.pre6 enc Try.prog Try.f3 Rows.fnExactServedBytesRow.domain false) (Rows.fnExactServedBytesSpec.post enc Try.prog Try.f3 false true false false) := by
  refine returnsInHanded_of_change (C := Try.checked) fnExactServedBytes_own started (by kernel_rfl) Try.func3
    (ChangeSpec.witness6 (enc := enc) (C := Try.checked) false ⟨#[], #[.slice none 0 0, .int .i64 0], []⟩ 8 (by kernel_rfl) (by kernel_rfl) (by kernel_rfl) (by kernel_rfl)) ?_
  intro W base args ds gs before hval hW _ _
  exact law_contract ok_laws_FnExactServedBytes law_true rfl (fun H ds h => by
    match ds, h with
    | [d0, d1], _ => rfl) (by kernel_rfl) (by kernel_rfl) rfl Try.underlying4 W base args ds gs before hval hW
/-- The law returns true for all arguments. -/
theorem fnExactServedBytes_proved : Rows.FnExactServedBytesSaid :=
  OpenClaim.holds_of_wide 3 Try.f3 rfl rfl rfl rfl rfl rfl rfl ⟨rfl, rfl, rfl, rfl, rfl⟩ rfl rfl rfl rfl rfl (by kernel_rfl) Try.func3 (by kernel_rfl)
    (of_decide_eq_true (by kernel_rfl)) (by unfold Func.isWrapper; first | (rw [if_pos (by decide +kernel)]; kernel_rfl) | (rw [if_neg (by decide +kernel)]; exact ⟨rfl, rfl⟩))
    (fun os started H enc _ => fnExactServedBytes_lifted os started H enc)
#print axioms fnExactServedBytes_proved
end Go.Proofs.Ytnfmhhhnjfpijab

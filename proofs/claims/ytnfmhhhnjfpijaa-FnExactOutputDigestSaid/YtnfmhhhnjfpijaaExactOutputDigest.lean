/- FnExactOutputDigest returns true for all arguments. No condition. -/
import Derived.Test.YtnfmhhhnjfpijaaModExactOutputDigest
import Derived.KernelRfl
namespace Go.Proofs.Ytnfmhhhnjfpijaa
open Go.Am Go.ChangeShapes Go.WideShapes Go.ChangeAt Go.RowKit
set_option linter.unusedVariables false
theorem toStringS (a : List (List UInt8)) (h : a.length ≤ 1048576) : laws_toStringS a = some (a, ()) := by
  unfold laws_toStringS
  simp only []
  rw [guardP_pos (by unfold capN; omega)]
  exact copy_loop (d := ([] : List UInt8)) (L := laws_toStringS_l1) (fun _ _ _ _ => rfl) _ a _ 0 (by omega) (by simp) (by omega) (by simp) (by unfold laws_toStringS_l1_fuel; omega)
theorem eqStringS (a : List (List UInt8)) (h : a.length ≤ 1048576) : laws_eqStringS a a = some (true, ()) := by
  unfold laws_eqStringS
  rw [bif_false (by simp)]
  exact eq_loop (d := ([] : List UInt8)) (ne := fun x y => !(x == y)) (by simp) (L := laws_eqStringS_l1) (fun _ _ _ _ => rfl) _ a 0 (by omega) (by omega) (by unfold laws_eqStringS_l1_fuel; omega)
theorem szStringS (a : List (List UInt8)) (left : Int) (h0 : 0 ≤ left) (h1 : left ≤ 1048576) (ha : a.length ≤ maxLen) (hw : ∀ x ∈ a, x.length ≤ maxLen) :
    ∃ r, laws_szStringS a left = some (r, ()) ∧ r ≤ left ∧ (0 ≤ r → a.length ≤ left ∧ (a.map fun x => (x.length : Int)).sum ≤ left) := by
  have hm := maxLen_le
  unfold laws_szStringS
  simp only []
  rw [i64_ok (by omega) (by omega)]
  by_cases h : left - (a.length : Int) < 0
  · rw [bif_true (dec_true h)]
    exact ⟨-1, rfl, by omega, by omega⟩
  · rw [bif_false (dec_false h)]
    obtain ⟨r, g1, g2, g3⟩ := sz_loop (d := ([] : List UInt8)) (f := fun x => (x.length : Int)) (ok := fun x => x.length ≤ maxLen) (fun x hx => ⟨by omega, by omega⟩) (L := laws_szStringS_l1) (fun _ _ _ _ => rfl)
      (laws_szStringS_l1_fuel a (left - (a.length : Int)) 0) a (left - (a.length : Int)) 0 hw (by omega) (by omega) (by omega) (by omega) (by unfold laws_szStringS_l1_fuel; omega)
    exact ⟨r, g1, by omega, fun hr => ⟨by omega, by have := g3 hr; simp only [List.drop_zero] at this; omega⟩⟩

/-- a running digest: the same on both sides -/
theorem mix_loop : ∀ (N : Nat) (h : Int) (s : List UInt8) (i : Nat), s.length ≤ 9223372036854775807 → i ≤ s.length → s.length - i < N → ∃ r, spec_l33Mix_l1 N h s i = some (r, ()) ∧ impl_mixed_l1 N h s i = some (r, ())
  | 0, _, _, _, _, _, h => by omega
  | N + 1, h, s, i, hs, hi, hN => by
    unfold spec_l33Mix_l1 impl_mixed_l1
    by_cases hl : i < s.length
    · simp only [bif_true (dec_true (show (i : Int) < (s.length : Int) by omega))]
      rw [guardP_pos (by omega), guardP_pos (by decide), guardP_pos (by omega), guardP_pos (by decide), i64_succ hl hs, Int.mul_comm 131 h]
      exact mix_loop N _ s (i + 1) hs hl (by omega)
    · simp only [bif_false (dec_false (show ¬ (i : Int) < (s.length : Int) by omega))]
      exact ⟨_, rfl, rfl⟩
theorem mix (h : Int) (s : List UInt8) (hs : s.length ≤ 9223372036854775807) : ∃ r, spec_l33Mix h s = some (r, ()) ∧ impl_mixed h s = some (r, ()) :=
  mix_loop ((s.length : Int) - 0).toNat.succ h s 0 hs (by omega) (by omega)
theorem digest_loop : ∀ (N : Nat) (h : Int) (l : List (List UInt8)) (i : Nat), l.length ≤ 9223372036854775807 → (∀ x ∈ l, x.length ≤ 1048576) → i ≤ l.length → l.length - i < N →
    ∃ r, spec_OutputDigest_l1 N l h i = some (r, ()) ∧ impl_OutputDigest_l1 N h l (l.length : Int) i = some (r, ())
  | 0, _, _, _, _, _, _, h => by omega
  | N + 1, h, l, i, hs, hx, hi, hN => by
    unfold spec_OutputDigest_l1 impl_OutputDigest_l1
    by_cases hl : i < l.length
    · have e : l.getD (i : Int).toNat ([] : List UInt8) = l[i] := by simp [List.getD, List.getElem?_eq_getElem hl]
      have hb : l[i].length ≤ 1048576 := hx _ (by simp)
      have hcap : l[i].length + ([10] : List UInt8).length ≤ capS := by unfold capS; simp; omega
      obtain ⟨m, h1, h2⟩ := mix h (l[i] ++ [10]) (by simp; omega)
      simp only [bif_true (dec_true (show (i : Int) < (l.length : Int) by omega)), e]
      rw [guardP_pos (by omega), guardP_pos hcap, guardP_pos (by omega), guardP_pos hcap, i64_succ hl hs, h1, h2]
      simp only [Option.bind_some]
      exact digest_loop N _ l (i + 1) hs hx hl (by omega)
    · simp only [bif_false (dec_false (show ¬ (i : Int) < (l.length : Int) by omega))]
      exact ⟨_, rfl, rfl⟩
theorem len_le_sum {l : List (List UInt8)} {m : Int} (h : (l.map fun x => (x.length : Int)).sum ≤ m) : ∀ x ∈ l, (x.length : Int) ≤ m := by
  have pos : ∀ l : List (List UInt8), 0 ≤ (l.map fun x => (x.length : Int)).sum := by
    intro l
    induction l with
    | nil => simp
    | cons x l ih => simp only [List.map_cons, List.sum_cons]; omega
  induction l generalizing m with
  | nil => simp
  | cons y l ih =>
    simp only [List.map_cons, List.sum_cons] at h
    have := pos l
    intro x hx
    rcases List.mem_cons.1 hx with rfl | hx
    · omega
    · have := ih (m := m) (by omega) x hx; exact this
theorem law_true : ∀ xs : dens [.slice 9 .str], wfA [.slice 9 .str] xs → laws_FnExactOutputDigest xs.1 = some (true, ()) := by
  intro xs hw
  obtain ⟨⟨hw1, hw2⟩, _⟩ := hw
  unfold laws_FnExactOutputDigest
  obtain ⟨r, h1, h2, h3⟩ := szStringS xs.1 1048576 (by omega) (by omega) hw1 hw2
  rw [h1]
  simp only [Option.bind_some]
  by_cases h : r < 0
  · rw [bif_true (dec_true h)]
  · rw [bif_false (dec_false h)]
    obtain ⟨h4, h5⟩ := h3 (by omega)
    have hl : List.length xs.1 ≤ 1048576 := by omega
    have hx := len_le_sum h5
    obtain ⟨m, g1, g2⟩ := digest_loop (((List.length xs.1 : Nat) : Int) - 0).toNat.succ 1 xs.1 0 (by omega) (fun x hx' => by have := hx x hx'; omega) (by omega) (by omega)
    have e1 : spec_OutputDigest xs.1 = some (m, ()) := g1
    have e2 : impl_OutputDigest xs.1 = some (m, ()) := g2
    simp only [toStringS _ hl, Option.bind_some, e1, e2, eqStringS _ hl]
    simp

theorem fnExactOutputDigest_own : ownKnob Try.prog.godebug = none := by kernel_rfl
set_option maxRecDepth 100000 in
theorem fnExactOutputDigest_lifted (os : Os) (started : os.Started) (H : Type) (enc : TypeId × Value → H) :
    ReturnsInHanded {} Try.checked os 7 .any (Rows.fnExactOutputDigestSpec.pre6 enc Try.prog Try.f7 Rows.fnExactOutputDigestRow.domain false) (Rows.fnExactOutputDigestSpec.post enc Try.prog Try.f7 false true false false) := by
  refine returnsInHanded_of_change (C := Try.checked) fnExactOutputDigest_own started (by kernel_rfl) Try.func7
    (ChangeSpec.witness6 (enc := enc) (C := Try.checked) false ⟨#[], #[.slice none 0 0], []⟩ 8 (by kernel_rfl) (by kernel_rfl) (by kernel_rfl) (by kernel_rfl)) ?_
  intro W base args ds gs before hval hW _ _
  exact law_contract ok_laws_FnExactOutputDigest law_true rfl (fun H ds h => by
    match ds, h with
    | [d0], _ => rfl) (by kernel_rfl) (by kernel_rfl) rfl Try.underlying4 W base args ds gs before hval hW
/-- The law returns true for all arguments. -/
theorem fnExactOutputDigest_proved : Rows.FnExactOutputDigestSaid :=
  OpenClaim.holds_of_wide 7 Try.f7 rfl rfl rfl rfl rfl rfl rfl ⟨rfl, rfl, rfl, rfl, rfl⟩ rfl rfl rfl rfl rfl (by kernel_rfl) Try.func7 (by kernel_rfl)
    (of_decide_eq_true (by kernel_rfl)) (by unfold Func.isWrapper; first | (rw [if_pos (by decide +kernel)]; kernel_rfl) | (rw [if_neg (by decide +kernel)]; exact ⟨rfl, rfl⟩))
    (fun os started H enc _ => fnExactOutputDigest_lifted os started H enc)
#print axioms fnExactOutputDigest_proved
end Go.Proofs.Ytnfmhhhnjfpijaa

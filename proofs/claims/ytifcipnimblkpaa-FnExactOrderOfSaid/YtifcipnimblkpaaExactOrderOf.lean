/- FnExactOrderOf returns true for all arguments. No condition. -/
import Derived.Test.YtifcipnimblkpaaModExactOrderOf
import Derived.KernelRfl
namespace Go.Proofs.Ytifcipnimblkpaa
open Go.Am Go.ChangeShapes Go.WideShapes Go.ChangeAt Go.RowKit
set_option linter.unusedVariables false
theorem sz_laws_szFrame (a : TFrame) (hw : wf (tyFrame) a) : SzOK (fun left => laws_szFrame a left) (small 1048576 (tyFrame) a) := by
  exact SzOK.imp (SzOK.len a.2.2.2.1 hw.2.2.2.1 SzOK.last) (fun h => ⟨trivial, ⟨trivial, ⟨trivial, ⟨h.1, ⟨trivial, ⟨trivial, ⟨trivial, ⟨trivial, ⟨trivial, trivial⟩⟩⟩⟩⟩⟩⟩⟩⟩)

theorem sz_laws_szFrameS (a : List TFrame) (hw : wf (.slice 69 (tyFrame)) a) : SzOK (fun left => laws_szFrameS a left) (small 1048576 (.slice 69 (tyFrame)) a) := by
  exact SzOK.len a hw.1 (SzOK.loop (d := zFrame) (g := laws_szFrame) (L := laws_szFrameS_l1) (fun _ _ _ _ => rfl) (fuel := laws_szFrameS_l1_fuel) (fun a left => by unfold laws_szFrameS_l1_fuel; omega) hw.1 (fun x hx => sz_laws_szFrame x (hw.2 x hx)))

theorem to_laws_toFrame (a : TFrame) (h : small 1048576 (tyFrame) a) : laws_toFrame a = some (a, ()) := by
  rfl

theorem to_laws_toFrameS (a : List TFrame) (h : small 1048576 (.slice 69 (tyFrame)) a) : laws_toFrameS a = some (a, ()) := by
  unfold laws_toFrameS
  have hl := h.1
  simp only []
  rw [guardP_pos (by unfold capN; omega)]
  exact copy_loop_by (d := zFrame) (g := laws_toFrame) (ok := small 1048576 (tyFrame)) to_laws_toFrame (L := laws_toFrameS_l1) (fun _ _ _ _ => rfl) _ a _ 0 h.2 (by omega) (by simp) (by omega) (by simp) (by unfold laws_toFrameS_l1_fuel; omega)

theorem eq_laws_eqIntS (a : List Int) (h : small 1048576 (.slice 3 (.int .i64)) a) : laws_eqIntS a a = some (true, ()) := by
  unfold laws_eqIntS
  have hl := h.1
  rw [bif_false (by simp)]
  exact eq_loop (d := (0 : Int)) (ne := fun x y => x != y) (by simp) (L := laws_eqIntS_l1) (fun _ _ _ _ => rfl) _ a 0 (by omega) (by omega) (by unfold laws_eqIntS_l1_fuel; omega)

theorem eq_laws_eqFrame (a : TFrame) (h : small 1048576 (tyFrame) a) : laws_eqFrame a a = some (true, ()) := by
  unfold laws_eqFrame
  simp only [bne_self_eq_false, beq_self_eq_true, Bool.not_true, cond_false]

theorem eq_laws_eqFrameS (a : List TFrame) (h : small 1048576 (.slice 70 (tyFrame)) a) : laws_eqFrameS a a = some (true, ()) := by
  unfold laws_eqFrameS
  have hl := h.1
  rw [bif_false (by simp)]
  exact eq_loop_in (d := zFrame) (g := laws_eqFrame) (L := laws_eqFrameS_l1) (fun _ _ _ _ => rfl) _ a 0 (fun x hx => eq_laws_eqFrame x (h.2 x hx)) (by omega) (by omega) (by unfold laws_eqFrameS_l1_fuel; omega)

theorem app_one {α : Type} (pre : List α) (x : α) (rest : List α) : pre ++ x :: rest = pre ++ [x] ++ rest := by simp
theorem getD_app {α : Type} (pre : List α) (x : α) (rest : List α) (d : α) : (pre ++ x :: rest).getD ((pre.length : Int).toNat) d = x := by
  rw [show (pre.length : Int).toNat = pre.length from rfl, List.getD_eq_getElem?_getD, List.getElem?_append_right (Nat.le_refl _)]
  simp
/-! marks: what is written into a slice is there -/
def iota (k : Int) : Nat → List Int
  | 0 => []
  | n + 1 => k :: iota (k + 1) n
theorem iota_len : ∀ (n : Nat) (k : Int), (iota k n).length = n
  | 0, _ => rfl
  | n + 1, k => by simp [iota, iota_len n]
theorem mark_ints : ∀ (m N : Nat) (pre rest : List Int) (k : Int), rest.length = m → m < N → (pre ++ rest).length ≤ 1048576 → 0 ≤ k → k + m ≤ 100000000 →
    laws_markIntS_l1 N (pre ++ rest) k (pre.length : Int) = some ((k + m, ()), pre ++ iota k m)
  | m, 0, _, _, _, _, h, _, _, _ => by omega
  | 0, N + 1, pre, rest, k, hr, _, hl, h0, h1 => by
    have : rest = [] := List.eq_nil_of_length_eq_zero hr
    subst this
    unfold laws_markIntS_l1
    rw [bif_false (dec_false (by simp))]
    simp [iota]
  | m + 1, N + 1, pre, [], k, hr, _, _, _, _ => by simp at hr
  | m + 1, N + 1, pre, x :: rest, k, hr, hN, hl, h0, h1 => by
    have hlen : (pre ++ x :: rest).length = pre.length + rest.length + 1 := by simp; omega
    simp only [List.length_cons] at hr
    unfold laws_markIntS_l1
    rw [bif_true (dec_true (by rw [hlen]; omega)), guardP_pos (by rw [hlen]; omega), i64_ok (by omega) (by omega), i64_succ (m := pre.length + 1) (by omega) (by rw [hlen] at hl; omega)]
    have e : (pre ++ x :: rest).set (pre.length : Int).toNat k = (pre ++ [k]) ++ rest := by
      rw [show (pre.length : Int).toNat = pre.length from rfl, List.set_append_right _ _ (Nat.le_refl _)]
      simp
    have e2 : ((pre.length + 1 : Nat) : Int) = (((pre ++ [k]).length : Nat) : Int) := by simp
    rw [e, e2, mark_ints m N (pre ++ [k]) rest (k + 1) (by omega) (by omega) (by simp; rw [hlen] at hl; omega) (by omega) (by omega)]
    simp only [iota, List.append_assoc, List.cons_append, List.nil_append]
    congr 3
    omega
theorem held_ints : ∀ (m N : Nat) (pre : List Int) (k : Int), m < N → (pre ++ iota k m).length ≤ 1048576 → 0 ≤ k → k + m ≤ 100000000 →
    laws_heldIntS_l1 N (pre ++ iota k m) k (pre.length : Int) = some (k + m, ())
  | m, 0, _, _, h, _, _, _ => by omega
  | 0, N + 1, pre, k, _, hl, h0, h1 => by
    unfold laws_heldIntS_l1
    rw [bif_false (dec_false (by simp [iota]))]
    simp
  | m + 1, N + 1, pre, k, hN, hl, h0, h1 => by
    have hlen : (pre ++ iota k (m + 1)).length = pre.length + m + 1 := by simp [iota_len]; omega
    unfold laws_heldIntS_l1
    have hg : (pre ++ iota k (m + 1)).getD (pre.length : Int).toNat 0 = k := by
      rw [show (pre.length : Int).toNat = pre.length from rfl, List.getD_eq_getElem?_getD, List.getElem?_append_right (Nat.le_refl _)]
      simp [iota]
    rw [bif_true (dec_true (by rw [hlen]; omega)), guardP_pos (by rw [hlen]; omega), hg, bif_false (by simp), i64_ok (by omega) (by omega), i64_succ (m := pre.length + 1) (by omega) (by rw [hlen] at hl; omega)]
    have e : pre ++ iota k (m + 1) = (pre ++ [k]) ++ iota (k + 1) m := by simp [iota]
    have e2 : ((pre.length + 1 : Nat) : Int) = (((pre ++ [k]).length : Nat) : Int) := by simp
    rw [e, e2, held_ints m N (pre ++ [k]) (k + 1) (by omega) (by rw [← e]; exact hl) (by omega) (by omega)]
    congr 2
    omega
theorem markI (l : List Int) (h : l.length ≤ 1048576) : laws_markIntS l 1 = some ((1 + (l.length : Int), ()), iota 1 l.length) := by
  unfold laws_markIntS
  exact mark_ints l.length _ [] l 1 rfl (by unfold laws_markIntS_l1_fuel; omega) (by simpa using h) (by omega) (by omega)
theorem heldI (n : Nat) (h : n ≤ 1048576) : laws_heldIntS (iota 1 n) 1 = some (1 + (n : Int), ()) := by
  unfold laws_heldIntS
  exact held_ints n _ [] 1 (by unfold laws_heldIntS_l1_fuel; rw [iota_len]; omega) (by simpa [iota_len] using h) (by omega) (by omega)
theorem mark_text_loop : ∀ (N : Nat) (k : Int) (out : List UInt8), 0 ≤ k → k < N → k + out.length ≤ 1000000000 → ∃ r, laws_markText_l1 N k out = some (r, ())
  | 0, k, _, h0, h1, _ => by omega
  | N + 1, k, out, h0, h1, h2 => by
    unfold laws_markText_l1
    by_cases h : k > 0
    · have hd : Int.tdiv k 10 = k / 10 := Int.tdiv_eq_ediv_of_nonneg h0
      rw [bif_true (dec_true h), guardP_pos (by decide)]
      simp only []
      rw [guardP_pos (by unfold capS bytesOf; simp; omega), guardP_pos (by decide), hd, i64_ok (by omega) (by omega)]
      exact mark_text_loop N (k / 10) _ (by omega) (by omega) (by unfold bytesOf; simp; omega)
    · rw [bif_false (dec_false h), guardP_pos (by unfold capS; simp; omega)]
      exact ⟨_, rfl⟩
theorem mark_text (k : Int) (h1 : k ≤ 900000000) : ∃ r, laws_markText k = some (r, ()) := by
  unfold laws_markText
  by_cases h : k ≤ 0
  · rw [bif_true (dec_true h)]; exact ⟨_, rfl⟩
  · rw [bif_false (dec_false h)]
    exact mark_text_loop _ k [] (by omega) (by unfold laws_markText_l1_fuel; omega) (by simp; omega)
def FinM {β : Type} (x : Option ((Int × Unit) × β)) : Prop := ∃ r l2, x = some ((r, ()), l2) ∧ 0 ≤ r
theorem fin_set {α β : Type} {m : Nat} {v : List α} {f : List α → Option ((Int × Unit) × β)} (h : v.length = m) (k : ∀ x : List α, x.length = m → FinM (f x)) : FinM (let x := v; f x) := k v h
theorem fin_int {β : Type} {v v' : Int} {f : Int → Option ((Int × Unit) × β)} (h : v = v') (k : FinM (f v')) : FinM (let x := v; f x) := by rw [h]; exact k
theorem fin_guard {β : Type} {p : Prop} [Decidable p] {x : Option ((Int × Unit) × β)} (h : p) (k : FinM x) : FinM (guardP p x) := by rw [guardP_pos h]; exact k
theorem fin_bind {α β : Type} {y : Option α} {f : α → Option ((Int × Unit) × β)} (h : ∃ t, y = some t) (k : ∀ t, FinM (f t)) : FinM (Option.bind y f) := by
  obtain ⟨t, ht⟩ := h
  rw [ht]; exact k t
theorem w_one (x : Int) (h0 : 0 ≤ x) (h1 : x ≤ 900000000) : IntKind.i64.wrap (x + 1) = x + 1 := i64_ok (by omega) (by omega)
theorem mark_frames : ∀ (N : Nat) (l : List TFrame) (k : Int) (i : Nat), l.length ≤ 1048576 → i ≤ l.length → l.length - i < N → 0 ≤ k → k + 9 * ((l.length - i : Nat) : Int) ≤ 100000000 →
    FinM (laws_markFrameS_l1 N l k (i : Int))
  | 0, _, _, _, _, _, h, _, _ => by omega
  | N + 1, l, k, i, hl, hi, hN, h0, h1 => by
    unfold laws_markFrameS_l1
    by_cases h : i < l.length
    · rw [bif_true (dec_true (by omega)), w_one k (by omega) (by omega), w_one (k + 1) (by omega) (by omega)]
      refine fin_guard (by omega) ?_
      extract_lets a2 a3 t3 a4 t4 t5 t6
      have e2 : a2.length = l.length := List.length_set
      have e3 : a3.length = l.length := by rw [← e2]; exact List.length_set
      have e4 : a4.length = l.length := by rw [← e3]; exact List.length_set
      have f3 : t3 = k + 1 + 1 := rfl
      have f4 : t4 = k + 1 + 1 + 1 + 1 := by show IntKind.i64.wrap (IntKind.i64.wrap (t3 + 1) + 1) = _; rw [f3, w_one (k + 1 + 1) (by omega) (by omega), w_one (k + 1 + 1 + 1) (by omega) (by omega)]
      have f5 : t5 = k + 1 + 1 + 1 + 1 + 1 + 1 := by show IntKind.i64.wrap (IntKind.i64.wrap (t4 + 1) + 1) = _; rw [f4, w_one (k + 1 + 1 + 1 + 1) (by omega) (by omega), w_one (k + 1 + 1 + 1 + 1 + 1) (by omega) (by omega)]
      have f6 : t6 = k + 1 + 1 + 1 + 1 + 1 + 1 + 1 + 1 := by show IntKind.i64.wrap (IntKind.i64.wrap (t5 + 1) + 1) = _; rw [f5, w_one (k + 1 + 1 + 1 + 1 + 1 + 1) (by omega) (by omega), w_one (k + 1 + 1 + 1 + 1 + 1 + 1 + 1) (by omega) (by omega)]
      clear_value a2 a3 a4 t3 t4 t5 t6
      refine fin_guard (by omega) (fin_guard (by omega) ?_)
      refine fin_bind (let ⟨t, ht⟩ := mark_text (IntKind.i64.wrap (t3 + 1)) (by rw [f3, w_one (k + 1 + 1) (by omega) (by omega)]; omega); ⟨_, ht⟩) fun t => fin_guard (by omega) ?_
      extract_lets a5 a6 a7 a8 a9
      have e5 : a5.length = l.length := by rw [← e4]; exact List.length_set
      have e6 : a6.length = l.length := by rw [← e5]; exact List.length_set
      have e7 : a7.length = l.length := by rw [← e6]; exact List.length_set
      have e8 : a8.length = l.length := by rw [← e7]; exact List.length_set
      have e9 : a9.length = l.length := by rw [← e8]; exact List.length_set
      clear_value a5 a6 a7 a8 a9
      refine fin_guard (by decide) (fin_guard (by omega) (fin_guard (by omega) (fin_guard (by omega) (fin_guard (by omega) (fin_guard (by decide) (fin_guard (by omega) ?_))))))
      rw [f6, w_one (k + 1 + 1 + 1 + 1 + 1 + 1 + 1 + 1) (by omega) (by omega), i64_succ h (by omega)]
      exact mark_frames N _ _ (i + 1) (by simp only [List.length_set]; omega) (by simp only [List.length_set]; omega) (by simp only [List.length_set]; omega) (by omega) (by simp only [List.length_set]; omega)
    · rw [bif_false (dec_false (by omega))]
      exact ⟨k, l, rfl, h0⟩
theorem markF (l : List TFrame) (h : l.length ≤ 1048576) : ∃ r l2, laws_markFrameS l 1 = some ((r, ()), l2) ∧ 0 ≤ r := by
  unfold laws_markFrameS
  exact mark_frames _ l 1 0 h (by omega) (by unfold laws_markFrameS_l1_fuel; omega) (by omega) (by omega)
def ids : List TFrame → List Int
  | [] => []
  | f :: r => if f.1 = 8 then f.2.1 :: ids r else ids r
theorem ids_len : ∀ l : List TFrame, (ids l).length ≤ l.length
  | [] => by simp [ids]
  | f :: r => by have := ids_len r; unfold ids; split <;> simp <;> omega
theorem order_spec : ∀ (N : Nat) (pre rest : List TFrame) (out : List Int), (pre ++ rest).length ≤ 1048576 → out.length + rest.length ≤ 1048576 → rest.length < N →
    spec_OrderOf_l1 N (pre ++ rest) out (pre.length : Int) = some (out ++ ids rest, ())
  | 0, _, _, _, _, _, h => by omega
  | N + 1, pre, [], out, _, _, _ => by
    unfold spec_OrderOf_l1
    rw [bif_false (dec_false (by simp))]
    simp [ids]
  | N + 1, pre, f :: rest, out, h1, h2, h3 => by
    unfold spec_OrderOf_l1
    simp only [List.length_append, List.length_cons] at h1 h2 h3
    rw [bif_true (dec_true (by simp; omega)), guardP_pos (by simp; omega)]
    simp only [getD_app, spec_OrderOf_j1]
    have e := app_one pre f rest
    by_cases h : f.1 = 8
    · rw [bif_true (by simp [h]), guardP_pos (by simp; omega), guardP_pos (by unfold capN; simp; omega), i64_succ (m := (pre ++ f :: rest).length) (by simp) (by simp; omega)]
      have := order_spec N (pre ++ [f]) rest (out ++ [f.2.1]) (by simp; omega) (by simp; omega) (by omega)
      rw [← e] at this
      simp only [List.length_append, List.length_cons, List.length_nil, Nat.zero_add] at this
      rw [this]
      simp [ids, h]
    · rw [bif_false (by simpa using h), i64_succ (m := (pre ++ f :: rest).length) (by simp) (by simp; omega)]
      have := order_spec N (pre ++ [f]) rest out (by simp; omega) (by omega) (by omega)
      rw [← e] at this
      simp only [List.length_append, List.length_cons, List.length_nil, Nat.zero_add] at this
      rw [this]
      simp [ids, h]
theorem order_impl : ∀ (N : Nat) (pre rest : List TFrame) (out : List Int), (pre ++ rest).length ≤ 1048576 → out.length + rest.length ≤ 1048576 → rest.length < N →
    impl_OrderOf_l1 N out (pre ++ rest) ((pre ++ rest).length : Int) (pre.length : Int) = some (out ++ ids rest, ())
  | 0, _, _, _, _, _, h => by omega
  | N + 1, pre, [], out, _, _, _ => by
    unfold impl_OrderOf_l1
    rw [bif_false (dec_false (by simp))]
    simp [ids]
  | N + 1, pre, f :: rest, out, h1, h2, h3 => by
    unfold impl_OrderOf_l1
    simp only [List.length_append, List.length_cons] at h1 h2 h3
    rw [bif_true (dec_true (by simp; omega)), guardP_pos (by simp; omega)]
    simp only [getD_app]
    have e := app_one pre f rest
    by_cases h : f.1 = 8
    · rw [bif_true (by simp [h]), guardP_pos (by unfold capN; simp; omega), i64_succ (m := (pre ++ f :: rest).length) (by simp) (by simp; omega)]
      have := order_impl N (pre ++ [f]) rest (out ++ [f.2.1]) (by simp; omega) (by simp; omega) (by omega)
      rw [← e] at this
      simp only [List.length_append, List.length_cons, List.length_nil, Nat.zero_add] at this ⊢
      rw [this]
      simp [ids, h]
    · rw [bif_false (by simpa using h), i64_succ (m := (pre ++ f :: rest).length) (by simp) (by simp; omega)]
      have := order_impl N (pre ++ [f]) rest out (by simp; omega) (by omega) (by omega)
      rw [← e] at this
      simp only [List.length_append, List.length_cons, List.length_nil, Nat.zero_add] at this ⊢
      rw [this]
      simp [ids, h]
theorem orders (l : List TFrame) (h : l.length ≤ 1048576) : spec_OrderOf l = some (ids l, ()) ∧ impl_OrderOf l = some (ids l, ()) := by
  constructor
  · have := order_spec (((l.length : Int) - 0).toNat + 1) [] l [] (by simpa using h) (by simpa using h) (by omega)
    simpa [spec_OrderOf, spec_OrderOf_l1_fuel] using this
  · have := order_impl (((l.length : Int) - 0).toNat + 1) [] l [] (by simpa using h) (by simpa using h) (by omega)
    simpa [impl_OrderOf, impl_OrderOf_l1_fuel] using this
theorem eqIntS_refl (a : List Int) (h : a.length ≤ 1048576) : laws_eqIntS a a = some (true, ()) := by
  unfold laws_eqIntS
  rw [bif_false (by simp)]
  exact eq_loop (d := (0 : Int)) (ne := fun x y => x != y) (by simp) (L := laws_eqIntS_l1) (fun _ _ _ _ => rfl) _ a 0 (by omega) (by omega) (by unfold laws_eqIntS_l1_fuel; omega)
theorem law_true : ∀ xs : dens e_laws_FnExactOrderOf.args, wfA e_laws_FnExactOrderOf.args xs → laws_FnExactOrderOf xs.1 = some (true, ()) := by
  intro ⟨l, _⟩ ⟨hw, _⟩
  obtain ⟨r, hr, _, hs⟩ := sz_laws_szFrameS l hw 1048576 (by omega) (by omega)
  unfold laws_FnExactOrderOf
  simp only [hr, Option.bind_some]
  by_cases h0 : r < 0
  · rw [bif_true (dec_true h0)]
  · rw [bif_false (dec_false h0)]
    have hs := hs (by omega)
    have hl : l.length ≤ 1048576 := hs.1
    have e := to_laws_toFrameS l hs
    have e2 := eq_laws_eqFrameS l hs
    obtain ⟨o1, o2⟩ := orders l hl
    have hm : (ids l).length ≤ 1048576 := Nat.le_trans (ids_len l) hl
    obtain ⟨q, l2, s1, s2⟩ := markF l hl
    have g1 := markI (ids l) hm
    have g2 := heldI (ids l).length hm
    simp only [e, Option.bind_some, o1, o2, e2, eqIntS_refl _ hm, s1, g1, g2]
    rw [show decide (q < 0) = false from dec_false (by omega), show decide ((1 : Int) + ((ids l).length : Int) < 0) = false from dec_false (by omega)]
    simp

theorem fnExactOrderOf_own : ownKnob Try.prog.godebug = none := by kernel_rfl
set_option maxRecDepth 100000 in
theorem fnExactOrderOf_lifted (os : Os) (started : os.Started) (H : Type) (enc : TypeId × Value → H) :
    ReturnsInHanded {} Try.checked os 3 .any (Rows.fnExactOrderOfSpec.pre6 enc Try.prog Try.f3 Rows.fnExactOrderOfRow.domain false) (Rows.fnExactOrderOfSpec.post enc Try.prog Try.f3 false true false false) := by
  refine returnsInHanded_of_change (C := Try.checked) fnExactOrderOf_own started (by kernel_rfl) Try.func3
    (ChangeSpec.witness6 (enc := enc) (C := Try.checked) false ⟨#[], #[.slice none 0 0], []⟩ 8 (by kernel_rfl) (by kernel_rfl) (by kernel_rfl) (by kernel_rfl)) ?_
  intro W base args ds gs before hval hW _ _
  exact law_contract ok_laws_FnExactOrderOf law_true rfl (fun H ds h => by
    match ds, h with
    | [d0], _ => rfl) (by kernel_rfl) (by kernel_rfl) rfl Try.underlying4 W base args ds gs before hval trivial hW
/-- The law returns true for all arguments. -/
theorem fnExactOrderOf_proved : Rows.FnExactOrderOfSaid :=
  OpenClaim.holds_of_wide 3 Try.f3 rfl rfl rfl rfl rfl rfl rfl ⟨rfl, rfl, rfl, rfl, rfl⟩ rfl rfl rfl rfl rfl (by kernel_rfl) Try.func3 (by kernel_rfl)
    (of_decide_eq_true (by kernel_rfl)) (by unfold Func.isWrapper; first | (rw [if_pos (by decide +kernel)]; kernel_rfl) | (rw [if_neg (by decide +kernel)]; exact ⟨rfl, rfl⟩))
    (fun os started H enc _ => fnExactOrderOf_lifted os started H enc)
#print axioms fnExactOrderOf_proved
end Go.Proofs.Ytifcipnimblkpaa

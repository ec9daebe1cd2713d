/- FnExactSizesOf returns true for all arguments. No condition. -/
import Derived.Test.YtifcipnimblkpaaModExactSizesOf
import Derived.KernelRfl
namespace Go.Proofs.Ytifcipnimblkpaa
open Go.Am Go.ChangeShapes Go.WideShapes Go.ChangeAt Go.RowKit
set_option linter.unusedVariables false
theorem bif_some {α : Type} {c : Bool} {x y : α} : (bif c then some x else some y) = some (bif c then x else y) := by cases c <;> rfl
theorem toSipS (a : List TSip) (h : a.length ≤ 1048576) : laws_toSipS a = some (a, ()) := by
  unfold laws_toSipS
  simp only []
  rw [guardP_pos (by unfold capN; omega)]
  exact copy_loop_by (d := zSip) (g := laws_toSip) (ok := fun _ => True) (fun _ _ => rfl) (L := laws_toSipS_l1) (fun _ _ _ _ => rfl) _ a _ 0 (by simp) (by omega) (by simp) (by omega) (by simp) (by unfold laws_toSipS_l1_fuel; omega)
theorem eqSip (x : TSip) : laws_eqSip x x = some (true, ()) := by
  unfold laws_eqSip
  simp
theorem eqSipS (a : List TSip) (h : a.length ≤ 1048576) : laws_eqSipS a a = some (true, ()) := by
  unfold laws_eqSipS
  rw [bif_false (by simp)]
  exact eq_loop_by (d := zSip) (g := laws_eqSip) eqSip (L := laws_eqSipS_l1) (fun _ _ _ _ => rfl) _ a 0 (by omega) (by omega) (by unfold laws_eqSipS_l1_fuel; omega)
theorem szSipS (a : List TSip) (h : a.length ≤ maxLen) : ∃ r, laws_szSipS a 1048576 = some (r, ()) ∧ (0 ≤ r → a.length ≤ 1048576) := by
  have hm := maxLen_le
  unfold laws_szSipS
  simp only []
  rw [i64_ok (by omega) (by omega)]
  by_cases h : (1048576 : Int) - (a.length : Int) < 0
  · rw [bif_true (dec_true h)]; exact ⟨_, rfl, by omega⟩
  · rw [bif_false (dec_false h)]; exact ⟨_, rfl, by omega⟩

/-! the two windows are one -/
theorem within_eq : impl_within = spec_l1In := rfl
theorem isWindow_eq : impl_IsWindow = spec_IsWindow := rfl
theorem leftFor_eq : impl_LeftFor = spec_LeftFor := rfl
theorem mustRaise_eq : impl_MustRaise = spec_MustRaise := rfl
theorem raiseWindow_eq : impl_RaiseWindow = spec_RaiseWindow := rfl
theorem isWindow_some (w : TWindow) : ∃ b, spec_IsWindow w = some (b, ()) := by
  unfold spec_IsWindow spec_l1In
  simp only [Option.bind_some, bif_some]
  exact ⟨_, rfl⟩
theorem mustRaise_some (w : TWindow) : ∃ b, spec_MustRaise w = some (b, ()) := by
  obtain ⟨b, hb⟩ := isWindow_some w
  unfold spec_MustRaise
  rw [hb, Option.bind_some]
  simp only []
  rw [guardP_pos (fun _ => by decide)]
  exact ⟨_, rfl⟩
theorem leftFor_some (w : TWindow) : ∃ b, spec_LeftFor w = some (b, ()) := by
  obtain ⟨b, hb⟩ := isWindow_some w
  unfold spec_LeftFor
  rw [hb, Option.bind_some, bif_some]
  exact ⟨_, rfl⟩
theorem seeBytes_some (w : TWindow) (n : Int) : ∃ b, spec_SeeBytes w n = some b ∧ impl_SeeBytes w n = some b := by
  obtain ⟨b, hb⟩ := isWindow_some w
  unfold spec_SeeBytes impl_SeeBytes
  rw [isWindow_eq, hb]
  simp only [Option.bind_some, bif_some, impl_within]
  refine ⟨_, rfl, ?_⟩
  congr 1
  have e : (!b || !(bif !b then (false, ()) else ((decide ((0 : Int) ≤ n)) && (decide (n ≤ IntKind.i64.wrap (w.2.2.1 - w.2.2.2.1))), ())).1) = ((!b || decide (n < 0)) || decide (n > IntKind.i64.wrap (w.2.2.1 - w.2.2.2.1))) := by
    rw [Bool.eq_iff_iff]
    cases b
    · simp
    · simp
  rw [e]
theorem readBytes_some (w : TWindow) (n : Int) : ∃ b, spec_ReadBytes w n = some b ∧ impl_ReadBytes w n = some b := by
  obtain ⟨b, hb⟩ := isWindow_some w
  unfold spec_ReadBytes impl_ReadBytes
  rw [isWindow_eq, hb]
  simp only [Option.bind_some, bif_some, impl_within]
  refine ⟨_, rfl, ?_⟩
  congr 1
  have e : (!b || !(bif !b then (false, ()) else ((decide ((0 : Int) ≤ n)) && (decide (n ≤ IntKind.i64.wrap (w.2.2.2.1 - w.2.2.2.2.1))), ())).1) = ((!b || decide (n < 0)) || decide (n > IntKind.i64.wrap (w.2.2.2.1 - w.2.2.2.2.1))) := by
    rw [Bool.eq_iff_iff]
    cases b
    · simp
    · simp
  rw [e]
theorem raiseWindow_some (w : TWindow) (n t : Int) : ∃ b, spec_RaiseWindow w n t = some b := by
  obtain ⟨b, hb⟩ := mustRaise_some w
  unfold spec_RaiseWindow spec_RaiseWindow_j1
  rw [hb]
  simp only [Option.bind_some, bif_some, spec_l1In]
  exact ⟨_, rfl⟩
theorem sip_some (w : TWindow) (s : TSip) (now trip : Int) : ∃ b, spec_l30Sip w s now trip = some (b, ()) := by
  unfold spec_l30Sip
  obtain ⟨a, ha⟩ := leftFor_some w
  rw [ha, Option.bind_some]
  obtain ⟨b, hb, _⟩ := seeBytes_some w (max (0 : Int) (min s.1 a))
  rw [hb, Option.bind_some]
  obtain ⟨c, hc, _⟩ := readBytes_some b.1 (max (0 : Int) (min s.1 a))
  rw [hc, Option.bind_some]
  obtain ⟨d, hd⟩ := raiseWindow_some c.1 now trip
  rw [hd]
  exact ⟨_, rfl⟩
noncomputable def sipF (w : TWindow) (s : TSip) (now trip : Int) : TWindow := ((spec_l30Sip w s now trip).getD (w, ())).1
theorem sipF_eq (w : TWindow) (s : TSip) (now trip : Int) : spec_l30Sip w s now trip = some (sipF w s now trip, ()) := by
  obtain ⟨b, hb⟩ := sip_some w s now trip
  unfold sipF
  rw [hb]; rfl
def nowF (now : Int) (s : TSip) : Int := min (IntKind.i64.wrap (now + (max (0 : Int) (min s.2.1 (1000 : Int))))) (1000000 : Int)
theorem nowF_eq (now : Int) (s : TSip) : spec_l30Now now s = some (nowF now s, ()) := rfl
/-- the windows behind each sip -/
noncomputable def feed (trip : Int) : List TSip → TWindow → Int → List TWindow
  | [], _, _ => []
  | s :: l, w, now => sipF w s (nowF now s) trip :: feed trip l (sipF w s (nowF now s) trip) (nowF now s)
theorem feed_len (trip : Int) : ∀ (l : List TSip) (w : TWindow) (now : Int), (feed trip l w now).length = l.length
  | [], _, _ => rfl
  | s :: l, w, now => by simp [feed, feed_len trip l]
theorem impl_sip (w : TWindow) (s : TSip) (now trip : Int) {ρ : Type} (k : TWindow → Option ρ) :
    (Option.bind (impl_LeftFor w) fun t32 =>
      Option.bind (impl_SeeBytes w (min (max s.1 (0 : Int)) t32.1)) fun t37 =>
      Option.bind (impl_ReadBytes t37.1 (min (max s.1 (0 : Int)) t32.1)) fun t43 =>
      Option.bind (impl_RaiseWindow t43.1 now trip) fun t50 => k t50.1) = k (sipF w s now trip) ∨ ∃ a, spec_LeftFor w = some (a, ()) ∧ a < 0 := by
  obtain ⟨a, ha⟩ := leftFor_some w
  by_cases h : a < 0
  · exact .inr ⟨a, ha, h⟩
  left
  have e : ∀ m : Int, 0 ≤ m → min (max s.1 0) m = max 0 (min s.1 m) := fun m hm => by omega
  have hs := sipF_eq w s now trip
  unfold spec_l30Sip at hs
  rw [leftFor_eq, ha, Option.bind_some] at *
  rw [e a (by omega)]
  obtain ⟨b, hb, hb'⟩ := seeBytes_some w (max (0 : Int) (min s.1 a))
  rw [hb, Option.bind_some] at hs
  rw [hb', Option.bind_some]
  obtain ⟨c, hc, hc'⟩ := readBytes_some b.1 (max (0 : Int) (min s.1 a))
  rw [hc, Option.bind_some] at hs
  rw [hc', Option.bind_some, raiseWindow_eq]
  obtain ⟨d, hd⟩ := raiseWindow_some c.1 now trip
  rw [hd, Option.bind_some] at hs ⊢
  simp only [Option.some.injEq, Prod.mk.injEq, and_true] at hs
  rw [hs]
theorem bif_fst {α β : Type} {c : Bool} {x y : α × β} : (bif c then x else y).1 = bif c then x.1 else y.1 := by cases c <;> rfl
theorem isWindow_true {w : TWindow} (h : spec_IsWindow w = some (true, ())) : (1 ≤ w.2.1 ∧ w.2.1 ≤ 4096) ∧ (1 ≤ w.1 ∧ w.1 ≤ w.2.1) ∧ (1 ≤ w.2.2.1 ∧ w.2.2.1 ≤ 4611686018427387903) ∧ (0 ≤ w.2.2.2.1 ∧ w.2.2.2.1 ≤ w.2.2.1) ∧ (0 ≤ w.2.2.2.2.1 ∧ w.2.2.2.2.1 ≤ w.2.2.2.1) ∧ w.2.2.1 ≤ w.2.2.2.2.1 + w.1 := by
  unfold spec_IsWindow spec_l1In at h
  simp only [Option.bind_some, bif_some, bif_fst, Option.some.injEq, Prod.mk.injEq, and_true, Bool.and_eq_true, decide_eq_true_eq, ge_iff_le, Bool.cond_false_right] at h
  have h1 : 1 ≤ w.2.1 ∧ w.2.1 ≤ 4096 := by grind
  have h2 : 1 ≤ w.1 ∧ w.1 ≤ w.2.1 := by grind
  have h3 : 1 ≤ w.2.2.1 ∧ w.2.2.1 ≤ 4611686018427387903 := by grind
  have h4 : 0 ≤ w.2.2.2.1 ∧ w.2.2.2.1 ≤ w.2.2.1 := by grind
  have h5 : 0 ≤ w.2.2.2.2.1 ∧ w.2.2.2.2.1 ≤ w.2.2.2.1 := by grind
  have h6 : w.2.2.1 ≤ IntKind.i64.wrap (w.2.2.2.2.1 + w.1) := by grind
  rw [i64_ok (by omega) (by omega)] at h6
  exact ⟨h1, h2, h3, h4, h5, h6⟩
theorem leftFor_pos (w : TWindow) {a : Int} (h : spec_LeftFor w = some (a, ())) : 0 ≤ a := by
  obtain ⟨b, hb⟩ := isWindow_some w
  unfold spec_LeftFor at h
  rw [hb, Option.bind_some, bif_some] at h
  simp only [Option.some.injEq] at h
  cases b
  · simp at h; omega
  · have := isWindow_true hb
    rw [i64_ok (by omega) (by omega)] at h
    simp at h; omega
theorem sip_eq (w : TWindow) (s : TSip) (now trip : Int) {ρ : Type} (k : TWindow → Option ρ) :
    (Option.bind (impl_LeftFor w) fun t32 =>
      Option.bind (impl_SeeBytes w (min (max s.1 (0 : Int)) t32.1)) fun t37 =>
      Option.bind (impl_ReadBytes t37.1 (min (max s.1 (0 : Int)) t32.1)) fun t43 =>
      Option.bind (impl_RaiseWindow t43.1 now trip) fun t50 => k t50.1) = k (sipF w s now trip) := by
  rcases impl_sip w s now trip k with h | ⟨a, h1, h2⟩
  · exact h
  · have := leftFor_pos w h1; omega

/-! the loops -/
theorem getD_app {α : Type} {d : α} (pre : List α) (s : α) (rest : List α) : (pre ++ s :: rest).getD ((pre.length : Nat) : Int).toNat d = s := by simp [List.getD]
theorem app_one {α : Type} (pre : List α) (s : α) (rest : List α) : pre ++ s :: rest = (pre ++ [s]) ++ rest := by simp
theorem sips_loop (trip : Int) : ∀ (rest pre : List TSip) (w : TWindow) (out : List TWindow) (now : Int) (N : Nat), (pre ++ rest).length ≤ 1048576 → out.length + rest.length ≤ 1048576 → rest.length < N →
    impl_sips_l1 N trip w out now (pre ++ rest) ((pre ++ rest).length : Int) (pre.length : Int) = some (out ++ feed trip rest w now, ())
  | _, _, _, _, _, 0, _, _, h => by omega
  | [], pre, w, out, now, N + 1, _, _, _ => by
    unfold impl_sips_l1
    rw [bif_false (dec_false (by simp))]
    simp [feed]
  | s :: rest, pre, w, out, now, N + 1, h1, h2, h3 => by
    unfold impl_sips_l1
    simp only [List.length_append, List.length_cons] at h1 h2 h3
    rw [bif_true (dec_true (by simp; omega)), guardP_pos (by simp; omega)]
    simp only [getD_app]
    have e : min (IntKind.i64.wrap (now + (min (max s.2.1 (0 : Int)) (1000 : Int)))) (1000000 : Int) = nowF now s := by
      unfold nowF
      rw [show min (max s.2.1 (0 : Int)) (1000 : Int) = max (0 : Int) (min s.2.1 (1000 : Int)) by omega]
    rw [e, sip_eq w s (nowF now s) trip (fun t => guardP (out.length + ([t]).length ≤ capN) (impl_sips_l1 N trip t (out ++ ([t])) (nowF now s) (pre ++ s :: rest) ((pre ++ s :: rest).length : Int) (IntKind.i64.wrap ((pre.length : Int) + (1 : Int)))))]
    rw [guardP_pos (by unfold capN; simp; omega), i64_succ (m := (pre ++ s :: rest).length) (by simp) (by simp; omega)]
    have := sips_loop trip rest (pre ++ [s]) (sipF w s (nowF now s) trip) (out ++ [sipF w s (nowF now s) trip]) (nowF now s) N (by simp; omega) (by simp; omega) (by omega)
    rw [← app_one] at this
    simp only [List.length_append, List.length_cons, List.length_nil, Nat.zero_add] at this ⊢
    rw [this]
    simp [feed]
theorem sips (w : TWindow) (l : List TSip) (trip : Int) (h : l.length ≤ 1048576) : impl_sips w l trip = some (feed trip l w w.2.2.2.2.2.1, ()) := by
  have := sips_loop trip l [] w [] w.2.2.2.2.2.1 (((l.length : Int) - 0).toNat + 1) (by simpa using h) (by simpa using h) (by omega)
  simpa [impl_sips, impl_sips_l1_fuel] using this
theorem sizes_loop (trip : Int) : ∀ (rest pre : List TSip) (w : TWindow) (out : List Int) (now : Int) (N : Nat), (pre ++ rest).length ≤ 1048576 → out.length + rest.length ≤ 1048576 → rest.length < N →
    spec_SizesOf_l1 N (pre ++ rest) trip w out now (pre.length : Int) = some (out ++ (feed trip rest w now).map (fun x => x.1), ())
  | _, _, _, _, _, 0, _, _, h => by omega
  | [], pre, w, out, now, N + 1, _, _, _ => by
    unfold spec_SizesOf_l1
    rw [bif_false (dec_false (by simp))]
    simp [feed]
  | s :: rest, pre, w, out, now, N + 1, h1, h2, h3 => by
    unfold spec_SizesOf_l1
    simp only [List.length_append, List.length_cons] at h1 h2 h3
    rw [bif_true (dec_true (by simp; omega)), guardP_pos (by simp; omega)]
    simp only [getD_app, nowF_eq, Option.bind_some]
    rw [guardP_pos (by simp; omega)]
    simp only [sipF_eq, Option.bind_some]
    rw [guardP_pos (by unfold capN; simp; omega), i64_succ (m := (pre ++ s :: rest).length) (by simp) (by simp; omega)]
    have := sizes_loop trip rest (pre ++ [s]) (sipF w s (nowF now s) trip) (out ++ [(sipF w s (nowF now s) trip).1]) (nowF now s) N (by simp; omega) (by simp; omega) (by omega)
    rw [← app_one] at this
    simp only [List.length_append, List.length_cons, List.length_nil, Nat.zero_add] at this
    rw [this]
    simp [feed]
theorem sizes_impl_loop : ∀ (rest pre : List TWindow) (out : List Int) (N : Nat), (pre ++ rest).length ≤ 1048576 → out.length + rest.length ≤ 1048576 → rest.length < N →
    impl_SizesOf_l1 N out (pre ++ rest) ((pre ++ rest).length : Int) (pre.length : Int) = some (out ++ rest.map (fun x => x.1), ())
  | _, _, _, 0, _, _, h => by omega
  | [], pre, out, N + 1, _, _, _ => by
    unfold impl_SizesOf_l1
    rw [bif_false (dec_false (by simp))]
    simp
  | s :: rest, pre, out, N + 1, h1, h2, h3 => by
    unfold impl_SizesOf_l1
    simp only [List.length_append, List.length_cons] at h1 h2 h3
    rw [bif_true (dec_true (by simp; omega)), guardP_pos (by simp; omega)]
    simp only [getD_app]
    rw [guardP_pos (by unfold capN; simp; omega), i64_succ (m := (pre ++ s :: rest).length) (by simp) (by simp; omega)]
    have := sizes_impl_loop rest (pre ++ [s]) (out ++ [s.1]) N (by simp; omega) (by simp; omega) (by omega)
    rw [← app_one] at this
    simp only [List.length_append, List.length_cons, List.length_nil, Nat.zero_add] at this ⊢
    rw [this]
    simp
theorem sizes (w : TWindow) (l : List TSip) (trip : Int) (h : l.length ≤ 1048576) : ∃ r, spec_SizesOf w l trip = some (r, ()) ∧ impl_SizesOf w l trip = some (r, ()) ∧ r.length = l.length := by
  have hl := feed_len trip l w w.2.2.2.2.2.1
  refine ⟨(feed trip l w w.2.2.2.2.2.1).map (fun x => x.1), ?_, ?_, by simpa using hl⟩
  · have := sizes_loop trip l [] w [] w.2.2.2.2.2.1 (((l.length : Int) - 0).toNat + 1) (by simpa using h) (by simpa using h) (by omega)
    simpa [spec_SizesOf, spec_SizesOf_l1_fuel] using this
  · unfold impl_SizesOf
    rw [sips w l trip h, Option.bind_some]
    have := sizes_impl_loop (feed trip l w w.2.2.2.2.2.1) [] [] ((((feed trip l w w.2.2.2.2.2.1).length : Int) - 0).toNat + 1) (by simp; omega) (by simp; omega) (by omega)
    simpa [impl_SizesOf_l1_fuel] using this
/-! marks: what is written into a slice is there -/
def iota (k : Int) : Nat → List Int
  | 0 => []
  | n + 1 => k :: iota (k + 1) n
theorem iota_len : ∀ (n : Nat) (k : Int), (iota k n).length = n
  | 0, _ => rfl
  | n + 1, k => by simp [iota, iota_len n]
theorem mark_ints : ∀ (m N : Nat) (pre rest : List Int) (k : Int), rest.length = m → m < N → (pre ++ rest).length ≤ 1048576 → 0 ≤ k → k + m ≤ 100000000 →
    laws_markIntS_l1 N (pre ++ rest) k (pre.length : Int) = some ((k + m, ()), pre ++ iota k m)
  | m, 0, _, _, _, _, h, _, _, _ => by omega
  | 0, N + 1, pre, rest, k, hr, _, hl, h0, h1 => by
    have : rest = [] := List.eq_nil_of_length_eq_zero hr
    subst this
    unfold laws_markIntS_l1
    rw [bif_false (dec_false (by simp))]
    simp [iota]
  | m + 1, N + 1, pre, [], k, hr, _, _, _, _ => by simp at hr
  | m + 1, N + 1, pre, x :: rest, k, hr, hN, hl, h0, h1 => by
    have hlen : (pre ++ x :: rest).length = pre.length + rest.length + 1 := by simp; omega
    simp only [List.length_cons] at hr
    unfold laws_markIntS_l1
    rw [bif_true (dec_true (by rw [hlen]; omega)), guardP_pos (by rw [hlen]; omega), i64_ok (by omega) (by omega), i64_succ (m := pre.length + 1) (by omega) (by rw [hlen] at hl; omega)]
    have e : (pre ++ x :: rest).set (pre.length : Int).toNat k = (pre ++ [k]) ++ rest := by
      rw [show (pre.length : Int).toNat = pre.length from rfl, List.set_append_right _ _ (Nat.le_refl _)]
      simp
    have e2 : ((pre.length + 1 : Nat) : Int) = (((pre ++ [k]).length : Nat) : Int) := by simp
    rw [e, e2, mark_ints m N (pre ++ [k]) rest (k + 1) (by omega) (by omega) (by simp; rw [hlen] at hl; omega) (by omega) (by omega)]
    simp only [iota, List.append_assoc, List.cons_append, List.nil_append]
    congr 3
    omega
theorem held_ints : ∀ (m N : Nat) (pre : List Int) (k : Int), m < N → (pre ++ iota k m).length ≤ 1048576 → 0 ≤ k → k + m ≤ 100000000 →
    laws_heldIntS_l1 N (pre ++ iota k m) k (pre.length : Int) = some (k + m, ())
  | m, 0, _, _, h, _, _, _ => by omega
  | 0, N + 1, pre, k, _, hl, h0, h1 => by
    unfold laws_heldIntS_l1
    rw [bif_false (dec_false (by simp [iota]))]
    simp
  | m + 1, N + 1, pre, k, hN, hl, h0, h1 => by
    have hlen : (pre ++ iota k (m + 1)).length = pre.length + m + 1 := by simp [iota_len]; omega
    unfold laws_heldIntS_l1
    have hg : (pre ++ iota k (m + 1)).getD (pre.length : Int).toNat 0 = k := by
      rw [show (pre.length : Int).toNat = pre.length from rfl, List.getD_eq_getElem?_getD, List.getElem?_append_right (Nat.le_refl _)]
      simp [iota]
    rw [bif_true (dec_true (by rw [hlen]; omega)), guardP_pos (by rw [hlen]; omega), hg, bif_false (by simp), i64_ok (by omega) (by omega), i64_succ (m := pre.length + 1) (by omega) (by rw [hlen] at hl; omega)]
    have e : pre ++ iota k (m + 1) = (pre ++ [k]) ++ iota (k + 1) m := by simp [iota]
    have e2 : ((pre.length + 1 : Nat) : Int) = (((pre ++ [k]).length : Nat) : Int) := by simp
    rw [e, e2, held_ints m N (pre ++ [k]) (k + 1) (by omega) (by rw [← e]; exact hl) (by omega) (by omega)]
    congr 2
    omega
theorem markI (l : List Int) (h : l.length ≤ 1048576) : laws_markIntS l 1 = some ((1 + (l.length : Int), ()), iota 1 l.length) := by
  unfold laws_markIntS
  exact mark_ints l.length _ [] l 1 rfl (by unfold laws_markIntS_l1_fuel; omega) (by simpa using h) (by omega) (by omega)
theorem heldI (n : Nat) (h : n ≤ 1048576) : laws_heldIntS (iota 1 n) 1 = some (1 + (n : Int), ()) := by
  unfold laws_heldIntS
  exact held_ints n _ [] 1 (by unfold laws_heldIntS_l1_fuel; rw [iota_len]; omega) (by simpa [iota_len] using h) (by omega) (by omega)
theorem mark_sips : ∀ (N : Nat) (l : List TSip) (k : Int) (i : Nat), l.length ≤ 1048576 → i ≤ l.length → l.length - i < N → 0 ≤ k → k + 2 * ((l.length - i : Nat) : Int) ≤ 100000000 →
    ∃ r l2, laws_markSipS_l1 N l k (i : Int) = some ((r, ()), l2) ∧ 0 ≤ r
  | 0, _, _, _, _, _, h, _, _ => by omega
  | N + 1, l, k, i, hl, hi, hN, h0, h1 => by
    unfold laws_markSipS_l1
    by_cases h : i < l.length
    · rw [bif_true (dec_true (by omega)), guardP_pos (by omega)]
      simp only []
      rw [guardP_pos (by rw [List.length_set]; omega), i64_succ h (by omega), show IntKind.i64.wrap (k + 1) = k + 1 from i64_ok (by omega) (by omega), show IntKind.i64.wrap (k + 1 + 1) = k + 1 + 1 from i64_ok (by omega) (by omega)]
      exact mark_sips N _ (k + 1 + 1) (i + 1) (by simpa using hl) (by rw [List.length_set, List.length_set]; omega) (by simp only [List.length_set]; omega) (by omega) (by simp only [List.length_set]; omega)
    · rw [bif_false (dec_false (by omega))]
      exact ⟨k, l, rfl, h0⟩
theorem markS (l : List TSip) (h : l.length ≤ 1048576) : ∃ r l2, laws_markSipS l 1 = some ((r, ()), l2) ∧ 0 ≤ r := by
  unfold laws_markSipS
  exact mark_sips _ l 1 0 h (by omega) (by unfold laws_markSipS_l1_fuel; omega) (by omega) (by omega)
theorem eqIntS_refl (a : List Int) (h : a.length ≤ 1048576) : laws_eqIntS a a = some (true, ()) := by
  unfold laws_eqIntS
  rw [bif_false (by simp)]
  exact eq_loop (d := (0 : Int)) (ne := fun x y => x != y) (by simp) (L := laws_eqIntS_l1) (fun _ _ _ _ => rfl) _ a 0 (by omega) (by omega) (by unfold laws_eqIntS_l1_fuel; omega)
theorem toWindow (w : TWindow) : laws_toWindow w = some (w, ()) := rfl
theorem law_true : ∀ xs : dens e_laws_FnExactSizesOf.args, wfA e_laws_FnExactSizesOf.args xs → laws_FnExactSizesOf xs.1 xs.2.1 xs.2.2.1 = some (true, ()) := by
  intro xs hw
  obtain ⟨_, ⟨hw1, hw2⟩, _⟩ := hw
  unfold laws_FnExactSizesOf
  obtain ⟨r, h1, h2⟩ := szSipS xs.2.1 hw1
  rw [h1]
  simp only [Option.bind_some]
  by_cases h : r < 0
  · rw [bif_true (dec_true h)]
  · rw [bif_false (dec_false h)]
    have hl : List.length xs.2.1 ≤ 1048576 := h2 (by omega)
    obtain ⟨m, e1, e2, e3⟩ := sizes xs.1 xs.2.1 xs.2.2.1 hl
    have hm : m.length ≤ 1048576 := by omega
    obtain ⟨q, l2, s1, s2⟩ := markS xs.2.1 hl
    have g1 := markI m hm
    have g2 := heldI m.length hm
    simp only [toWindow, toSipS _ hl, Option.bind_some, e1, e2, eqSipS _ hl, eqIntS_refl m hm, s1, g1, g2]
    rw [show decide (q < 0) = false from dec_false (by omega), show decide ((1 : Int) + (m.length : Int) < 0) = false from dec_false (by omega)]
    simp

theorem fnExactSizesOf_own : ownKnob Try.prog.godebug = none := by kernel_rfl
set_option maxRecDepth 100000 in
theorem fnExactSizesOf_lifted (os : Os) (started : os.Started) (H : Type) (enc : TypeId × Value → H) :
    ReturnsInHanded {} Try.checked os 7 .any (Rows.fnExactSizesOfSpec.pre6 enc Try.prog Try.f7 Rows.fnExactSizesOfRow.domain false) (Rows.fnExactSizesOfSpec.post enc Try.prog Try.f7 false true false false) := by
  refine returnsInHanded_of_change (C := Try.checked) fnExactSizesOf_own started (by kernel_rfl) Try.func7
    (ChangeSpec.witness6 (enc := enc) (C := Try.checked) false ⟨#[], #[.agg #[.int .i64 0, .int .i64 0, .int .i64 0, .int .i64 0, .int .i64 0, .int .i64 0], .slice none 0 0, .int .i64 0], []⟩ 8 (by kernel_rfl) (by kernel_rfl) (by kernel_rfl) (by kernel_rfl)) ?_
  intro W base args ds gs before hval hW _ _
  exact law_contract ok_laws_FnExactSizesOf law_true rfl (fun H ds h => by
    match ds, h with
    | [d0, d1, d2], _ => rfl) (by kernel_rfl) (by kernel_rfl) rfl Try.underlying4 W base args ds gs before hval trivial hW
/-- The law returns true for all arguments. -/
theorem fnExactSizesOf_proved : Rows.FnExactSizesOfSaid :=
  OpenClaim.holds_of_wide 7 Try.f7 rfl rfl rfl rfl rfl rfl rfl ⟨rfl, rfl, rfl, rfl, rfl⟩ rfl rfl rfl rfl rfl (by kernel_rfl) Try.func7 (by kernel_rfl)
    (of_decide_eq_true (by kernel_rfl)) (by unfold Func.isWrapper; first | (rw [if_pos (by decide +kernel)]; kernel_rfl) | (rw [if_neg (by decide +kernel)]; exact ⟨rfl, rfl⟩))
    (fun os started H enc _ => fnExactSizesOf_lifted os started H enc)
#print axioms fnExactSizesOf_proved
end Go.Proofs.Ytifcipnimblkpaa

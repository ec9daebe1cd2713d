/- FnGrowths returns true for all arguments. No condition. -/
import Derived.Test.YtifcipnimblkpabModGrowths
import Derived.KernelRfl
namespace Go.Proofs.Ytifcipnimblkpab
open Go.Am Go.ChangeShapes Go.WideShapes Go.ChangeAt Go.RowKit
set_option linter.unusedVariables false
theorem bif_some {α : Type} {c : Bool} {x y : α} : (bif c then some x else some y) = some (bif c then x else y) := by cases c <;> rfl
/-! the two windows are one -/
theorem within_eq : impl_within = spec_l1In := rfl
theorem isWindow_eq : impl_IsWindow = spec_IsWindow := rfl
theorem leftFor_eq : impl_LeftFor = spec_LeftFor := rfl
theorem mustRaise_eq : impl_MustRaise = spec_MustRaise := rfl
theorem raiseWindow_eq : impl_RaiseWindow = spec_RaiseWindow := rfl
theorem isWindow_some (w : TWindow) : ∃ b, spec_IsWindow w = some (b, ()) := by
  unfold spec_IsWindow spec_l1In
  simp only [Option.bind_some, bif_some]
  exact ⟨_, rfl⟩
theorem mustRaise_some (w : TWindow) : ∃ b, spec_MustRaise w = some (b, ()) := by
  obtain ⟨b, hb⟩ := isWindow_some w
  unfold spec_MustRaise
  rw [hb, Option.bind_some]
  simp only []
  rw [guardP_pos (fun _ => by decide)]
  exact ⟨_, rfl⟩
theorem leftFor_some (w : TWindow) : ∃ b, spec_LeftFor w = some (b, ()) := by
  obtain ⟨b, hb⟩ := isWindow_some w
  unfold spec_LeftFor
  rw [hb, Option.bind_some, bif_some]
  exact ⟨_, rfl⟩
theorem seeBytes_some (w : TWindow) (n : Int) : ∃ b, spec_SeeBytes w n = some b ∧ impl_SeeBytes w n = some b := by
  obtain ⟨b, hb⟩ := isWindow_some w
  unfold spec_SeeBytes impl_SeeBytes
  rw [isWindow_eq, hb]
  simp only [Option.bind_some, bif_some, impl_within]
  refine ⟨_, rfl, ?_⟩
  congr 1
  have e : (!b || !(bif !b then (false, ()) else ((decide ((0 : Int) ≤ n)) && (decide (n ≤ IntKind.i64.wrap (w.2.2.1 - w.2.2.2.1))), ())).1) = ((!b || decide (n < 0)) || decide (n > IntKind.i64.wrap (w.2.2.1 - w.2.2.2.1))) := by
    rw [Bool.eq_iff_iff]
    cases b
    · simp
    · simp
  rw [e]
theorem readBytes_some (w : TWindow) (n : Int) : ∃ b, spec_ReadBytes w n = some b ∧ impl_ReadBytes w n = some b := by
  obtain ⟨b, hb⟩ := isWindow_some w
  unfold spec_ReadBytes impl_ReadBytes
  rw [isWindow_eq, hb]
  simp only [Option.bind_some, bif_some, impl_within]
  refine ⟨_, rfl, ?_⟩
  congr 1
  have e : (!b || !(bif !b then (false, ()) else ((decide ((0 : Int) ≤ n)) && (decide (n ≤ IntKind.i64.wrap (w.2.2.2.1 - w.2.2.2.2.1))), ())).1) = ((!b || decide (n < 0)) || decide (n > IntKind.i64.wrap (w.2.2.2.1 - w.2.2.2.2.1))) := by
    rw [Bool.eq_iff_iff]
    cases b
    · simp
    · simp
  rw [e]
theorem raiseWindow_some (w : TWindow) (n t : Int) : ∃ b, spec_RaiseWindow w n t = some b := by
  obtain ⟨b, hb⟩ := mustRaise_some w
  unfold spec_RaiseWindow spec_RaiseWindow_j1
  rw [hb]
  simp only [Option.bind_some, bif_some, spec_l1In]
  exact ⟨_, rfl⟩
theorem sip_some (w : TWindow) (s : TSip) (now trip : Int) : ∃ b, spec_l30Sip w s now trip = some (b, ()) := by
  unfold spec_l30Sip
  obtain ⟨a, ha⟩ := leftFor_some w
  rw [ha, Option.bind_some]
  obtain ⟨b, hb, _⟩ := seeBytes_some w (max (0 : Int) (min s.1 a))
  rw [hb, Option.bind_some]
  obtain ⟨c, hc, _⟩ := readBytes_some b.1 (max (0 : Int) (min s.1 a))
  rw [hc, Option.bind_some]
  obtain ⟨d, hd⟩ := raiseWindow_some c.1 now trip
  rw [hd]
  exact ⟨_, rfl⟩
noncomputable def sipF (w : TWindow) (s : TSip) (now trip : Int) : TWindow := ((spec_l30Sip w s now trip).getD (w, ())).1
theorem sipF_eq (w : TWindow) (s : TSip) (now trip : Int) : spec_l30Sip w s now trip = some (sipF w s now trip, ()) := by
  obtain ⟨b, hb⟩ := sip_some w s now trip
  unfold sipF
  rw [hb]; rfl
def nowF (now : Int) (s : TSip) : Int := min (IntKind.i64.wrap (now + (max (0 : Int) (min s.2.1 (1000 : Int))))) (1000000 : Int)
theorem nowF_eq (now : Int) (s : TSip) : spec_l30Now now s = some (nowF now s, ()) := rfl
/-- the windows behind each sip -/
noncomputable def feed (trip : Int) : List TSip → TWindow → Int → List TWindow
  | [], _, _ => []
  | s :: l, w, now => sipF w s (nowF now s) trip :: feed trip l (sipF w s (nowF now s) trip) (nowF now s)
theorem feed_len (trip : Int) : ∀ (l : List TSip) (w : TWindow) (now : Int), (feed trip l w now).length = l.length
  | [], _, _ => rfl
  | s :: l, w, now => by simp [feed, feed_len trip l]
theorem impl_sip (w : TWindow) (s : TSip) (now trip : Int) {ρ : Type} (k : TWindow → Option ρ) :
    (Option.bind (impl_LeftFor w) fun t32 =>
      Option.bind (impl_SeeBytes w (min (max s.1 (0 : Int)) t32.1)) fun t37 =>
      Option.bind (impl_ReadBytes t37.1 (min (max s.1 (0 : Int)) t32.1)) fun t43 =>
      Option.bind (impl_RaiseWindow t43.1 now trip) fun t50 => k t50.1) = k (sipF w s now trip) ∨ ∃ a, spec_LeftFor w = some (a, ()) ∧ a < 0 := by
  obtain ⟨a, ha⟩ := leftFor_some w
  by_cases h : a < 0
  · exact .inr ⟨a, ha, h⟩
  left
  have e : ∀ m : Int, 0 ≤ m → min (max s.1 0) m = max 0 (min s.1 m) := fun m hm => by omega
  have hs := sipF_eq w s now trip
  unfold spec_l30Sip at hs
  rw [leftFor_eq, ha, Option.bind_some] at *
  rw [e a (by omega)]
  obtain ⟨b, hb, hb'⟩ := seeBytes_some w (max (0 : Int) (min s.1 a))
  rw [hb, Option.bind_some] at hs
  rw [hb', Option.bind_some]
  obtain ⟨c, hc, hc'⟩ := readBytes_some b.1 (max (0 : Int) (min s.1 a))
  rw [hc, Option.bind_some] at hs
  rw [hc', Option.bind_some, raiseWindow_eq]
  obtain ⟨d, hd⟩ := raiseWindow_some c.1 now trip
  rw [hd, Option.bind_some] at hs ⊢
  simp only [Option.some.injEq, Prod.mk.injEq, and_true] at hs
  rw [hs]
theorem bif_fst {α β : Type} {c : Bool} {x y : α × β} : (bif c then x else y).1 = bif c then x.1 else y.1 := by cases c <;> rfl
theorem isWindow_true {w : TWindow} (h : spec_IsWindow w = some (true, ())) : (1 ≤ w.2.1 ∧ w.2.1 ≤ 4096) ∧ (1 ≤ w.1 ∧ w.1 ≤ w.2.1) ∧ (1 ≤ w.2.2.1 ∧ w.2.2.1 ≤ 4611686018427387903) ∧ (0 ≤ w.2.2.2.1 ∧ w.2.2.2.1 ≤ w.2.2.1) ∧ (0 ≤ w.2.2.2.2.1 ∧ w.2.2.2.2.1 ≤ w.2.2.2.1) ∧ w.2.2.1 ≤ w.2.2.2.2.1 + w.1 := by
  unfold spec_IsWindow spec_l1In at h
  simp only [Option.bind_some, bif_some, bif_fst, Option.some.injEq, Prod.mk.injEq, and_true, Bool.and_eq_true, decide_eq_true_eq, ge_iff_le, Bool.cond_false_right] at h
  have h1 : 1 ≤ w.2.1 ∧ w.2.1 ≤ 4096 := by grind
  have h2 : 1 ≤ w.1 ∧ w.1 ≤ w.2.1 := by grind
  have h3 : 1 ≤ w.2.2.1 ∧ w.2.2.1 ≤ 4611686018427387903 := by grind
  have h4 : 0 ≤ w.2.2.2.1 ∧ w.2.2.2.1 ≤ w.2.2.1 := by grind
  have h5 : 0 ≤ w.2.2.2.2.1 ∧ w.2.2.2.2.1 ≤ w.2.2.2.1 := by grind
  have h6 : w.2.2.1 ≤ IntKind.i64.wrap (w.2.2.2.2.1 + w.1) := by grind
  rw [i64_ok (by omega) (by omega)] at h6
  exact ⟨h1, h2, h3, h4, h5, h6⟩
theorem leftFor_pos (w : TWindow) {a : Int} (h : spec_LeftFor w = some (a, ())) : 0 ≤ a := by
  obtain ⟨b, hb⟩ := isWindow_some w
  unfold spec_LeftFor at h
  rw [hb, Option.bind_some, bif_some] at h
  simp only [Option.some.injEq] at h
  cases b
  · simp at h; omega
  · have := isWindow_true hb
    rw [i64_ok (by omega) (by omega)] at h
    simp at h; omega
theorem sip_eq (w : TWindow) (s : TSip) (now trip : Int) {ρ : Type} (k : TWindow → Option ρ) :
    (Option.bind (impl_LeftFor w) fun t32 =>
      Option.bind (impl_SeeBytes w (min (max s.1 (0 : Int)) t32.1)) fun t37 =>
      Option.bind (impl_ReadBytes t37.1 (min (max s.1 (0 : Int)) t32.1)) fun t43 =>
      Option.bind (impl_RaiseWindow t43.1 now trip) fun t50 => k t50.1) = k (sipF w s now trip) := by
  rcases impl_sip w s now trip k with h | ⟨a, h1, h2⟩
  · exact h
  · have := leftFor_pos w h1; omega

/-! the loops -/
theorem getD_app {α : Type} {d : α} (pre : List α) (s : α) (rest : List α) : (pre ++ s :: rest).getD ((pre.length : Nat) : Int).toNat d = s := by simp [List.getD]
theorem app_one {α : Type} (pre : List α) (s : α) (rest : List α) : pre ++ s :: rest = (pre ++ [s]) ++ rest := by simp
theorem sips_loop (trip : Int) : ∀ (rest pre : List TSip) (w : TWindow) (out : List TWindow) (now : Int) (N : Nat), (pre ++ rest).length ≤ 1048576 → out.length + rest.length ≤ 1048576 → rest.length < N →
    impl_sips_l1 N trip w out now (pre ++ rest) ((pre ++ rest).length : Int) (pre.length : Int) = some (out ++ feed trip rest w now, ())
  | _, _, _, _, _, 0, _, _, h => by omega
  | [], pre, w, out, now, N + 1, _, _, _ => by
    unfold impl_sips_l1
    rw [bif_false (dec_false (by simp))]
    simp [feed]
  | s :: rest, pre, w, out, now, N + 1, h1, h2, h3 => by
    unfold impl_sips_l1
    simp only [List.length_append, List.length_cons] at h1 h2 h3
    rw [bif_true (dec_true (by simp; omega)), guardP_pos (by simp; omega)]
    simp only [getD_app]
    have e : min (IntKind.i64.wrap (now + (min (max s.2.1 (0 : Int)) (1000 : Int)))) (1000000 : Int) = nowF now s := by
      unfold nowF
      rw [show min (max s.2.1 (0 : Int)) (1000 : Int) = max (0 : Int) (min s.2.1 (1000 : Int)) by omega]
    rw [e, sip_eq w s (nowF now s) trip (fun t => guardP (out.length + ([t]).length ≤ capN) (impl_sips_l1 N trip t (out ++ ([t])) (nowF now s) (pre ++ s :: rest) ((pre ++ s :: rest).length : Int) (IntKind.i64.wrap ((pre.length : Int) + (1 : Int)))))]
    rw [guardP_pos (by unfold capN; simp; omega), i64_succ (m := (pre ++ s :: rest).length) (by simp) (by simp; omega)]
    have := sips_loop trip rest (pre ++ [s]) (sipF w s (nowF now s) trip) (out ++ [sipF w s (nowF now s) trip]) (nowF now s) N (by simp; omega) (by simp; omega) (by omega)
    rw [← app_one] at this
    simp only [List.length_append, List.length_cons, List.length_nil, Nat.zero_add] at this ⊢
    rw [this]
    simp [feed]
theorem sips (w : TWindow) (l : List TSip) (trip : Int) (h : l.length ≤ 1048576) : impl_sips w l trip = some (feed trip l w w.2.2.2.2.2.1, ()) := by
  have := sips_loop trip l [] w [] w.2.2.2.2.2.1 (((l.length : Int) - 0).toNat + 1) (by simpa using h) (by simpa using h) (by omega)
  simpa [impl_sips, impl_sips_l1_fuel] using this
/-! the draws' cursor: it never fails -/
theorem bits255 (x : Int) : 0 ≤ bits .and .i64 x 255 ∧ bits .and .i64 x 255 ≤ 255 := by
  have h : bits .and .i64 x 255 = IntKind.i64.wrap (((BitVec.ofInt 64 x &&& BitVec.ofInt 64 255).toNat : Nat) : Int) := rfl
  rw [h, BitVec.toNat_and]
  have h2 : (BitVec.ofInt 64 255).toNat = 255 := by decide
  rw [h2]
  have h3 : (BitVec.ofInt 64 x).toNat &&& 255 ≤ 255 := Nat.and_le_right
  rw [i64_ok (by omega) (by omega)]
  omega
def CurOK (c : Tl1Cur) : Prop := c.1.length ≤ 1048576 ∧ 0 ≤ c.2.1 ∧ c.2.1 ≤ c.1.length
theorem cur_new (code : List Int) (h : code.length ≤ 1048576) : ∃ c, spec_l1New code = some (c, ()) ∧ CurOK c := by
  have loop : ∀ (N : Nat) (x : Int) (i : Nat), i ≤ code.length → code.length - i < N → ∃ c, spec_l1New_l1 N code x (i : Int) = some (c, ()) ∧ CurOK c := by
    intro N
    induction N with
    | zero => intro x i _ h; omega
    | succ N ih =>
      intro x i hi hN
      unfold spec_l1New_l1
      by_cases hl : i < code.length ∧ i < 4000
      · rw [bif_true (by simp; omega), guardP_pos (by omega), i64_succ hl.1 (by omega)]
        exact ih _ (i + 1) (by omega) (by omega)
      · rw [bif_false (by simp; omega)]
        exact ⟨_, rfl, h, Int.le_refl 0, by simp⟩
  unfold spec_l1New
  exact loop _ _ 0 (by omega) (by unfold spec_l1New_l1_fuel; omega)
theorem cur_byte (c : Tl1Cur) (h : CurOK c) : ∃ x c', spec_l1Byte c = some ((x, ()), (c', ())) ∧ CurOK c' ∧ 0 ≤ x ∧ x ≤ 255 := by
  obtain ⟨h1, h2, h3⟩ := h
  unfold spec_l1Byte
  simp only []
  rw [guardP_pos (by decide), guardP_pos (by decide)]
  by_cases hl : c.2.1 < (c.1.length : Int)
  · rw [bif_true (dec_true hl), guardP_pos ⟨h2, hl⟩, i64_ok (n := c.2.1 + 1) (by omega) (by omega)]
    exact ⟨_, _, rfl, ⟨h1, by show 0 ≤ c.2.1 + 1; omega, by show c.2.1 + 1 ≤ (c.1.length : Int); omega⟩, bits255 _⟩
  · rw [bif_false (dec_false hl)]
    exact ⟨_, _, rfl, ⟨h1, h2, h3⟩, bits255 _⟩
theorem cur_below (c : Tl1Cur) (n : Int) (h : CurOK c) : ∃ x c', spec_l1Below c n = some ((x, ()), (c', ())) ∧ CurOK c' ∧ 0 ≤ x ∧ (0 < n → x < n) := by
  unfold spec_l1Below
  by_cases h0 : n ≤ 0
  · rw [bif_true (dec_true h0)]
    exact ⟨_, _, rfl, h, Int.le_refl 0, fun hn => by omega⟩
  · rw [bif_false (dec_false h0)]
    by_cases h1 : n ≤ 256
    · rw [bif_true (dec_true h1)]
      obtain ⟨x, c1, e1, k1, b1, b2⟩ := cur_byte c h
      rw [e1, Option.bind_some, guardP_pos (by omega)]
      exact ⟨_, _, rfl, k1, Int.tmod_nonneg n b1, fun hn => Int.tmod_lt_of_pos x hn⟩
    · rw [bif_false (dec_false h1)]
      obtain ⟨x, c1, e1, k1, b1, b2⟩ := cur_byte c h
      obtain ⟨y, c2, e2, k2, b3, b4⟩ := cur_byte c1 k1
      obtain ⟨z, c3, e3, k3, b5, b6⟩ := cur_byte c2 k2
      obtain ⟨u, c4, e4, k4, b7, b8⟩ := cur_byte c3 k3
      rw [e1, Option.bind_some, e2, Option.bind_some, e3, Option.bind_some, e4, Option.bind_some, guardP_pos (by omega)]
      simp only []
      rw [i64_ok (n := x * 16777216) (by omega) (by omega), i64_ok (n := y * 65536) (by omega) (by omega), i64_ok (n := x * 16777216 + y * 65536) (by omega) (by omega), i64_ok (n := z * 256) (by omega) (by omega), i64_ok (n := x * 16777216 + y * 65536 + z * 256) (by omega) (by omega), i64_ok (n := x * 16777216 + y * 65536 + z * 256 + u) (by omega) (by omega)]
      exact ⟨_, _, rfl, k4, Int.tmod_nonneg n (by omega), fun hn => Int.tmod_lt_of_pos _ hn⟩
theorem cur_pick (c : Tl1Cur) (l : List Int) (h : CurOK c) (hl : 0 < l.length) : ∃ x c', spec_l1PickInt c l = some ((x, ()), (c', ())) ∧ CurOK c' ∧ x ∈ l := by
  unfold spec_l1PickInt
  obtain ⟨x, c1, e1, k1, b1, b2⟩ := cur_below c (l.length : Int) h
  have b2 := b2 (by omega)
  rw [e1, Option.bind_some]
  simp only []
  rw [guardP_pos ⟨b1, b2⟩]
  refine ⟨_, _, rfl, k1, ?_⟩
  have hx : x.toNat < l.length := by omega
  rw [List.getD_eq_getElem?_getD, List.getElem?_eq_getElem hx]
  exact List.getElem_mem hx
theorem l11_loop : ∀ (N : Nat) (c : Tl1Cur) (t w : TWindow) (n : Int), CurOK c → 0 ≤ n → n ≤ 1000 → n.toNat < N → ∃ w' c', spec_l11Window_l1 N c t w n = some ((w', ()), (c', ())) ∧ CurOK c'
  | 0, _, _, _, _, _, _, _, h => by omega
  | N + 1, c, t, w, n, hc, h0, h1, hN => by
    unfold spec_l11Window_l1 spec_l11Window_j1
    by_cases h : n > 0
    · rw [bif_true (dec_true h), i64_ok (n := n - 1) (by omega) (by omega)]
      simp only [bothK_self]
      have next : ∀ c' w', CurOK c' → ∃ w2 c2, spec_l11Window_l1 N c' t w' (n - 1) = some ((w2, ()), (c2, ())) ∧ CurOK c2 := fun c' w' hc' => l11_loop N c' t w' (n - 1) hc' (by omega) (by omega) (by omega)
      obtain ⟨x, c1, e1, k1, _⟩ := cur_below c 3 hc
      rw [e1, Option.bind_some]
      obtain ⟨y, c2, e2, k2, _⟩ := cur_below c1 9 k1
      obtain ⟨z, c3, e3, k3, _⟩ := cur_below c2 3 k2
      obtain ⟨b1, s1, _⟩ := seeBytes_some w y
      obtain ⟨b2, s2, _⟩ := readBytes_some w y
      obtain ⟨b3, s3⟩ := raiseWindow_some w (IntKind.i64.wrap (w.2.2.2.2.2.1 + y)) (IntKind.i64.wrap ((1 : Int) + z))
      simp only [e2, e3, s1, s2, s3, Option.bind_some]
      cases (x == 0)
      · cases (x == 1)
        · cases (x == 2)
          · exact next _ _ k1
          · exact next _ _ k3
        · exact next _ _ k2
      · exact next _ _ k2
    · rw [bif_false (dec_false h)]
      obtain ⟨x, c1, e1, k1, _⟩ := cur_below c 14 hc
      rw [e1, Option.bind_some]
      obtain ⟨p1, c2, e2, k2, _⟩ := cur_pick c1 [(-1 : Int), (0 : Int), (3 : Int), (200 : Int)] k1 (by simp)
      obtain ⟨p2, c3, e3, k3, _⟩ := cur_pick c1 [(-1 : Int), (0 : Int), (60 : Int)] k1 (by simp)
      obtain ⟨p3, c4, e4, k4, _⟩ := cur_pick c1 [(-1 : Int), (1000000 : Int), (1000001 : Int)] k1 (by simp)
      simp only [e2, e3, e4, Option.bind_some]
      cases (x == 0)
      · cases (x == 1)
        · cases (x == 2)
          · exact ⟨_, _, rfl, k1⟩
          · exact ⟨_, _, rfl, k4⟩
        · exact ⟨_, _, rfl, k3⟩
      · exact ⟨_, _, rfl, k2⟩
theorem newWindow_some (a b : Int) : ∃ r, spec_NewWindow a b = some r := by
  unfold spec_NewWindow spec_l1In
  simp only [Option.bind_some, bif_some]
  exact ⟨_, rfl⟩
theorem l11_window (c : Tl1Cur) (hc : CurOK c) : ∃ w' c', spec_l11Window c = some ((w', ()), (c', ())) ∧ CurOK c' := by
  unfold spec_l11Window
  obtain ⟨x, c1, e1, k1, b1⟩ := cur_below c 40 hc
  rw [e1, Option.bind_some]
  simp only []
  obtain ⟨y, c2, e2, k2, _⟩ := cur_below c1 (IntKind.i64.wrap ((4 : Int) + x)) k1
  rw [e2, Option.bind_some]
  obtain ⟨r, hr⟩ := newWindow_some (IntKind.i64.wrap ((1 : Int) + y)) (IntKind.i64.wrap ((4 : Int) + x))
  simp only [hr, Option.bind_some]
  obtain ⟨z, c3, e3, k3, z0, z1⟩ := cur_below c2 8 k2
  rw [e3, Option.bind_some]
  have z1 := z1 (by omega)
  exact l11_loop _ _ _ _ _ k3 z0 (show z ≤ 1000 by omega) (by unfold spec_l11Window_l1_fuel; simp)
theorem l30_loop : ∀ (N : Nat) (t w : TWindow) (l : List TSip) (n : Int) (c : Tl1Cur), CurOK c → 0 ≤ n → l.length + n ≤ 1000 → n.toNat < N → ∃ l' x, spec_l30Draw_l1 N t w l n c = some (w, l', x, ()) ∧ l'.length ≤ 1000
  | 0, _, _, _, _, _, _, _, _, h => by omega
  | N + 1, t, w, l, n, c, hc, h0, h1, hN => by
    unfold spec_l30Draw_l1
    by_cases h : n > 0
    · rw [bif_true (dec_true h)]
      obtain ⟨x, c1, e1, k1, _⟩ := cur_below c 12 hc
      rw [e1, Option.bind_some]
      obtain ⟨y, c2, e2, k2, _⟩ := cur_below c1 9 k1
      rw [e2, Option.bind_some]
      simp only []
      rw [guardP_pos (by unfold capN; simp; omega), i64_ok (n := n - 1) (by omega) (by omega)]
      exact l30_loop N t w _ (n - 1) c2 k2 (by omega) (by simp; omega) (by omega)
    · rw [bif_false (dec_false h)]
      obtain ⟨p, c2, e2, k2, _⟩ := cur_pick c [(0 : Int), (1 : Int), (2 : Int), (4 : Int), (1001 : Int)] hc (by simp)
      rw [e2, Option.bind_some]
      exact ⟨l, p, rfl, by omega⟩
theorem l30_draw (code : List Int) (h : code.length ≤ 1048576) : ∃ w l x, spec_l30Draw code = some (w, l, x, ()) ∧ l.length ≤ 1000 := by
  unfold spec_l30Draw
  obtain ⟨c, e, k⟩ := cur_new code h
  rw [e, Option.bind_some]
  obtain ⟨w, c1, e1, k1⟩ := l11_window c k
  rw [e1, Option.bind_some]
  obtain ⟨n, c2, e2, k2, n0, n1⟩ := cur_below c1 9 k1
  rw [e2, Option.bind_some]
  have n1 := n1 (by omega)
  obtain ⟨l, x, e3, h3⟩ := l30_loop (spec_l30Draw_l1_fuel ((0 : Int), ((0 : Int), ((0 : Int), ((0 : Int), ((0 : Int), ((0 : Int), ())))))) w ([] : List TSip) n c2) _ w [] n c2 k2 n0 (by simp; omega) (by unfold spec_l30Draw_l1_fuel; omega)
  exact ⟨w, l, x, e3, h3⟩
theorem limits_loop (trip : Int) : ∀ (rest pre : List TSip) (w : TWindow) (out : List Int) (now : Int) (N : Nat), (pre ++ rest).length ≤ 1048576 → out.length + rest.length ≤ 1048576 → rest.length < N →
    spec_LimitsOf_l1 N (pre ++ rest) trip w out now (pre.length : Int) = some (out ++ (feed trip rest w now).map (fun x => x.2.2.1), ())
  | _, _, _, _, _, 0, _, _, h => by omega
  | [], pre, w, out, now, N + 1, _, _, _ => by
    unfold spec_LimitsOf_l1
    rw [bif_false (dec_false (by simp))]
    simp [feed]
  | s :: rest, pre, w, out, now, N + 1, h1, h2, h3 => by
    unfold spec_LimitsOf_l1
    simp only [List.length_append, List.length_cons] at h1 h2 h3
    rw [bif_true (dec_true (by simp; omega)), guardP_pos (by simp; omega)]
    simp only [getD_app, nowF_eq, Option.bind_some]
    rw [guardP_pos (by simp; omega)]
    simp only [sipF_eq, Option.bind_some]
    rw [guardP_pos (by unfold capN; simp; omega), i64_succ (m := (pre ++ s :: rest).length) (by simp) (by simp; omega)]
    have := limits_loop trip rest (pre ++ [s]) (sipF w s (nowF now s) trip) (out ++ [(sipF w s (nowF now s) trip).2.2.1]) (nowF now s) N (by simp; omega) (by simp; omega) (by omega)
    rw [← app_one] at this
    simp only [List.length_append, List.length_cons, List.length_nil, Nat.zero_add] at this
    rw [this]
    simp [feed]
theorem limits_impl_loop : ∀ (rest pre : List TWindow) (out : List Int) (N : Nat), (pre ++ rest).length ≤ 1048576 → out.length + rest.length ≤ 1048576 → rest.length < N →
    impl_LimitsOf_l1 N out (pre ++ rest) ((pre ++ rest).length : Int) (pre.length : Int) = some (out ++ rest.map (fun x => x.2.2.1), ())
  | _, _, _, 0, _, _, h => by omega
  | [], pre, out, N + 1, _, _, _ => by
    unfold impl_LimitsOf_l1
    rw [bif_false (dec_false (by simp))]
    simp
  | s :: rest, pre, out, N + 1, h1, h2, h3 => by
    unfold impl_LimitsOf_l1
    simp only [List.length_append, List.length_cons] at h1 h2 h3
    rw [bif_true (dec_true (by simp; omega)), guardP_pos (by simp; omega)]
    simp only [getD_app]
    rw [guardP_pos (by unfold capN; simp; omega), i64_succ (m := (pre ++ s :: rest).length) (by simp) (by simp; omega)]
    have := limits_impl_loop rest (pre ++ [s]) (out ++ [s.2.2.1]) N (by simp; omega) (by simp; omega) (by omega)
    rw [← app_one] at this
    simp only [List.length_append, List.length_cons, List.length_nil, Nat.zero_add] at this ⊢
    rw [this]
    simp
theorem limits_exact (w : TWindow) (l : List TSip) (trip : Int) (h : l.length ≤ 1048576) : spec_LimitsOf w l trip = some ((feed trip l w w.2.2.2.2.2.1).map (fun x => x.2.2.1), ()) ∧ impl_LimitsOf w l trip = some ((feed trip l w w.2.2.2.2.2.1).map (fun x => x.2.2.1), ()) := by
  have hl := feed_len trip l w w.2.2.2.2.2.1
  refine ⟨?_, ?_⟩
  · have := limits_loop trip l [] w [] w.2.2.2.2.2.1 (((l.length : Int) - 0).toNat + 1) (by simpa using h) (by simpa using h) (by omega)
    simpa [spec_LimitsOf, spec_LimitsOf_l1_fuel] using this
  · unfold impl_LimitsOf
    rw [sips w l trip h, Option.bind_some]
    have := limits_impl_loop (feed trip l w w.2.2.2.2.2.1) [] [] ((((feed trip l w w.2.2.2.2.2.1).length : Int) - 0).toNat + 1) (by simp; omega) (by simp; omega) (by omega)
    simpa [impl_LimitsOf_l1_fuel] using this
theorem sizes_loop (trip : Int) : ∀ (rest pre : List TSip) (w : TWindow) (out : List Int) (now : Int) (N : Nat), (pre ++ rest).length ≤ 1048576 → out.length + rest.length ≤ 1048576 → rest.length < N →
    spec_SizesOf_l1 N (pre ++ rest) trip w out now (pre.length : Int) = some (out ++ (feed trip rest w now).map (fun x => x.1), ())
  | _, _, _, _, _, 0, _, _, h => by omega
  | [], pre, w, out, now, N + 1, _, _, _ => by
    unfold spec_SizesOf_l1
    rw [bif_false (dec_false (by simp))]
    simp [feed]
  | s :: rest, pre, w, out, now, N + 1, h1, h2, h3 => by
    unfold spec_SizesOf_l1
    simp only [List.length_append, List.length_cons] at h1 h2 h3
    rw [bif_true (dec_true (by simp; omega)), guardP_pos (by simp; omega)]
    simp only [getD_app, nowF_eq, Option.bind_some]
    rw [guardP_pos (by simp; omega)]
    simp only [sipF_eq, Option.bind_some]
    rw [guardP_pos (by unfold capN; simp; omega), i64_succ (m := (pre ++ s :: rest).length) (by simp) (by simp; omega)]
    have := sizes_loop trip rest (pre ++ [s]) (sipF w s (nowF now s) trip) (out ++ [(sipF w s (nowF now s) trip).1]) (nowF now s) N (by simp; omega) (by simp; omega) (by omega)
    rw [← app_one] at this
    simp only [List.length_append, List.length_cons, List.length_nil, Nat.zero_add] at this
    rw [this]
    simp [feed]
theorem sizes_impl_loop : ∀ (rest pre : List TWindow) (out : List Int) (N : Nat), (pre ++ rest).length ≤ 1048576 → out.length + rest.length ≤ 1048576 → rest.length < N →
    impl_SizesOf_l1 N out (pre ++ rest) ((pre ++ rest).length : Int) (pre.length : Int) = some (out ++ rest.map (fun x => x.1), ())
  | _, _, _, 0, _, _, h => by omega
  | [], pre, out, N + 1, _, _, _ => by
    unfold impl_SizesOf_l1
    rw [bif_false (dec_false (by simp))]
    simp
  | s :: rest, pre, out, N + 1, h1, h2, h3 => by
    unfold impl_SizesOf_l1
    simp only [List.length_append, List.length_cons] at h1 h2 h3
    rw [bif_true (dec_true (by simp; omega)), guardP_pos (by simp; omega)]
    simp only [getD_app]
    rw [guardP_pos (by unfold capN; simp; omega), i64_succ (m := (pre ++ s :: rest).length) (by simp) (by simp; omega)]
    have := sizes_impl_loop rest (pre ++ [s]) (out ++ [s.1]) N (by simp; omega) (by simp; omega) (by omega)
    rw [← app_one] at this
    simp only [List.length_append, List.length_cons, List.length_nil, Nat.zero_add] at this ⊢
    rw [this]
    simp
theorem sizes_exact (w : TWindow) (l : List TSip) (trip : Int) (h : l.length ≤ 1048576) : spec_SizesOf w l trip = some ((feed trip l w w.2.2.2.2.2.1).map (fun x => x.1), ()) ∧ impl_SizesOf w l trip = some ((feed trip l w w.2.2.2.2.2.1).map (fun x => x.1), ()) := by
  have hl := feed_len trip l w w.2.2.2.2.2.1
  refine ⟨?_, ?_⟩
  · have := sizes_loop trip l [] w [] w.2.2.2.2.2.1 (((l.length : Int) - 0).toNat + 1) (by simpa using h) (by simpa using h) (by omega)
    simpa [spec_SizesOf, spec_SizesOf_l1_fuel] using this
  · unfold impl_SizesOf
    rw [sips w l trip h, Option.bind_some]
    have := sizes_impl_loop (feed trip l w w.2.2.2.2.2.1) [] [] ((((feed trip l w w.2.2.2.2.2.1).length : Int) - 0).toNat + 1) (by simp; omega) (by simp; omega) (by omega)
    simpa [impl_SizesOf_l1_fuel] using this
theorem last_cons {α : Type} (d : α) : ∀ (l : List α) (x : α), (x :: l).getLastD d = l.getLastD x
  | [], _ => rfl
  | _ :: _, _ => rfl
theorem feed_loop (trip : Int) : ∀ (rest pre : List TSip) (w t6 : TWindow) (now : Int) (N : Nat), (pre ++ rest).length ≤ 1048576 → rest.length < N →
    spec_FeedWindow_l1 N (pre ++ rest) trip w t6 now (pre.length : Int) = some ((feed trip rest w now).getLastD w, ())
  | _, _, _, _, _, 0, _, h => by omega
  | [], pre, w, t6, now, N + 1, _, _ => by
    unfold spec_FeedWindow_l1
    rw [bif_false (dec_false (by simp))]
    simp [feed]
  | s :: rest, pre, w, t6, now, N + 1, h1, h3 => by
    unfold spec_FeedWindow_l1
    simp only [List.length_append, List.length_cons] at h1 h3
    rw [bif_true (dec_true (by simp; omega)), guardP_pos (by simp; omega)]
    simp only [getD_app, nowF_eq, Option.bind_some]
    rw [guardP_pos (by simp; omega)]
    simp only [sipF_eq, Option.bind_some]
    rw [i64_succ (m := (pre ++ s :: rest).length) (by simp) (by simp; omega)]
    have := feed_loop trip rest (pre ++ [s]) (sipF w s (nowF now s) trip) t6 (nowF now s) N (by simp; omega) (by omega)
    rw [← app_one] at this
    simp only [List.length_append, List.length_cons, List.length_nil, Nat.zero_add] at this
    rw [this]
    simp only [feed, last_cons]
theorem feedWindow_exact (w : TWindow) (l : List TSip) (trip : Int) (h : l.length ≤ 1048576) : spec_FeedWindow w l trip = some ((feed trip l w w.2.2.2.2.2.1).getLastD w, ()) ∧ impl_FeedWindow w l trip = some ((feed trip l w w.2.2.2.2.2.1).getLastD w, ()) := by
  refine ⟨?_, ?_⟩
  · have := feed_loop trip l [] w ((0 : Int), ((0 : Int), ((0 : Int), ((0 : Int), ((0 : Int), ((0 : Int), ())))))) w.2.2.2.2.2.1 (((l.length : Int) - 0).toNat + 1) (by simpa using h) (by omega)
    simpa [spec_FeedWindow, spec_FeedWindow_l1_fuel] using this
  · unfold impl_FeedWindow
    by_cases h0 : l.length = 0
    · have : l = [] := List.eq_nil_of_length_eq_zero h0
      subst this
      rfl
    · rw [bif_false (beq_eq_false_iff_ne.2 (by omega)), sips w l trip h, Option.bind_some]
      simp only []
      have hl := feed_len trip l w w.2.2.2.2.2.1
      rw [i64_ok (by omega) (by omega), guardP_pos (by omega)]
      congr 2
      have e : (((l.length : Int) - 1)).toNat = (feed trip l w w.2.2.2.2.2.1).length - 1 := by omega
      rw [e]
      generalize hf : feed trip l w w.2.2.2.2.2.1 = f at *
      have hne : f ≠ [] := fun e => by subst e; simp at hl; omega
      rw [List.getLastD_eq_getLast?, List.getLast?_eq_getElem?, List.getD]
      cases hx : f[f.length - 1]? with
      | none => rw [List.getElem?_eq_none_iff] at hx; omega
      | some x => rfl
theorem frames_loop : ∀ (N : Nat) (l : List Int) (n last : Int) (i : Nat), l.length ≤ 1048576 → i ≤ l.length → 0 ≤ n → n + (l.length - i) ≤ 1048576 → l.length - i < N →
    ∃ r, spec_FramesNeeded_l1 N n l last i = some (r, ()) ∧ impl_FramesNeeded_l1 N n last l l.length i = some (r, ()) ∧ r ≤ n + ((l.length - i : Nat) : Int)
  | 0, _, _, _, _, _, _, _, _, h => by omega
  | N + 1, l, n, last, i, hl, hi, h0, hn, hN => by
    unfold spec_FramesNeeded_l1 impl_FramesNeeded_l1
    by_cases h : i < l.length
    · simp only [bif_true (dec_true (show (i : Int) < (l.length : Int) by omega))]
      rw [guardP_pos (by omega), guardP_pos (by omega)]
      unfold spec_FramesNeeded_j1
      simp only [guardP_pos (show 0 ≤ (i : Int) ∧ (i : Int) < (l.length : Int) by omega), i64_succ h (show l.length ≤ 9223372036854775807 by omega)]
      cases (l.getD (i : Int).toNat (0 : Int) != last)
      · obtain ⟨r, h1, h2, h4⟩ := frames_loop N l n (l.getD (i : Int).toNat 0) (i + 1) hl h h0 (by omega) (by omega)
        refine ⟨r, h1, ?_, by omega⟩
        unfold impl_one
        rw [bif_false rfl, Option.bind_some, Int.add_zero, i64_ok (by omega) (by omega)]
        exact h2
      · obtain ⟨r, h1, h2, h4⟩ := frames_loop N l (n + 1) (l.getD (i : Int).toNat 0) (i + 1) hl h (by omega) (by omega) (by omega)
        rw [i64_ok (n := n + 1) (by omega) (by omega)]
        refine ⟨r, h1, ?_, by omega⟩
        unfold impl_one
        rw [bif_true rfl, Option.bind_some, i64_ok (n := n + 1) (by omega) (by omega)]
        exact h2
    · simp only [bif_false (dec_false (show ¬ (i : Int) < (l.length : Int) by omega))]
      exact ⟨n, rfl, rfl, by omega⟩
theorem frames (w : TWindow) (l : List TSip) (trip : Int) (h : l.length ≤ 1048576) : ∃ r, spec_FramesNeeded w l trip = some (r, ()) ∧ impl_FramesNeeded w l trip = some (r, ()) ∧ r ≤ l.length := by
  obtain ⟨h1, h2⟩ := limits_exact w l trip h
  have h3 : ((feed trip l w w.2.2.2.2.2.1).map (fun x => x.2.2.1)).length = l.length := by simpa using feed_len trip l w w.2.2.2.2.2.1
  generalize (feed trip l w w.2.2.2.2.2.1).map (fun x => x.2.2.1) = r at h1 h2 h3
  unfold spec_FramesNeeded impl_FramesNeeded
  rw [h1, h2]
  simp only [Option.bind_some]
  obtain ⟨q, q1, q2, q3⟩ := frames_loop (((r.length : Int) - 0).toNat + 1) r 0 w.2.2.1 0 (by omega) (by omega) (by omega) (by omega) (by omega)
  exact ⟨q, q1, q2, by omega⟩
def W (w : TWindow) : Prop := (1 ≤ w.2.1 ∧ w.2.1 ≤ 4096) ∧ (1 ≤ w.1 ∧ w.1 ≤ w.2.1) ∧ (1 ≤ w.2.2.1 ∧ w.2.2.1 ≤ 4611686018427387903) ∧ (0 ≤ w.2.2.2.1 ∧ w.2.2.2.1 ≤ w.2.2.1) ∧ (0 ≤ w.2.2.2.2.1 ∧ w.2.2.2.2.1 ≤ w.2.2.2.1) ∧ w.2.2.1 ≤ w.2.2.2.2.1 + w.1
def Grow (w w' : TWindow) : Prop := W w' ∧ w.1 ≤ w'.1 ∧ w.2.2.1 ≤ w'.2.2.1
theorem Grow.refl {w : TWindow} (h : W w) : Grow w w := ⟨h, Int.le_refl _, Int.le_refl _⟩
theorem Grow.trans {a b c : TWindow} (h : Grow a b) (k : Grow b c) : Grow a c := ⟨k.1, Int.le_trans h.2.1 k.2.1, Int.le_trans h.2.2 k.2.2⟩
theorem see_grow {w : TWindow} {n : Int} {b : TWindow × Bool × Unit} (hw : W w) (h : spec_SeeBytes w n = some b) : Grow w b.1 := by
  obtain ⟨t, ht⟩ := isWindow_some w
  unfold spec_SeeBytes at h
  rw [ht, Option.bind_some, bif_some, Option.some.injEq] at h
  subst h
  cases hc : ((!t || decide (n < 0)) || decide (n > IntKind.i64.wrap (w.2.2.1 - w.2.2.2.1)))
  · simp only [Bool.or_eq_false_iff, decide_eq_false_iff_not] at hc
    have hw' := hw
    obtain ⟨h1, h2, h3, h4, h5, h6⟩ := hw
    rw [i64_ok (by omega) (by omega)] at hc
    simp only [cond_false, Grow, W]
    rw [i64_ok (n := w.2.2.2.1 + n) (by omega) (by omega)]
    omega
  · exact Grow.refl hw
theorem read_grow {w : TWindow} {n : Int} {b : TWindow × Bool × Unit} (hw : W w) (h : spec_ReadBytes w n = some b) : Grow w b.1 := by
  obtain ⟨t, ht⟩ := isWindow_some w
  unfold spec_ReadBytes at h
  rw [ht, Option.bind_some, bif_some, Option.some.injEq] at h
  subst h
  cases hc : ((!t || decide (n < 0)) || decide (n > IntKind.i64.wrap (w.2.2.2.1 - w.2.2.2.2.1)))
  · simp only [Bool.or_eq_false_iff, decide_eq_false_iff_not] at hc
    obtain ⟨h1, h2, h3, h4, h5, h6⟩ := hw
    rw [i64_ok (by omega) (by omega)] at hc
    simp only [cond_false, Grow, W]
    rw [i64_ok (n := w.2.2.2.2.1 + n) (by omega) (by omega)]
    omega
  · exact Grow.refl hw
theorem raise_grow {w : TWindow} {n t : Int} {b : TWindow × Bool × Unit} (hw : W w) (h : spec_RaiseWindow w n t = some b) : Grow w b.1 := by
  obtain ⟨m, hm⟩ := mustRaise_some w
  unfold spec_RaiseWindow spec_RaiseWindow_j1 spec_l1In at h
  simp only [hm, Option.bind_some, bif_some, Option.some.injEq] at h
  subst h
  obtain ⟨h1, h2, h3, h4, h5, h6⟩ := hw
  generalize ((!m || !(bif !m then (false, ()) else (decide (n ≥ w.2.2.2.2.2.1) && decide (n ≤ 1000000), ())).1) || _) = c
  cases c
  · simp only [cond_false]
    generalize decide (IntKind.i64.wrap (n - w.2.2.2.2.2.1) < IntKind.i64.wrap (2 * t)) = d
    cases d
    · simp only [cond_false, Grow, W]
      rw [i64_ok (n := w.2.2.2.2.1 + w.1) (by omega) (by omega)]
      omega
    · simp only [cond_true, Grow, W]
      rw [i64_ok (n := 2 * w.1) (by omega) (by omega), i64_ok (n := w.2.2.2.2.1 + min (2 * w.1) w.2.1) (by omega) (by omega)]
      omega
  · exact Grow.refl ⟨h1, h2, h3, h4, h5, h6⟩
theorem sip_grow {w : TWindow} (s : TSip) (now trip : Int) (hw : W w) : Grow w (sipF w s now trip) := by
  have h := sipF_eq w s now trip
  unfold spec_l30Sip at h
  obtain ⟨a, ha⟩ := leftFor_some w
  rw [ha, Option.bind_some] at h
  obtain ⟨b, hb, _⟩ := seeBytes_some w (max (0 : Int) (min s.1 a))
  rw [hb, Option.bind_some] at h
  obtain ⟨c, hc, _⟩ := readBytes_some b.1 (max (0 : Int) (min s.1 a))
  rw [hc, Option.bind_some] at h
  obtain ⟨d, hd⟩ := raiseWindow_some c.1 now trip
  rw [hd, Option.bind_some, Option.some.injEq, Prod.mk.injEq] at h
  rw [← h.1]
  have g1 := see_grow hw hb
  have g2 := read_grow g1.1 hc
  exact g1.trans (g2.trans (raise_grow g2.1 hd))
/-- each is at least the one ahead of it -/
def Up : Int → List Int → Prop
  | _, [] => True
  | x, y :: l => x ≤ y ∧ Up y l
theorem feed_up (trip : Int) : ∀ (l : List TSip) (w : TWindow) (now : Int), W w → Up w.1 ((feed trip l w now).map (fun x => x.1)) ∧ Up w.2.2.1 ((feed trip l w now).map (fun x => x.2.2.1)) ∧ W ((feed trip l w now).getLastD w)
  | [], w, now, hw => ⟨trivial, trivial, hw⟩
  | s :: l, w, now, hw => by
    have g := sip_grow s (nowF now s) trip hw
    obtain ⟨h1, h2, h3⟩ := feed_up trip l (sipF w s (nowF now s) trip) (nowF now s) g.1
    exact ⟨⟨g.2.1, h1⟩, ⟨g.2.2, h2⟩, by simp only [feed, last_cons]; exact h3⟩
theorem rising_up : ∀ (N : Nat) (pre : List Int) (x : Int) (rest : List Int), (pre ++ x :: rest).length ≤ 1048576 → Up x rest → rest.length < N → impl_IsRising_l1 N (pre ++ x :: rest) ((pre.length + 1 : Nat) : Int) = some (true, ())
  | 0, _, _, _, _, _, h => by omega
  | N + 1, pre, x, [], hl, _, hN => by
    unfold impl_IsRising_l1
    rw [bif_false (dec_false (by simp))]
  | N + 1, pre, x, y :: rest, hl, hu, hN => by
    simp only [List.length_append, List.length_cons] at hl hN
    unfold impl_IsRising_l1
    rw [bif_true (dec_true (by simp; omega)), guardP_pos (by simp; omega), i64_ok (n := ((pre.length + 1 : Nat) : Int) - 1) (by omega) (by omega), guardP_pos (by simp; omega)]
    have e1 : (pre ++ x :: y :: rest).getD (((pre.length + 1 : Nat) : Int)).toNat 0 = y := by
      rw [show (((pre.length + 1 : Nat) : Int)).toNat = pre.length + 1 from rfl, List.getD_eq_getElem?_getD, List.getElem?_append_right (by omega)]; simp
    have e2 : (pre ++ x :: y :: rest).getD ((((pre.length + 1 : Nat) : Int)) - 1).toNat 0 = x := by
      rw [show ((((pre.length + 1 : Nat) : Int)) - 1).toNat = pre.length from by omega, List.getD_eq_getElem?_getD, List.getElem?_append_right (by omega)]; simp
    rw [e1, e2, bif_false (dec_false (by have := hu.1; omega)), i64_succ (m := pre.length + 2) (by omega) (by omega)]
    have := rising_up N (pre ++ [x]) y rest (by simp; omega) hu.2 (by omega)
    simpa using this
theorem rising (x : Int) (l : List Int) (hl : l.length ≤ 1048576) (h : Up x l) : impl_IsRising l = some (true, ()) := by
  unfold impl_IsRising
  cases l with
  | nil => unfold impl_IsRising_l1_fuel impl_IsRising_l1; rfl
  | cons y l => exact rising_up (impl_IsRising_l1_fuel (y :: l) 1) [] y l hl h.2 (by unfold impl_IsRising_l1_fuel; simp only [List.length_cons]; omega)
theorem rising_same : ∀ (N : Nat) (l : List Int) (i : Int), impl_IsRising_l1 N l i = spec_IsRising_l1 N l i
  | 0, _, _ => rfl
  | N + 1, l, i => by
    unfold impl_IsRising_l1 spec_IsRising_l1
    rw [rising_same N]
theorem rising_loop : ∀ (N : Nat) (l : List Int) (i : Nat), l.length ≤ 1048576 → 1 ≤ i → l.length - i < N → ∃ b, impl_IsRising_l1 N l (i : Int) = some (b, ())
  | 0, _, _, _, _, h => by omega
  | N + 1, l, i, hl, hi, hN => by
    unfold impl_IsRising_l1
    by_cases h : i < l.length
    · rw [bif_true (dec_true (by omega)), guardP_pos (by omega), i64_ok (n := (i : Int) - 1) (by omega) (by omega), guardP_pos (by omega), i64_succ h (by omega)]
      cases decide (l.getD (i : Int).toNat 0 < l.getD ((i : Int) - 1).toNat 0)
      · exact rising_loop N l (i + 1) hl (by omega) (by omega)
      · exact ⟨_, rfl⟩
    · rw [bif_false (dec_false (by omega))]; exact ⟨_, rfl⟩
theorem rising_some (l : List Int) (hl : l.length ≤ 1048576) : ∃ b, impl_IsRising l = some (b, ()) ∧ spec_IsRising l = some (b, ()) := by
  have h : ∃ b, impl_IsRising l = some (b, ()) := by
    unfold impl_IsRising
    exact rising_loop _ l 1 hl (by omega) (by unfold impl_IsRising_l1_fuel; omega)
  obtain ⟨b, hb⟩ := h
  refine ⟨b, hb, ?_⟩
  rw [← hb]
  unfold impl_IsRising spec_IsRising
  exact (rising_same _ _ _).symm
theorem drawRising_loop : ∀ (N : Nat) (l : List TSip) (out : List Int) (i : Nat), l.length ≤ 1000 → out.length + (l.length - i) ≤ 1000 → l.length - i < N → ∃ r, spec_DrawIsRising_l1 N l out (i : Int) = some (r, ()) ∧ r.length ≤ 1000
  | 0, _, _, _, _, _, h => by omega
  | N + 1, l, out, i, hl, ho, hN => by
    unfold spec_DrawIsRising_l1
    by_cases h : i < l.length
    · rw [bif_true (dec_true (by omega)), guardP_pos (by omega), guardP_pos (by unfold capN; simp; omega), i64_succ h (by omega)]
      exact drawRising_loop N l _ (i + 1) hl (by simp; omega) (by omega)
    · rw [bif_false (dec_false (by omega))]; exact ⟨_, rfl, by omega⟩
theorem drawRising (code : List Int) (h : code.length ≤ 1048576) : ∃ r, spec_DrawIsRising code = some (r, ()) ∧ r.length ≤ 1048576 := by
  unfold spec_DrawIsRising
  obtain ⟨w, l, x, e, hl⟩ := l30_draw code h
  rw [e, Option.bind_some, guardP_pos (by decide)]
  simp only []
  cases Int.tmod (code.length : Int) 2 == 0
  · obtain ⟨r, h1, h2⟩ := drawRising_loop (spec_DrawIsRising_l1_fuel l ([] : List Int) (0 : Int)) l [] 0 hl (by simp; omega) (by unfold spec_DrawIsRising_l1_fuel; omega)
    exact ⟨r, h1, by omega⟩
  · rw [(limits_exact w l x (by omega)).1]
    exact ⟨_, rfl, by rw [List.length_map, feed_len]; omega⟩
theorem sameInts_refl (a : List Int) (h : a.length ≤ 1048576) : laws_sameInts a a = some (true, ()) := by
  unfold laws_sameInts
  rw [bif_false (by simp)]
  exact eq_loop (d := (0 : Int)) (ne := fun x y => x != y) (by simp) (L := laws_sameInts_l1) (fun _ _ _ _ => rfl) _ a 0 (by omega) (by omega) (by unfold laws_sameInts_l1_fuel; omega)
theorem getLastD_map (f : TWindow → Int) (l : List TWindow) (w : TWindow) (h : 0 < l.length) : (l.map f).getD (l.length - 1) 0 = f (l.getLastD w) := by
  rw [List.getLastD_eq_getLast?, List.getLast?_eq_getElem?, List.getD_eq_getElem?_getD, List.getElem?_map]
  cases hx : l[l.length - 1]? with
  | none => rw [List.getElem?_eq_none_iff] at hx; omega
  | some x => rfl
theorem law_true : ∀ xs : dens e_laws_FnGrowths.args, wfA e_laws_FnGrowths.args xs → laws_FnGrowths xs.1 = some (true, ()) := by
  intro ⟨code, _⟩ _
  show laws_FnGrowths code = some (true, ())
  unfold laws_FnGrowths laws_big
  simp only [Option.bind_some]
  by_cases hb : (code.length : Int) > 1048576
  · rw [bif_true (dec_true hb)]
  rw [bif_false (dec_false hb)]
  have hc : code.length ≤ 1048576 := by omega
  obtain ⟨w, l, trip, e, hl⟩ := l30_draw code hc
  have hl' : l.length ≤ 1048576 := by omega
  obtain ⟨f1, f2⟩ := feedWindow_exact w l trip hl'
  obtain ⟨g1, g2⟩ := limits_exact w l trip hl'
  obtain ⟨s1, s2⟩ := sizes_exact w l trip hl'
  obtain ⟨q, q1, q2, q3⟩ := frames w l trip hl'
  obtain ⟨t, ht⟩ := isWindow_some w
  obtain ⟨r, r1, r2⟩ := drawRising code hc
  obtain ⟨b, b1, b2⟩ := rising_some r r2
  have hlen := feed_len trip l w w.2.2.2.2.2.1
  have up := feed_up trip l w w.2.2.2.2.2.1
  have hm1 : ((feed trip l w w.2.2.2.2.2.1).map (fun x => x.2.2.1)).length ≤ 1048576 := by rw [List.length_map]; omega
  have hm2 : ((feed trip l w w.2.2.2.2.2.1).map (fun x => x.1)).length ≤ 1048576 := by rw [List.length_map]; omega
  have lst := getLastD_map (fun x => x.2.2.1) (feed trip l w w.2.2.2.2.2.1) w
  have si1 := sameInts_refl _ hm1
  have si2 := sameInts_refl _ hm2
  simp only [spec_DrawFeedWindow, e, Option.bind_some, f1, f2, g1, g2, s1, s2, q1, q2, ht, r1, b1, b2]
  generalize feed trip l w w.2.2.2.2.2.1 = F at *
  have ev : eqV tyWindow (F.getLastD w) (F.getLastD w) = true := by simp [eqV]
  simp only [ev, si1, si2, Bool.not_true, cond_false, Option.bind_some, Bool.false_or, bne_self_eq_false]
  cases t
  · simp only [cond_false, Option.bind_some, Bool.not_false, cond_true, Bool.false_and]
    rw [guardP_pos (by intro h; cases h)]
    simp
  · have hW := isWindow_true ht
    obtain ⟨u1, u2, u3⟩ := up hW
    have hsz : decide ((F.getLastD w).1 > (F.getLastD w).2.1) = false := dec_false (by have := u3.2.1.2; omega)
    have hq : decide (q > (l.length : Int)) = false := dec_false (by omega)
    have i1 := rising _ _ hm1 u2
    have i2 := rising _ _ hm2 u1
    simp only [i1, i2, Option.bind_some, List.length_map, cond_true, Bool.not_true, cond_false, Bool.or_self, hsz, Bool.false_or, Bool.true_and, beq_self_eq_true]
    by_cases h0 : F.length = 0
    · rw [guardP_pos (by simp [h0])]
      simp [h0, hq]
    · rw [i64_ok (n := (F.length : Int) - 1) (by omega) (by omega)]
      have e2 : ((F.length : Int) - 1).toNat = F.length - 1 := by omega
      rw [e2, lst (by omega), guardP_pos (by intros; omega)]
      simp [hq]

theorem fnGrowths_own : ownKnob Try.prog.godebug = none := by kernel_rfl
set_option maxRecDepth 100000 in
theorem fnGrowths_lifted (os : Os) (started : os.Started) (H : Type) (enc : TypeId × Value → H) :
    ReturnsInHanded {} Try.checked os 3 .any (Rows.fnGrowthsSpec.pre6 enc Try.prog Try.f3 Rows.fnGrowthsRow.domain false) (Rows.fnGrowthsSpec.post enc Try.prog Try.f3 false true false false) := by
  refine returnsInHanded_of_change (C := Try.checked) fnGrowths_own started (by kernel_rfl) Try.func3
    (ChangeSpec.witness6 (enc := enc) (C := Try.checked) false ⟨#[], #[.slice none 0 0], []⟩ 8 (by kernel_rfl) (by kernel_rfl) (by kernel_rfl) (by kernel_rfl)) ?_
  intro W base args ds gs before hval hW _ _
  exact law_contract ok_laws_FnGrowths law_true rfl (fun H ds h => by
    match ds, h with
    | [d0], _ => rfl) (by kernel_rfl) (by kernel_rfl) rfl Try.underlying4 W base args ds gs before hval trivial hW
/-- The law returns true for all arguments. -/
theorem fnGrowths_proved : Rows.FnGrowthsSaid :=
  OpenClaim.holds_of_wide 3 Try.f3 rfl rfl rfl rfl rfl rfl rfl ⟨rfl, rfl, rfl, rfl, rfl⟩ rfl rfl rfl rfl rfl (by kernel_rfl) Try.func3 (by kernel_rfl)
    (of_decide_eq_true (by kernel_rfl)) (by unfold Func.isWrapper; first | (rw [if_pos (by decide +kernel)]; kernel_rfl) | (rw [if_neg (by decide +kernel)]; exact ⟨rfl, rfl⟩))
    (fun os started H enc _ => fnGrowths_lifted os started H enc)
#print axioms fnGrowths_proved
end Go.Proofs.Ytifcipnimblkpab

/- FnExactFormatFrames returns true for all arguments. No condition. -/
import Derived.Test.YtifcipnimblkpabDoorModExactFormatFrames
import Derived.KernelRfl
import Derived.Test.YtifcipnimblkpabDoorCards
import Derived.Test.YtifcipnimblkpabDoorTie
import Derived.ProofKit
import Derived.LaidMore
import Derived.OpenShut
import Derived.Stop.Joined
import Derived.SevenTiedAt
import Derived.Lib.LaidTab
import Derived.Stop.LaidErr
import Derived.LaidHandle
import Derived.Lib.ItoaLen
namespace Go.Proofs.YtifcipnimblkpabDoor
open Go.Am Go.ChangeShapes Go.WideShapes Go.ChangeAt Go.RowKit
set_option linter.unusedVariables false
/-! numbers as texts -/
theorem u8_ok (n : Int) (h0 : 0 ≤ n) (h1 : n < 256) : IntKind.u8.wrap n = n := by
  have : n % 2 ^ 8 = n := Int.emod_eq_of_lt h0 (by omega)
  simp only [IntKind.wrap, IntKind.bits, IntKind.signed, this]
  simp
def digs (u : Nat) : List UInt8 := if u = 0 then [] else Go.Lib.decDigits u
theorem digs_step {u : Nat} (h : u ≠ 0) : digs u = digs (u / 10) ++ [UInt8.ofNat (48 + u % 10)] := by
  unfold digs
  rw [if_neg h, Go.Lib.decDigits]
  by_cases h10 : u < 10
  · rw [dif_pos h10, if_pos (by omega), List.nil_append, Nat.mod_eq_of_lt h10]
  · rw [dif_neg h10, if_neg (by omega)]
theorem fmt_j1 {K1 : (Int × List UInt8 × Bool × Unit) → Option (List UInt8 × Unit)} {n : Int} {out : List UInt8} {neg : Bool} {d : Nat} (hd : d < 10) (hl : 1 + out.length ≤ capS) :
    spec_FormatInt_j1 K1 n out neg (d : Int) = K1 (IntKind.i64.wrap (Int.tdiv n 10), UInt8.ofNat (48 + d) :: out, neg, ()) := by
  unfold spec_FormatInt_j1
  have h1 : bytesOf [IntKind.u8.wrap (IntKind.i64.wrap ((48 : Int) + (d : Int)))] = [UInt8.ofNat (48 + d)] := by
    rw [i64_ok (by omega) (by omega), u8_ok _ (by omega) (by omega)]
    simp only [bytesOf, List.map_cons, List.map_nil]
    congr 2
  simp only [h1]
  rw [guardP_pos (by simpa using hl), guardP_pos (by decide)]
  rfl
theorem fmt_loop : ∀ (k u N : Nat) (n : Int) (out : List UInt8) (neg : Bool), u < 10 ^ k → k < N → u ≤ 9223372036854775808 → (n = (u : Int) ∨ n = -(u : Int)) → out.length + k ≤ 1000 → (n = 9223372036854775808 → False) →
    spec_FormatInt_l1 N n out neg = some ((bif neg then 45 :: (digs u ++ out) else digs u ++ out), ())
  | k, u, 0, n, out, neg, h1, h2, _, _, _, _ => by omega
  | k, u, N + 1, n, out, neg, h1, h2, h3, h4, h5, h6 => by
    unfold spec_FormatInt_l1
    by_cases hu : u = 0
    · have hn : n = 0 := by omega
      rw [bif_false (by simp [hn])]
      rw [guardP_pos (by simp only [capS, List.length_cons, List.length_nil]; omega)]
      have : digs u = [] := by rw [hu]; rfl
      rw [this]
      cases neg <;> rfl
    · have hn : n ≠ 0 := by omega
      rw [bif_true (by simp [hn]), guardP_pos (by decide)]
      cases k with
      | zero => simp at h1; omega
      | succ k =>
        have hd : u / 10 < 10 ^ k := by
          rw [Nat.pow_succ] at h1
          omega
        have hm : u % 10 < 10 := Nat.mod_lt _ (by decide)
        have hq : IntKind.i64.wrap (Int.tdiv n 10) = ((u / 10 : Nat) : Int) ∨ IntKind.i64.wrap (Int.tdiv n 10) = -((u / 10 : Nat) : Int) := by
          rcases h4 with rfl | rfl
          · left; rw [Int.tdiv_eq_ediv_of_nonneg (by omega), i64_ok (by omega) (by omega)]; omega
          · right; rw [Int.neg_tdiv, Int.tdiv_eq_ediv_of_nonneg (by omega), i64_ok (by omega) (by omega)]; omega
        have go : spec_FormatInt_j1 (fun v => spec_FormatInt_l1 N v.1 v.2.1 v.2.2.1) n out neg ((u % 10 : Nat) : Int) = some ((bif neg then 45 :: (digs u ++ out) else digs u ++ out), ()) := by
          rw [fmt_j1 hm (by simp only [capS]; omega)]
          show spec_FormatInt_l1 N (IntKind.i64.wrap (Int.tdiv n 10)) (UInt8.ofNat (48 + u % 10) :: out) neg = _
          rw [fmt_loop k (u / 10) N _ _ neg hd (by omega) (by omega) hq (by simp only [List.length_cons]; omega) (by intro h; rcases hq with hq | hq <;> omega)]
          rw [digs_step hu, List.append_assoc]
          rfl
        rcases h4 with rfl | rfl
        · have e : Int.tmod (u : Int) 10 = ((u % 10 : Nat) : Int) := by rw [Int.tmod_eq_emod_of_nonneg (by omega)]; omega
          rw [e, bif_false (dec_false (by omega))]
          exact go
        · have e : Int.tmod (-(u : Int)) 10 = -((u % 10 : Nat) : Int) := by rw [Int.neg_tmod, Int.tmod_eq_emod_of_nonneg (by omega)]; omega
          rw [e]
          by_cases hz : u % 10 = 0
          · rw [bif_false (dec_false (by omega))]
            have : -((u % 10 : Nat) : Int) = ((u % 10 : Nat) : Int) := by omega
            rw [this]; exact go
          · rw [bif_true (dec_true (by omega)), i64_ok (by omega) (by omega)]
            have : 0 - -((u % 10 : Nat) : Int) = ((u % 10 : Nat) : Int) := by omega
            rw [this]; exact go
theorem fmtInt (n : Int) (h0 : -9223372036854775808 ≤ n) (h1 : n ≤ 9223372036854775807) : spec_FormatInt n = some (Go.Lib.itoa n, ()) := by
  unfold spec_FormatInt
  by_cases hz : n = 0
  · rw [bif_true (by simp [hz]), hz]
    unfold Go.Lib.itoa
    rw [if_neg (by omega), Go.Lib.decDigits, dif_pos (by decide)]
    rfl
  · rw [bif_false (by simp [hz])]
    have hp : n.natAbs < 10 ^ 20 := by
      have : (9223372036854775809 : Nat) ≤ 10 ^ 20 := by decide
      omega
    rw [fmt_loop 20 n.natAbs _ n [] _ hp (by unfold spec_FormatInt_l1_fuel; omega) (by omega) (by omega) (by simp) (by omega)]
    unfold Go.Lib.itoa digs
    rw [if_neg (by omega), List.append_nil]
    by_cases hn : n < 0
    · rw [dec_true hn, if_pos hn]; rfl
    · rw [dec_false hn, if_neg hn]
      have : n.natAbs = n.toNat := by omega
      rw [this]; rfl
theorem itoa_len (n : Int) (h0 : -9223372036854775808 ≤ n) (h1 : n ≤ 9223372036854775807) : (Go.Lib.itoa n).length ≤ 21 := Go.Lib.itoa_length_le n h0 h1
theorem implInt (n : Int) (h0 : -9223372036854775808 ≤ n) (h1 : n ≤ 9223372036854775807) : impl_FormatInt n = some (Go.Lib.itoa n, ()) := by
  unfold impl_FormatInt strconv_Itoa
  rw [guardP_pos ⟨h0, h1⟩]
  rfl
/-! lists as texts -/
theorem lit_i64 {x : Int} (h : (Lit.int .i64 x).wf = true) : -9223372036854775808 ≤ x ∧ x ≤ 9223372036854775807 := by
  simp only [Lit.wf, Bool.and_eq_true, decide_eq_true_eq] at h
  exact h
theorem join_snoc (xs : List (List UInt8)) (y sep : List UInt8) (h : xs ≠ []) : Go.Lib.join (xs ++ [y]) sep = Go.Lib.join xs sep ++ sep ++ y := by
  cases xs with
  | nil => exact absurd rfl h
  | cons x r =>
    rw [List.cons_append, Go.Lib.join_cons, Go.Lib.join_cons]
    simp [Go.Lib.joinTail]
theorem join_len (sep : List UInt8) (K : Nat) : ∀ (xs : List (List UInt8)), (∀ x ∈ xs, x.length ≤ K) → (Go.Lib.join xs sep).length ≤ (K + sep.length) * xs.length
  | [], _ => by simp [Go.Lib.join_nil]
  | x :: r, h => by
    rw [Go.Lib.join_cons, List.length_append, Go.Lib.joinTail_length]
    have h1 : x.length ≤ K := h x (by simp)
    have h2 : Go.Lib.lens r ≤ K * r.length := by
      have hr : ∀ z ∈ r, z.length ≤ K := fun z hz => h z (by simp [hz])
      clear h
      induction r with
      | nil => simp [Go.Lib.lens]
      | cons z r ih =>
        have := ih fun q hq => hr q (by simp [hq])
        have hz := hr z (by simp)
        simp only [Go.Lib.lens, List.map_cons, List.sum_cons, List.length_cons] at this ⊢
        rw [Nat.mul_succ]; omega
    rw [List.length_cons, Nat.add_mul, Nat.mul_succ, Nat.mul_succ]
    omega
theorem take_snoc {α : Type} {d : α} {l : List α} {i : Nat} (h : i < l.length) : l.take (i + 1) = l.take i ++ [l.getD i d] := by
  rw [List.take_add_one, List.getElem?_eq_getElem h, List.getD_eq_getElem?_getD, List.getElem?_eq_getElem h]; rfl
theorem sep_loop {α : Type} {d : α} {txt : α → List UInt8} {sep : List UInt8} {ok : α → Prop} {K : Nat} (hK : ∀ x, ok x → (txt x).length ≤ K)
    {L : Nat → List α → List UInt8 → Int → Option (List UInt8 × Unit)} {fin : List UInt8 → Option (List UInt8 × Unit)}
    (hL : ∀ N l (s : List UInt8) (i : Nat), i < l.length → l.length ≤ 1048576 → ok (l.getD i d) → s.length ≤ (K + sep.length) * 1048576 →
      L (N + 1) l s (i : Int) = L N l ((if 0 < i then s ++ sep else s) ++ txt (l.getD i d)) ((i + 1 : Nat) : Int))
    (hE : ∀ N (l : List α) s, L (N + 1) l s (l.length : Int) = fin s) : ∀ (N : Nat) (l : List α) (s : List UInt8) (i : Nat), (∀ x ∈ l, ok x) → l.length ≤ 1048576 → i ≤ l.length → l.length - i < N →
      s = Go.Lib.join ((l.take i).map txt) sep → L N l s (i : Int) = fin (Go.Lib.join (l.map txt) sep)
  | 0, _, _, _, _, _, _, h, _ => by omega
  | N + 1, l, s, i, ho, hl, hi, hN, hs => by
    by_cases h : i < l.length
    · have hx : ok (l.getD i d) := by
        rw [List.getD_eq_getElem?_getD, List.getElem?_eq_getElem h]
        exact ho _ (List.getElem_mem h)
      have hb : s.length ≤ (K + sep.length) * 1048576 := by
        rw [hs]
        refine Nat.le_trans (join_len sep K _ ?_) (Nat.mul_le_mul_left _ ?_)
        · intro x hx
          obtain ⟨y, hy, rfl⟩ := List.mem_map.1 hx
          exact hK y (ho y (List.mem_of_mem_take hy))
        · rw [List.length_map, List.length_take]; omega
      rw [hL N l s i h hl hx hb]
      refine sep_loop hK hL hE N l _ (i + 1) ho hl h (by omega) ?_
      rw [take_snoc (d := d) h, List.map_append, List.map_cons, List.map_nil]
      by_cases h0 : 0 < i
      · rw [if_pos h0, hs, join_snoc]
        intro e
        have := congrArg List.length e
        rw [List.length_map, List.length_take, List.length_nil] at this
        omega
      · have : i = 0 := by omega
        subst this
        rw [if_neg h0, hs]
        simp [Go.Lib.join_one, Go.Lib.join_nil]
    · have : i = l.length := by omega
      subst this
      rw [hE, hs, List.take_length]
theorem push_loop {α β : Type} {d : α} {txt : α → β} {ok : α → Prop} {ρ : Type}
    {L : Nat → List β → List α → Int → Int → Option ρ} {fin : List β → Option ρ}
    (hL : ∀ N out (l : List α) (i : Nat), i < l.length → l.length ≤ 1048576 → ok (l.getD i d) → out.length ≤ i → L (N + 1) out l (l.length : Int) (i : Int) = L N (out ++ [txt (l.getD i d)]) l (l.length : Int) ((i + 1 : Nat) : Int))
    (hE : ∀ N out (l : List α), L (N + 1) out l (l.length : Int) (l.length : Int) = fin out) : ∀ (N : Nat) (l : List α) (out : List β) (i : Nat), (∀ x ∈ l, ok x) → l.length ≤ 1048576 → i ≤ l.length → l.length - i < N →
      out = (l.take i).map txt → L N out l (l.length : Int) (i : Int) = fin (l.map txt)
  | 0, _, _, _, _, _, _, h, _ => by omega
  | N + 1, l, out, i, ho, hl, hi, hN, hs => by
    by_cases h : i < l.length
    · have hx : ok (l.getD i d) := by
        rw [List.getD_eq_getElem?_getD, List.getElem?_eq_getElem h]
        exact ho _ (List.getElem_mem h)
      rw [hL N out l i h hl hx (by rw [hs, List.length_map, List.length_take]; omega)]
      refine push_loop hL hE N l _ (i + 1) ho hl h (by omega) ?_
      rw [take_snoc (d := d) h, List.map_append, List.map_cons, List.map_nil, hs]
    · have : i = l.length := by omega
      subst this
      rw [hE, hs, List.take_length]
theorem orNone_eq (s : List UInt8) : impl_orNone s = (bif s == ([] : List UInt8) then some (([110, 111, 110, 101] : List UInt8), ()) else some (s, ())) := by
  unfold impl_orNone impl_told
  cases h : s == ([] : List UInt8) <;> rfl
def fq (x : Int) : Bool := decide (x ≥ (0 : Int)) && decide (x ≤ (4611686018427387903 : Int))
theorem quic_spec (x : Int) : spec_l4Quic x = some (fq x, ()) := rfl
theorem quic_impl (x : Int) : impl_isQuic x = some (fq x, ()) := rfl
theorem kindName_eq : impl_KindName = spec_KindName := rfl
theorem about_eq : impl_IsAboutStream = spec_IsAboutStream := rfl
theorem used_eq : impl_used = spec_l4Used := rfl
/-- the parts of a frame that its kind has, and no others -/
def plainFrame (f : TFrame) : Bool :=
  bif f.1 == 4 then decide (f.2.2.1 = 0) && (f.2.2.2.1 == []) && (f.2.2.2.2.1 == false) && decide (f.2.2.2.2.2.2.1 = 0) && (f.2.2.2.2.2.2.2.2.1 == false)
  else bif f.1 == 5 then decide (f.2.2.1 = 0) && (f.2.2.2.1 == []) && (f.2.2.2.2.1 == false) && decide (f.2.2.2.2.2.2.1 = 0) && decide (f.2.2.2.2.2.2.2.1 = 0) && (f.2.2.2.2.2.2.2.2.1 == false)
  else bif f.1 == 8 then decide (f.2.2.2.2.2.1 = 0) && decide (f.2.2.2.2.2.2.1 = 0) && decide (f.2.2.2.2.2.2.2.1 = 0) && (f.2.2.2.2.2.2.2.2.1 == false)
  else bif f.1 == 17 || f.1 == 21 then decide (f.2.2.1 = 0) && (f.2.2.2.1 == []) && (f.2.2.2.2.1 == false) && decide (f.2.2.2.2.2.1 = 0) && decide (f.2.2.2.2.2.2.2.1 = 0) && (f.2.2.2.2.2.2.2.2.1 == false)
  else bif f.1 == 18 || f.1 == 22 then decide (f.2.1 = 0) && decide (f.2.2.1 = 0) && (f.2.2.2.1 == []) && (f.2.2.2.2.1 == false) && decide (f.2.2.2.2.2.1 = 0) && decide (f.2.2.2.2.2.2.2.1 = 0)
  else bif f.1 == 16 || f.1 == 20 then decide (f.2.1 = 0) && decide (f.2.2.1 = 0) && (f.2.2.2.1 == []) && (f.2.2.2.2.1 == false) && decide (f.2.2.2.2.2.1 = 0) && decide (f.2.2.2.2.2.2.2.1 = 0) && (f.2.2.2.2.2.2.2.2.1 == false)
  else false
def frameOK (f : TFrame) : Bool :=
  plainFrame f && fq f.2.1 && fq f.2.2.1 && fq f.2.2.2.2.2.1 && fq f.2.2.2.2.2.2.1 && fq f.2.2.2.2.2.2.2.1 && decide (f.2.2.2.1.length ≤ 400) && (bif f.1 == 18 || f.1 == 22 then decide (f.2.2.2.2.2.2.1 ≤ (1152921504606846976 : Int)) else decide (f.2.2.1 ≤ (4611686018427387903 : Int) - (f.2.2.2.1.length : Int)))
theorem name_nil (k : Int) : ∃ s, spec_KindName k = some (s, ()) ∧ ((s == ([] : List UInt8)) = !(k == 4 || k == 5 || k == 8 || k == 16 || k == 17 || k == 18 || k == 20 || k == 21 || k == 22)) := by
  unfold spec_KindName
  cases h4 : k == 4 <;> cases h5 : k == 5 <;> cases h8 : k == 8 <;> cases h16 : k == 16 <;> cases h17 : k == 17 <;> cases h18 : k == 18 <;> cases h20 : k == 20 <;> cases h21 : k == 21 <;> cases h22 : k == 22 <;> exact ⟨_, rfl, rfl⟩
theorem used_spec (f : TFrame) : ∃ u, spec_l4Used f = some (u, ()) ∧ ((f.1 == 4 || f.1 == 5 || f.1 == 8 || f.1 == 16 || f.1 == 17 || f.1 == 18 || f.1 == 20 || f.1 == 21 || f.1 == 22) = true → eqV tyFrame u f = plainFrame f ∧ eqV tyFrame f u = plainFrame f) := by
  obtain ⟨k, st, off, data, fin, code, lim, final, uni, z⟩ := f
  by_cases h4 : k = 4
  · subst h4; exact ⟨_, rfl, fun _ => by constructor <;> rw [Bool.eq_iff_iff] <;> simp [eqV, plainFrame] <;> grind⟩
  by_cases h5 : k = 5
  · subst h5; exact ⟨_, rfl, fun _ => by constructor <;> rw [Bool.eq_iff_iff] <;> simp [eqV, plainFrame] <;> grind⟩
  by_cases h8 : k = 8
  · subst h8; exact ⟨_, rfl, fun _ => by constructor <;> rw [Bool.eq_iff_iff] <;> simp [eqV, plainFrame] <;> grind⟩
  by_cases h17 : k = 17
  · subst h17; exact ⟨_, rfl, fun _ => by constructor <;> rw [Bool.eq_iff_iff] <;> simp [eqV, plainFrame] <;> grind⟩
  by_cases h21 : k = 21
  · subst h21; exact ⟨_, rfl, fun _ => by constructor <;> rw [Bool.eq_iff_iff] <;> simp [eqV, plainFrame] <;> grind⟩
  by_cases h18 : k = 18
  · subst h18; exact ⟨_, rfl, fun _ => by constructor <;> rw [Bool.eq_iff_iff] <;> simp [eqV, plainFrame] <;> grind⟩
  by_cases h22 : k = 22
  · subst h22; exact ⟨_, rfl, fun _ => by constructor <;> rw [Bool.eq_iff_iff] <;> simp [eqV, plainFrame] <;> grind⟩
  by_cases h16 : k = 16
  · subst h16; exact ⟨_, rfl, fun _ => by constructor <;> rw [Bool.eq_iff_iff] <;> simp [eqV, plainFrame] <;> grind⟩
  by_cases h20 : k = 20
  · subst h20; exact ⟨_, rfl, fun _ => by constructor <;> rw [Bool.eq_iff_iff] <;> simp [eqV, plainFrame] <;> grind⟩
  · have e : ∀ c : Int, k ≠ c → (k == c) = false := fun c h => by simp [h]
    refine ⟨(k, 0, 0, [], false, 0, lim, 0, false, ()), ?_, fun hk => ?_⟩
    rotate_left
    · simp only [e _ h4, e _ h5, e _ h8, e _ h17, e _ h21, e _ h18, e _ h22, e _ h16, e _ h20] at hk
      cases hk
    · unfold spec_l4Used spec_IsAboutStream spec_IsAboutStream_j1 spec_l4Used_j1 spec_l4Used_j2
      simp only [e _ h4, e _ h5, e _ h8, e _ h17, e _ h21, e _ h18, e _ h22, cond_false, Option.bind_some]
theorem plain_off {f : TFrame} (h : plainFrame f = true) (h8 : f.1 ≠ 8) : f.2.2.1 = 0 ∧ f.2.2.2.1 = [] := by
  obtain ⟨k, st, off, data, fin, code, lim, final, uni, z⟩ := f
  unfold plainFrame at h
  simp only at h h8 ⊢
  have e8 : (k == 8) = false := by simp [h8]
  rw [e8] at h
  revert h
  cases k == 4 <;> cases k == 5 <;> cases (k == 17 || k == 21) <;> cases (k == 18 || k == 22) <;> cases (k == 16 || k == 20) <;> simp <;> grind
theorem plain_kind {f : TFrame} (h : plainFrame f = true) : (f.1 == 4 || f.1 == 5 || f.1 == 8 || f.1 == 16 || f.1 == 17 || f.1 == 18 || f.1 == 20 || f.1 == 21 || f.1 == 22) = true := by
  obtain ⟨k, st, off, data, fin, code, lim, final, uni, z⟩ := f
  unfold plainFrame at h
  simp only at h ⊢
  revert h
  cases k == 4 <;> cases k == 5 <;> cases k == 8 <;> cases k == 17 <;> cases k == 21 <;> cases k == 18 <;> cases k == 22 <;> cases k == 16 <;> cases k == 20 <;> simp
theorem spec_isFrame (f : TFrame) (hl : f.2.2.2.1.length ≤ 1048576) : spec_IsFrame f = some (frameOK f, ()) := by
  obtain ⟨s, hs, hn⟩ := name_nil f.1
  obtain ⟨u, hu, hp⟩ := used_spec f
  unfold spec_IsFrame
  simp only [hs, hu, quic_spec, Option.bind_some, hn]
  cases hk : (f.1 == 4 || f.1 == 5 || f.1 == 8 || f.1 == 16 || f.1 == 17 || f.1 == 18 || f.1 == 20 || f.1 == 21 || f.1 == 22)
  · have hpf : plainFrame f = false := by
      cases h : plainFrame f
      · rfl
      · rw [plain_kind h] at hk; cases hk
    simp only [Bool.not_false, cond_true, Option.bind_some, Bool.true_or]
    unfold frameOK
    rw [hpf]; rfl
  · simp only [Bool.not_true, cond_false, Option.bind_some, Bool.false_or, (hp hk).1]
    have hq : frameOK f = (plainFrame f && fq f.2.1 && fq f.2.2.1 && fq f.2.2.2.2.2.1 && fq f.2.2.2.2.2.2.1 && fq f.2.2.2.2.2.2.2.1 && decide (f.2.2.2.1.length ≤ 400) && (bif f.1 == 18 || f.1 == 22 then decide (f.2.2.2.2.2.2.1 ≤ (1152921504606846976 : Int)) else decide (f.2.2.1 ≤ (4611686018427387903 : Int) - (f.2.2.2.1.length : Int)))) := rfl
    rw [hq, i64_ok (by omega) (by omega)]
    have hd : decide ((f.2.2.2.1.length : Int) > 400) = !(decide (f.2.2.2.1.length ≤ 400)) := by
      rw [Bool.eq_iff_iff]; simp; omega
    rw [hd]
    cases hpf : plainFrame f
    · simp
    · have hoff := plain_off hpf
      cases fq f.2.1 <;> cases fq f.2.2.1 <;> cases fq f.2.2.2.2.2.1 <;> cases fq f.2.2.2.2.2.2.1 <;> cases fq f.2.2.2.2.2.2.2.1 <;> cases hlen : decide (f.2.2.2.1.length ≤ 400) <;> try rfl
      by_cases h8 : f.1 = 8
      · simp [h8]
      · have e8 : (f.1 == 8) = false := by simp [h8]
        obtain ⟨o1, o2⟩ := hoff h8
        unfold spec_IsFrame_j1
        cases h18 : f.1 == 18 <;> cases h22 : f.1 == 22 <;> simp [e8, o1, o2]
theorem impl_isFrame (f : TFrame) (hl : f.2.2.2.1.length ≤ 1048576) : impl_IsFrame f = some (frameOK f, ()) := by
  obtain ⟨s, hs, hn⟩ := name_nil f.1
  obtain ⟨u, hu, hp⟩ := used_spec f
  unfold impl_IsFrame
  rw [kindName_eq, used_eq]
  simp only [hs, hu, quic_impl, Option.bind_some, hn]
  cases hk : (f.1 == 4 || f.1 == 5 || f.1 == 8 || f.1 == 16 || f.1 == 17 || f.1 == 18 || f.1 == 20 || f.1 == 21 || f.1 == 22)
  · have hpf : plainFrame f = false := by
      cases h : plainFrame f
      · rfl
      · rw [plain_kind h] at hk; cases hk
    simp only [Bool.not_false, cond_true, Option.bind_some, Bool.true_or]
    unfold frameOK
    rw [hpf]; rfl
  · simp only [Bool.not_true, cond_false, Option.bind_some, Bool.false_or, (hp hk).2]
    have hq : frameOK f = (plainFrame f && fq f.2.1 && fq f.2.2.1 && fq f.2.2.2.2.2.1 && fq f.2.2.2.2.2.2.1 && fq f.2.2.2.2.2.2.2.1 && decide (f.2.2.2.1.length ≤ 400) && (bif f.1 == 18 || f.1 == 22 then decide (f.2.2.2.2.2.2.1 ≤ (1152921504606846976 : Int)) else decide (f.2.2.1 ≤ (4611686018427387903 : Int) - (f.2.2.2.1.length : Int)))) := rfl
    rw [hq, i64_ok (by omega) (by omega)]
    have hd : decide ((f.2.2.2.1.length : Int) ≤ 400) = (decide (f.2.2.2.1.length ≤ 400)) := by
      rw [Bool.eq_iff_iff]; simp; omega
    rw [hd]
    cases hpf : plainFrame f
    · simp
    · have hoff := plain_off hpf
      cases fq f.2.1 <;> cases fq f.2.2.1 <;> cases fq f.2.2.2.2.2.1 <;> cases fq f.2.2.2.2.2.2.1 <;> cases fq f.2.2.2.2.2.2.2.1 <;> try rfl
      by_cases h8 : f.1 = 8
      · simp [h8]
      · obtain ⟨o1, o2⟩ := hoff h8
        cases h18 : f.1 == 18 <;> cases h22 : f.1 == 22 <;> simp [o1, o2]
/-! bytes as hexadecimal digits -/
def hexd (k : Nat) : Int := ((([48, 49, 50, 51, 52, 53, 54, 55, 56, 57, 97, 98, 99, 100, 101, 102] : List UInt8).getD k 0).toNat : Int)
def hx (b : UInt8) : List Int := [hexd (b.toNat / 16), hexd (b.toNat % 16)]
theorem drop_cons {α : Type} {d : α} {l : List α} {i : Nat} (h : i < l.length) : l.drop i = l.getD i d :: l.drop (i + 1) := by
  rw [List.drop_eq_getElem_cons h, List.getD_eq_getElem?_getD, List.getElem?_eq_getElem h]; rfl
theorem hex_spec : ∀ (N : Nat) (l : List UInt8) (out : List Int) (i : Nat), l.length ≤ 1048576 → out.length ≤ 2 * i → i ≤ l.length → l.length - i < N →
    spec_EncodeHex_l1 N l out (i : Int) = some (bytesOf (out ++ (l.drop i).flatMap hx), ())
  | 0, _, _, _, _, _, _, h => by omega
  | N + 1, l, out, i, hl, ho, hi, hN => by
    unfold spec_EncodeHex_l1
    by_cases h : i < l.length
    · have e : (i : Int).toNat = i := rfl
      rw [bif_true (dec_true (by omega)), guardP_pos (by omega), guardP_pos (by decide), guardP_pos (by omega), guardP_pos (by decide), e]
      have hb : (l.getD i 0).toNat < 256 := (l.getD i 0).toNat_lt
      generalize hc : l.getD i 0 = c at *
      have e1 : IntKind.i64.wrap (Int.tdiv (IntKind.i64.wrap (c.toNat : Int)) 16) = ((c.toNat / 16 : Nat) : Int) := by
        rw [show IntKind.i64.wrap (c.toNat : Int) = (c.toNat : Int) from i64_ok (by omega) (by omega), Int.tdiv_eq_ediv_of_nonneg (by omega), i64_ok (by omega) (by omega)]; omega
      have e2 : Int.tmod (IntKind.i64.wrap (c.toNat : Int)) 16 = ((c.toNat % 16 : Nat) : Int) := by
        rw [show IntKind.i64.wrap (c.toNat : Int) = (c.toNat : Int) from i64_ok (by omega) (by omega), Int.tmod_eq_emod_of_nonneg (by omega)]; omega
      have dig : ∀ k : Nat, k < 16 → spec_l1Digit (k : Int) = some (hexd k, ()) := fun k hk => by
        unfold spec_l1Digit hexd
        rw [guardP_pos (by simp only [List.length_cons, List.length_nil]; omega)]
        rfl
      rw [e1, e2, dig _ (by omega), dig _ (by omega)]
      simp only [Option.bind_some]
      rw [guardP_pos (by simp only [List.length_cons, List.length_nil, capN]; omega), i64_succ h (by omega)]
      rw [hex_spec N l _ (i + 1) hl (by simp only [List.length_append, List.length_cons, List.length_nil]; omega) h (by omega)]
      rw [drop_cons (d := (0 : UInt8)) h, hc, List.flatMap_cons, List.append_assoc]
      rfl
    · have : i = l.length := by omega
      subst this
      rw [bif_false (dec_false (by omega)), List.drop_length]
      simp
theorem hex_impl : ∀ (N : Nat) (l : List UInt8) (out : List Int) (i : Nat), l.length ≤ 1048576 → out.length ≤ 2 * i → i ≤ l.length → l.length - i < N →
    impl_EncodeHex_l1 N l out (i : Int) = some (bytesOf (out ++ (l.drop i).flatMap hx), ())
  | 0, _, _, _, _, _, _, h => by omega
  | N + 1, l, out, i, hl, ho, hi, hN => by
    unfold impl_EncodeHex_l1
    by_cases h : i < l.length
    · have e : (i : Int).toNat = i := rfl
      rw [bif_true (dec_true (by omega)), guardP_pos (by omega), guardP_pos (by decide), e]
      have hb : (l.getD i 0).toNat < 256 := (l.getD i 0).toNat_lt
      generalize hc : l.getD i 0 = c at *
      have e1 : IntKind.u8.wrap (Int.tdiv (c.toNat : Int) 16) = ((c.toNat / 16 : Nat) : Int) := by
        rw [Int.tdiv_eq_ediv_of_nonneg (by omega), u8_ok _ (by omega) (by omega)]; omega
      have e2 : Int.tmod (c.toNat : Int) 16 = ((c.toNat % 16 : Nat) : Int) := by
        rw [Int.tmod_eq_emod_of_nonneg (by omega)]; omega
      simp only [e1, e2]
      rw [guardP_pos (by simp only [List.length_cons, List.length_nil]; omega), guardP_pos (by omega), guardP_pos (by decide), guardP_pos (by simp only [List.length_cons, List.length_nil]; omega),
        guardP_pos (by simp only [List.length_cons, List.length_nil, capN]; omega), i64_succ h (by omega)]
      rw [hex_impl N l _ (i + 1) hl (by simp only [List.length_append, List.length_cons, List.length_nil]; omega) h (by omega)]
      rw [drop_cons (d := (0 : UInt8)) h, hc, List.flatMap_cons, List.append_assoc]
      rfl
    · have : i = l.length := by omega
      subst this
      rw [bif_false (dec_false (by omega)), List.drop_length]
      simp
def hexT (l : List UInt8) : List UInt8 := bytesOf (l.flatMap hx)
theorem hexT_len (l : List UInt8) : (hexT l).length = 2 * l.length := by
  unfold hexT bytesOf
  rw [List.length_map]
  induction l with
  | nil => rfl
  | cons c l ih => rw [List.flatMap_cons, List.length_append, ih]; simp only [hx, List.length_cons, List.length_nil]; omega
theorem hexS (l : List UInt8) (h : l.length ≤ 1048576) : spec_EncodeHex l = some (hexT l, ()) := by
  unfold spec_EncodeHex
  exact hex_spec _ l [] 0 h (by simp) (by omega) (by unfold spec_EncodeHex_l1_fuel; omega)
theorem hexI (l : List UInt8) (h : l.length ≤ 1048576) : impl_EncodeHex l = some (hexT l, ()) := by
  unfold impl_EncodeHex
  exact hex_impl _ l [] 0 h (by simp) (by omega) (by unfold impl_EncodeHex_l1_fuel; omega)
theorem fq_pos {x : Int} (h : fq x = true) : 0 ≤ x ∧ x ≤ 4611686018427387903 := by
  unfold fq at h
  simp only [Bool.and_eq_true, decide_eq_true_eq] at h
  exact ⟨h.1, h.2⟩
theorem small_spec (x : Int) : spec_l32Small x = some (decide (x ≥ 0) && decide (x ≤ 999999999), ()) := rfl
theorem frame_text (f : TFrame) (hl : f.2.2.2.1.length ≤ 1048576) : ∃ r, spec_FormatFrame f = some (r, ()) ∧ impl_FormatFrame f = some (r, ()) ∧ r.length ≤ 2000 := by
  unfold spec_FormatFrame impl_FormatFrame
  simp only [spec_isFrame f hl, impl_isFrame f hl, Option.bind_some, small_spec]
  cases hok : frameOK f
  · exact ⟨[], rfl, rfl, by simp⟩
  · have hok' := hok
    unfold frameOK at hok'
    simp only [Bool.and_eq_true, decide_eq_true_eq] at hok'
    obtain ⟨⟨⟨⟨⟨⟨⟨hp, q1⟩, q2⟩, q3⟩, q4⟩, q5⟩, hlen⟩, _⟩ := hok'
    have q1 := fq_pos q1
    have q2 := fq_pos q2
    have q3 := fq_pos q3
    have q4 := fq_pos q4
    have q5 := fq_pos q5
    have hk := plain_kind hp
    unfold impl_isSmall
    have d0 : ∀ x : Int, 0 ≤ x → (decide (x ≥ 0) && decide (x ≤ 999999999)) = decide (x ≤ 999999999) := fun x hx => by simp [hx]
    simp only [d0 _ q1.1, d0 _ q2.1, d0 _ q3.1, d0 _ q4.1, d0 _ q5.1, Bool.not_true, cond_false, Bool.false_or, Option.bind_some]
    cases h1 : decide (f.2.1 ≤ 999999999)
    · exact ⟨[], rfl, rfl, by simp⟩
    cases h2 : decide (f.2.2.1 ≤ 999999999)
    · exact ⟨[], rfl, rfl, by simp⟩
    cases h3 : decide (f.2.2.2.2.2.1 ≤ 999999999)
    · exact ⟨[], rfl, rfl, by simp⟩
    cases h4 : decide (f.2.2.2.2.2.2.1 ≤ 999999999)
    · exact ⟨[], rfl, rfl, by simp⟩
    cases h5 : decide (f.2.2.2.2.2.2.2.1 ≤ 999999999)
    · exact ⟨[], rfl, rfl, by simp⟩
    obtain ⟨k, st, off, data, fin, code, lim, final, uni, z⟩ := f
    simp only at *
    have s1 := fmtInt st (by omega) (by omega)
    have i1 := implInt st (by omega) (by omega)
    have l1 := itoa_len st (by omega) (by omega)
    have s2 := fmtInt off (by omega) (by omega)
    have i2 := implInt off (by omega) (by omega)
    have l2 := itoa_len off (by omega) (by omega)
    have s3 := fmtInt code (by omega) (by omega)
    have i3 := implInt code (by omega) (by omega)
    have l3 := itoa_len code (by omega) (by omega)
    have s4 := fmtInt lim (by omega) (by omega)
    have i4 := implInt lim (by omega) (by omega)
    have l4 := itoa_len lim (by omega) (by omega)
    have s5 := fmtInt final (by omega) (by omega)
    have i5 := implInt final (by omega) (by omega)
    have l5 := itoa_len final (by omega) (by omega)
    have sh := hexS data hl
    have ih := hexI data hl
    have lh := hexT_len data
    generalize Go.Lib.itoa st = a at *
    generalize Go.Lib.itoa off = b at *
    generalize Go.Lib.itoa code = c at *
    generalize Go.Lib.itoa lim = d at *
    generalize Go.Lib.itoa final = e at *
    generalize hexT data = h at *
    have fin' : ∀ l : List (List UInt8), l.length ≤ 100 → (Go.Lib.join l [32]).length ≤ 100000 → impl_FormatFrame_j3 l = some (Go.Lib.join l [32], ()) := fun l g1 g2 => by
      unfold impl_FormatFrame_j3 strings_Join
      rw [guardP_pos ⟨by omega, by omega⟩]; rfl
    simp only [Bool.or_eq_true, beq_iff_eq] at hk
    rcases hk with (((((((rfl | rfl) | rfl) | rfl) | rfl) | rfl) | rfl) | rfl) | rfl
    all_goals
      cases fin <;> cases uni <;>
      (simp only [kindName_eq, about_eq, spec_KindName, spec_IsAboutStream, spec_IsAboutStream_j1, spec_FormatFrame_j1, spec_FormatFrame_j2, impl_FormatFrame_j1, impl_FormatFrame_j2, spec_l32Fin, spec_l32Uni, impl_told, Int.reduceBEq, beq_self_eq_true,
        Bool.not_true, cond_false, cond_true, Bool.or_false, Bool.or_true, Bool.false_or, Bool.and_self, Option.bind_some, s1, s2, s3, s4, s5, sh, i1, i2, i3, i4, i5, ih]
       repeat rw [guardP_pos (by simp only [List.length_append, List.length_cons, List.length_nil, capN, capS]; omega)]
       rw [fin' _ (by simp only [List.length_append, List.length_cons, List.length_nil]; omega) (by simp only [List.cons_append, List.nil_append, Go.Lib.join_cons, Go.Lib.joinTail, List.map_cons, List.map_nil, List.flatten_cons, List.flatten_nil, List.length_append, List.length_cons, List.length_nil]; omega)]
       refine ⟨_, rfl, ?_, ?_⟩
       · simp [Go.Lib.join_cons, Go.Lib.joinTail]
       · simp only [List.length_append, List.length_cons, List.length_nil]; omega)
theorem sz_laws_szFrame (a : TFrame) (hw : wf (tyFrame) a) : SzOK (fun left => laws_szFrame a left) (small 1048576 (tyFrame) a) := by
  exact SzOK.imp (SzOK.len a.2.2.2.1 hw.2.2.2.1 SzOK.last) (fun h => ⟨trivial, ⟨trivial, ⟨trivial, ⟨h.1, ⟨trivial, ⟨trivial, ⟨trivial, ⟨trivial, ⟨trivial, trivial⟩⟩⟩⟩⟩⟩⟩⟩⟩)

theorem sz_laws_szFrameS (a : List TFrame) (hw : wf (.slice 44 (tyFrame)) a) : SzOK (fun left => laws_szFrameS a left) (small 1048576 (.slice 44 (tyFrame)) a) := by
  exact SzOK.len a hw.1 (SzOK.loop (d := zFrame) (g := laws_szFrame) (L := laws_szFrameS_l1) (fun _ _ _ _ => rfl) (fuel := laws_szFrameS_l1_fuel) (fun a left => by unfold laws_szFrameS_l1_fuel; omega) hw.1 (fun x hx => sz_laws_szFrame x (hw.2 x hx)))

theorem to_laws_toFrame (a : TFrame) (h : small 1048576 (tyFrame) a) : laws_toFrame a = some (a, ()) := by
  rfl

theorem to_laws_toFrameS (a : List TFrame) (h : small 1048576 (.slice 44 (tyFrame)) a) : laws_toFrameS a = some (a, ()) := by
  unfold laws_toFrameS
  have hl := h.1
  simp only []
  rw [guardP_pos (by unfold capN; omega)]
  exact copy_loop_by (d := zFrame) (g := laws_toFrame) (ok := small 1048576 (tyFrame)) to_laws_toFrame (L := laws_toFrameS_l1) (fun _ _ _ _ => rfl) _ a _ 0 h.2 (by omega) (by simp) (by omega) (by simp) (by unfold laws_toFrameS_l1_fuel; omega)

theorem eq_laws_eqFrame (a : TFrame) (h : small 1048576 (tyFrame) a) : laws_eqFrame a a = some (true, ()) := by
  unfold laws_eqFrame
  simp only [bne_self_eq_false, beq_self_eq_true, Bool.not_true, cond_false]

theorem eq_laws_eqFrameS (a : List TFrame) (h : small 1048576 (.slice 47 (tyFrame)) a) : laws_eqFrameS a a = some (true, ()) := by
  unfold laws_eqFrameS
  have hl := h.1
  rw [bif_false (by simp)]
  exact eq_loop_in (d := zFrame) (g := laws_eqFrame) (L := laws_eqFrameS_l1) (fun _ _ _ _ => rfl) _ a 0 (fun x hx => eq_laws_eqFrame x (h.2 x hx)) (by omega) (by omega) (by unfold laws_eqFrameS_l1_fuel; omega)

noncomputable def ftxt (f : TFrame) : List UInt8 := match spec_FormatFrame f with | some (r, _) => r | none => []
def fok (f : TFrame) : Prop := f.2.2.2.1.length ≤ 1048576
theorem ftxt_spec (f : TFrame) (h : fok f) : spec_FormatFrame f = some (ftxt f, ()) ∧ impl_FormatFrame f = some (ftxt f, ()) ∧ (ftxt f).length ≤ 2000 := by
  obtain ⟨r, h1, h2, h3⟩ := frame_text f h
  have e : ftxt f = r := by unfold ftxt; rw [h1]
  rw [e]
  exact ⟨h1, h2, h3⟩
def lfin (s : List UInt8) : Option (List UInt8 × Unit) := bif s == ([] : List UInt8) then some (([110, 111, 110, 101] : List UInt8), ()) else some (s, ())
theorem spec_frames (l : List TFrame) (ho : ∀ x ∈ l, fok x) (hl : l.length ≤ 1048576) : spec_FormatFrames l = lfin (Go.Lib.join (l.map ftxt) [59, 32]) := by
  unfold spec_FormatFrames
  refine sep_loop (d := zFrame) (ok := fok) (K := 2000) (fun x hx => (ftxt_spec x hx).2.2) (L := spec_FormatFrames_l1) (fin := lfin) ?_ ?_ _ l [] 0 ho hl (by omega) (by unfold spec_FormatFrames_l1_fuel; omega) (by simp [Go.Lib.join_nil])
  · intro N l s i h hl hx hs
    have hs : s.length ≤ 2099249152 := hs
    obtain ⟨f1, _, l1⟩ := ftxt_spec _ hx
    conv => lhs; unfold spec_FormatFrames_l1 spec_FormatFrames_j1
    rw [bif_true (dec_true (by omega))]
    have e : (i : Int).toNat = i := rfl
    have key : ∀ s' : List UInt8, s'.length ≤ 2099249154 → (guardP (0 ≤ (i : Int) ∧ (i : Int) < l.length) <|
        Option.bind (spec_FormatFrame (l.getD (i : Int).toNat zFrame)) fun t20 =>
        guardP (s'.length + t20.1.length ≤ capS) <|
        spec_FormatFrames_l1 N l (s' ++ t20.1) (IntKind.i64.wrap ((i : Int) + (1 : Int)))) = spec_FormatFrames_l1 N l (s' ++ ftxt (l.getD i zFrame)) ((i + 1 : Nat) : Int) := by
      intro s' hs'
      rw [e, guardP_pos (by omega), f1]
      simp only [Option.bind_some]
      rw [guardP_pos (by simp only [capS]; omega), i64_succ h (by omega)]
    by_cases h0 : 0 < i
    · rw [bif_true (dec_true (by omega)), guardP_pos (by simp only [List.length_cons, List.length_nil, capS]; omega), if_pos h0]
      exact key (s ++ [59, 32]) (by simp only [List.length_append, List.length_cons, List.length_nil]; omega)
    · rw [bif_false (dec_false (by omega)), if_neg h0]
      exact key s (by omega)
  · intro N l s
    unfold spec_FormatFrames_l1
    rw [bif_false (dec_false (by omega))]
    rfl
theorem impl_frames (l : List TFrame) (ho : ∀ x ∈ l, fok x) (hl : l.length ≤ 1048576) : impl_FormatFrames l = lfin (Go.Lib.join (l.map ftxt) [59, 32]) := by
  unfold impl_FormatFrames
  have hj : (Go.Lib.join (l.map ftxt) [59, 32]).length ≤ 2099249152 := by
    refine Nat.le_trans (join_len [59, 32] 2000 _ fun x hx => ?_) ?_
    · obtain ⟨y, hy, rfl⟩ := List.mem_map.1 hx
      exact (ftxt_spec y (ho y hy)).2.2
    · rw [List.length_map, List.length_cons, List.length_cons, List.length_nil]; omega
  refine Eq.trans (push_loop (d := zFrame) (ok := fok) (txt := ftxt) (L := impl_FormatFrames_l1) (fin := fun out => Option.bind (strings_Join out ([59, 32] : List UInt8)) fun t27 => Option.bind (impl_orNone t27.1) fun t28 => some (t28.1, ())) ?_ ?_ _ l [] 0 ho hl (by omega) (by unfold impl_FormatFrames_l1_fuel; omega) (by simp)) ?_
  rotate_left 2
  · show Option.bind (strings_Join (l.map ftxt) [59, 32]) _ = _
    unfold strings_Join
    rw [guardP_pos ⟨by rw [List.length_map]; omega, by omega⟩]
    simp only [Option.bind_some, orNone_eq]
    unfold lfin
    cases Go.Lib.join (l.map ftxt) [59, 32] == [] <;> rfl
  · intro N out l i h hl hx hout
    obtain ⟨_, f1, l1⟩ := ftxt_spec _ hx
    conv => lhs; unfold impl_FormatFrames_l1
    have e : (i : Int).toNat = i := rfl
    rw [bif_true (dec_true (by omega)), guardP_pos (by omega), e, f1]
    simp only [Option.bind_some]
    rw [guardP_pos (by simp only [List.length_cons, List.length_nil, capN]; omega), i64_succ h (by omega)]
  · intro N out l
    unfold impl_FormatFrames_l1
    rw [bif_false (dec_false (by omega))]
theorem law_true : ∀ xs : dens [.slice 44 tyFrame], wfA [.slice 44 tyFrame] xs → laws_FnExactFormatFrames xs.1 = some (true, ()) := by
  intro ⟨l, _⟩ ⟨hw, _⟩
  obtain ⟨r, hr, _, hs⟩ := sz_laws_szFrameS l hw 1048576 (by omega) (by omega)
  unfold laws_FnExactFormatFrames
  simp only [hr, Option.bind_some]
  by_cases h0 : r < 0
  · rw [bif_true (dec_true h0)]
  · rw [bif_false (dec_false h0)]
    have hs := hs (by omega)
    have ho : ∀ x ∈ l, fok x := fun x hx => (hs.2 x hx).2.2.2.1
    have e := to_laws_toFrameS l hs
    have e2 := eq_laws_eqFrameS l hs
    simp only [e, Option.bind_some, spec_frames l ho hs.1, impl_frames l ho hs.1]
    unfold lfin
    cases Go.Lib.join (l.map ftxt) [59, 32] == [] <;> simp [e2]

theorem fnExactFormatFrames_own : ownKnob Tryd.prog.godebug = none := by kernel_rfl
theorem fnExactFormatFrames_door (os : Os) (args : Array Value) : laidMetH Tryd.prog Rows.fnExactFormatFramesRow.laid ((World.doorLaid Tryd.prog 400 os).forCall (fun _ _ => 0) ⟨#[], args, []⟩).memory :=
  laidMetH_of_parts3 (fuel := 8) (laidMet_of_run' 8 (by kernel_rfl) (by kernel_rfl)) (by kernel_rfl) (by kernel_rfl)
theorem fnExactFormatFrames_tab {W : World} (h : laidMetH Tryd.prog Rows.fnExactFormatFramesRow.laid W) : glob.G W := by
  rw [MakeChecks.laidMetH_plain _ _ _ (by kernel_rfl)] at h
  have ht : Go.Lib.TabIs Tryd.prog W "internal/strconv.uint64pow10" .u64 Go.Lib.pow10Tab :=
    Go.Lib.tabIs_of_head (g := 2) (t := 115) (e := 108) (n := 20) (by kernel_rfl) (by kernel_rfl) (by kernel_rfl) (by kernel_rfl) (by kernel_rfl) (by kernel_rfl) (show laidMet Tryd.prog [("internal/strconv.uint64pow10", Go.Lib.tabData .u64 Go.Lib.pow10Tab)] W from h.tail.tail)
  intro p hp
  simp only [List.mem_singleton] at hp
  subst hp
  exact ht
set_option maxRecDepth 100000 in
theorem fnExactFormatFrames_lifted (os : Os) (started : os.Started) (H : Type) (enc : TypeId × Value → H) :
    ReturnsInHanded {} Tryd.checked os 7 .any (fun w args => (Rows.fnExactFormatFramesSpec.pre enc Tryd.prog Tryd.f7 [] false w args ∧ laidMetH Tryd.prog Rows.fnExactFormatFramesRow.laid w) ∧ sizedMet enc Tryd.prog Tryd.f7 (OpenSpec.ofChange Rows.fnExactFormatFramesSpec) false w args)
      (Rows.fnExactFormatFramesSpec.post enc Tryd.prog Tryd.f7 false true false false) := by
  refine returnsInHanded_of_change_and (C := Tryd.checked) (X := fun w _ => laidMetH Tryd.prog Rows.fnExactFormatFramesRow.laid w) (fun _ _ _ hh h => h.of_heap hh) fnExactFormatFrames_own started (by kernel_rfl) Tryd.func7
    (ChangeSpec.witness_shaped (enc := enc) (C := Tryd.checked) (os := os) (X := fun w _ => laidMetH Tryd.prog Rows.fnExactFormatFramesRow.laid w) false (World.doorLaid Tryd.prog 400 os) #[.slice none 0 0] 8 rfl (World.shaped_of_RefB (by kernel_rfl) (by kernel_rfl)) (by kernel_rfl) (by kernel_rfl) (by kernel_rfl) (fnExactFormatFrames_door os _)) ?_
  intro W base args ds gs before hval hW _ _ hL _
  exact law_contract ok_laws_FnExactFormatFrames law_true rfl (fun H ds h => by
    match ds, h with
    | [d0], _ => rfl) (by kernel_rfl) (by kernel_rfl) rfl Tryd.underlying4 W base args ds gs before hval (fnExactFormatFrames_tab hL) hW
theorem fnExactFormatFrames_said : Rows.FnExactFormatFramesSaid :=
  OpenClaim.holds_of_wide 7 Tryd.f7 rfl rfl rfl rfl rfl rfl rfl ⟨rfl, rfl, rfl, rfl, rfl⟩ rfl rfl rfl rfl rfl (by kernel_rfl) Tryd.func7 (by kernel_rfl)
    (of_decide_eq_true (by kernel_rfl)) (by unfold Func.isWrapper; first | (rw [if_pos (by decide +kernel)]; kernel_rfl) | (rw [if_neg (by decide +kernel)]; exact ⟨rfl, rfl⟩))
    (fun os started H enc _ => fnExactFormatFrames_lifted os started H enc)
/-- The law returns true for all arguments; the tables that the program text lays are tied. -/
theorem fnExactFormatFrames_proved : Rows.FnExactFormatFramesCardSaid :=
  Claim7.holds_tied_plain_at .later [] Rows.fnExactFormatFramesCard.laidKinds true Rows.fnExactFormatFramesCard.stood.harness false
    fnExactFormatFrames_said (fun _ h => by cases h) (by kernel_rfl) (fun _ h => by cases h) fnExactFormatFrames_row_tie rfl ⟨rfl, rfl⟩ (by kernel_rfl) rfl
    (fun f fn hf hfn => by
      obtain rfl : f = 7 := Option.some.inj ((show Tryd.prog.funcNamed Rows.fnExactFormatFramesRow.func = some 7 by kernel_rfl).symm.trans hf) |>.symm
      obtain rfl : fn = Tryd.f7 := (Option.some.inj (Tryd.func7.symm.trans hfn)).symm
      exact ⟨by kernel_rfl, fun j t ht => by
        rw [Tryd.params7] at ht
        have hm : t ∈ [50] := by simpa using Array.mem_of_getElem? ht
        have hall : ([50].all fun u => !Tryd.prog.wantsStandIn u) = true := by kernel_rfl
        exact (show Tryd.prog.wantsStandIn t = false by simpa using List.all_eq_true.1 hall t hm)⟩)
    (by kernel_rfl)
#print axioms fnExactFormatFrames_proved
end Go.Proofs.YtifcipnimblkpabDoor

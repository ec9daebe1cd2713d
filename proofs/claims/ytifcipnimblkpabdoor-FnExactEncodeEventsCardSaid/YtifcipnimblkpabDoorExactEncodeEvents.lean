/- FnExactEncodeEvents returns true for all arguments. No condition. -/
import Derived.Test.YtifcipnimblkpabDoorModExactEncodeEvents
import Derived.KernelRfl
import Derived.Test.YtifcipnimblkpabDoorCards
import Derived.Test.YtifcipnimblkpabDoorTie
import Derived.ProofKit
import Derived.LaidMore
import Derived.OpenShut
import Derived.Stop.Joined
import Derived.SevenTiedAt
import Derived.Lib.LaidTab
import Derived.Stop.LaidErr
import Derived.LaidHandle
import Derived.Lib.ItoaLen
namespace Go.Proofs.YtifcipnimblkpabDoor
open Go.Am Go.ChangeShapes Go.WideShapes Go.ChangeAt Go.RowKit
set_option linter.unusedVariables false
/-! numbers as texts -/
theorem u8_ok (n : Int) (h0 : 0 ≤ n) (h1 : n < 256) : IntKind.u8.wrap n = n := by
  have : n % 2 ^ 8 = n := Int.emod_eq_of_lt h0 (by omega)
  simp only [IntKind.wrap, IntKind.bits, IntKind.signed, this]
  simp
def digs (u : Nat) : List UInt8 := if u = 0 then [] else Go.Lib.decDigits u
theorem digs_step {u : Nat} (h : u ≠ 0) : digs u = digs (u / 10) ++ [UInt8.ofNat (48 + u % 10)] := by
  unfold digs
  rw [if_neg h, Go.Lib.decDigits]
  by_cases h10 : u < 10
  · rw [dif_pos h10, if_pos (by omega), List.nil_append, Nat.mod_eq_of_lt h10]
  · rw [dif_neg h10, if_neg (by omega)]
theorem fmt_j1 {K1 : (Int × List UInt8 × Bool × Unit) → Option (List UInt8 × Unit)} {n : Int} {out : List UInt8} {neg : Bool} {d : Nat} (hd : d < 10) (hl : 1 + out.length ≤ capS) :
    spec_FormatInt_j1 K1 n out neg (d : Int) = K1 (IntKind.i64.wrap (Int.tdiv n 10), UInt8.ofNat (48 + d) :: out, neg, ()) := by
  unfold spec_FormatInt_j1
  have h1 : bytesOf [IntKind.u8.wrap (IntKind.i64.wrap ((48 : Int) + (d : Int)))] = [UInt8.ofNat (48 + d)] := by
    rw [i64_ok (by omega) (by omega), u8_ok _ (by omega) (by omega)]
    simp only [bytesOf, List.map_cons, List.map_nil]
    congr 2
  simp only [h1]
  rw [guardP_pos (by simpa using hl), guardP_pos (by decide)]
  rfl
theorem fmt_loop : ∀ (k u N : Nat) (n : Int) (out : List UInt8) (neg : Bool), u < 10 ^ k → k < N → u ≤ 9223372036854775808 → (n = (u : Int) ∨ n = -(u : Int)) → out.length + k ≤ 1000 → (n = 9223372036854775808 → False) →
    spec_FormatInt_l1 N n out neg = some ((bif neg then 45 :: (digs u ++ out) else digs u ++ out), ())
  | k, u, 0, n, out, neg, h1, h2, _, _, _, _ => by omega
  | k, u, N + 1, n, out, neg, h1, h2, h3, h4, h5, h6 => by
    unfold spec_FormatInt_l1
    by_cases hu : u = 0
    · have hn : n = 0 := by omega
      rw [bif_false (by simp [hn])]
      rw [guardP_pos (by simp only [capS, List.length_cons, List.length_nil]; omega)]
      have : digs u = [] := by rw [hu]; rfl
      rw [this]
      cases neg <;> rfl
    · have hn : n ≠ 0 := by omega
      rw [bif_true (by simp [hn]), guardP_pos (by decide)]
      cases k with
      | zero => simp at h1; omega
      | succ k =>
        have hd : u / 10 < 10 ^ k := by
          rw [Nat.pow_succ] at h1
          omega
        have hm : u % 10 < 10 := Nat.mod_lt _ (by decide)
        have hq : IntKind.i64.wrap (Int.tdiv n 10) = ((u / 10 : Nat) : Int) ∨ IntKind.i64.wrap (Int.tdiv n 10) = -((u / 10 : Nat) : Int) := by
          rcases h4 with rfl | rfl
          · left; rw [Int.tdiv_eq_ediv_of_nonneg (by omega), i64_ok (by omega) (by omega)]; omega
          · right; rw [Int.neg_tdiv, Int.tdiv_eq_ediv_of_nonneg (by omega), i64_ok (by omega) (by omega)]; omega
        have go : spec_FormatInt_j1 (fun v => spec_FormatInt_l1 N v.1 v.2.1 v.2.2.1) n out neg ((u % 10 : Nat) : Int) = some ((bif neg then 45 :: (digs u ++ out) else digs u ++ out), ()) := by
          rw [fmt_j1 hm (by simp only [capS]; omega)]
          show spec_FormatInt_l1 N (IntKind.i64.wrap (Int.tdiv n 10)) (UInt8.ofNat (48 + u % 10) :: out) neg = _
          rw [fmt_loop k (u / 10) N _ _ neg hd (by omega) (by omega) hq (by simp only [List.length_cons]; omega) (by intro h; rcases hq with hq | hq <;> omega)]
          rw [digs_step hu, List.append_assoc]
          rfl
        rcases h4 with rfl | rfl
        · have e : Int.tmod (u : Int) 10 = ((u % 10 : Nat) : Int) := by rw [Int.tmod_eq_emod_of_nonneg (by omega)]; omega
          rw [e, bif_false (dec_false (by omega))]
          exact go
        · have e : Int.tmod (-(u : Int)) 10 = -((u % 10 : Nat) : Int) := by rw [Int.neg_tmod, Int.tmod_eq_emod_of_nonneg (by omega)]; omega
          rw [e]
          by_cases hz : u % 10 = 0
          · rw [bif_false (dec_false (by omega))]
            have : -((u % 10 : Nat) : Int) = ((u % 10 : Nat) : Int) := by omega
            rw [this]; exact go
          · rw [bif_true (dec_true (by omega)), i64_ok (by omega) (by omega)]
            have : 0 - -((u % 10 : Nat) : Int) = ((u % 10 : Nat) : Int) := by omega
            rw [this]; exact go
theorem fmtInt (n : Int) (h0 : -9223372036854775808 ≤ n) (h1 : n ≤ 9223372036854775807) : spec_FormatInt n = some (Go.Lib.itoa n, ()) := by
  unfold spec_FormatInt
  by_cases hz : n = 0
  · rw [bif_true (by simp [hz]), hz]
    unfold Go.Lib.itoa
    rw [if_neg (by omega), Go.Lib.decDigits, dif_pos (by decide)]
    rfl
  · rw [bif_false (by simp [hz])]
    have hp : n.natAbs < 10 ^ 20 := by
      have : (9223372036854775809 : Nat) ≤ 10 ^ 20 := by decide
      omega
    rw [fmt_loop 20 n.natAbs _ n [] _ hp (by unfold spec_FormatInt_l1_fuel; omega) (by omega) (by omega) (by simp) (by omega)]
    unfold Go.Lib.itoa digs
    rw [if_neg (by omega), List.append_nil]
    by_cases hn : n < 0
    · rw [dec_true hn, if_pos hn]; rfl
    · rw [dec_false hn, if_neg hn]
      have : n.natAbs = n.toNat := by omega
      rw [this]; rfl
theorem itoa_len (n : Int) (h0 : -9223372036854775808 ≤ n) (h1 : n ≤ 9223372036854775807) : (Go.Lib.itoa n).length ≤ 21 := Go.Lib.itoa_length_le n h0 h1
theorem implInt (n : Int) (h0 : -9223372036854775808 ≤ n) (h1 : n ≤ 9223372036854775807) : impl_FormatInt n = some (Go.Lib.itoa n, ()) := by
  unfold impl_FormatInt strconv_Itoa
  rw [guardP_pos ⟨h0, h1⟩]
  rfl
/-! bytes as hexadecimal digits -/
def hexd (k : Nat) : Int := ((([48, 49, 50, 51, 52, 53, 54, 55, 56, 57, 97, 98, 99, 100, 101, 102] : List UInt8).getD k 0).toNat : Int)
def hx (b : UInt8) : List Int := [hexd (b.toNat / 16), hexd (b.toNat % 16)]
theorem drop_cons {α : Type} {d : α} {l : List α} {i : Nat} (h : i < l.length) : l.drop i = l.getD i d :: l.drop (i + 1) := by
  rw [List.drop_eq_getElem_cons h, List.getD_eq_getElem?_getD, List.getElem?_eq_getElem h]; rfl
/-! events -/
theorem word_eq (k : Int) : spec_EventWord k = impl_EventWord k := by
  by_cases h : 1 ≤ k ∧ k ≤ 12
  · have : k = 1 ∨ k = 2 ∨ k = 3 ∨ k = 4 ∨ k = 5 ∨ k = 6 ∨ k = 7 ∨ k = 8 ∨ k = 9 ∨ k = 10 ∨ k = 11 ∨ k = 12 := by omega
    unfold spec_EventWord spec_l1In
    simp only [Option.bind_some]
    rcases this with rfl | rfl | rfl | rfl | rfl | rfl | rfl | rfl | rfl | rfl | rfl | rfl
    all_goals
      rw [bif_false (by decide)]
      rw [guardP_pos (by decide)]
      rfl
  · have e1 : (decide (k ≥ 1) && decide (k ≤ 12)) = false := by rw [Bool.and_eq_false_iff, decide_eq_false_iff_not, decide_eq_false_iff_not]; omega
    unfold spec_EventWord spec_l1In impl_EventWord
    simp only [Option.bind_some, e1]
    rfl
theorem all_loop {p : UInt8 → Bool} {fin : List UInt8 → Bool} {L : Nat → List UInt8 → Int → Option (Bool × Unit)}
    (hL : ∀ N s (i : Nat), i < s.length → s.length ≤ 1048576 → L (N + 1) s (i : Int) = bif p (s.getD i 0) then L N s ((i + 1 : Nat) : Int) else some (false, ()))
    (hE : ∀ N (s : List UInt8), s.length ≤ 1048576 → L (N + 1) s (s.length : Int) = some (fin s, ())) : ∀ (N : Nat) (s : List UInt8) (i : Nat), s.length ≤ 1048576 → i ≤ s.length → s.length - i < N → L N s (i : Int) = some ((s.drop i).all p && fin s, ())
  | 0, _, _, _, _, h => by omega
  | N + 1, s, i, hs, hi, hN => by
    by_cases h : i < s.length
    · rw [hL N s i h hs, drop_cons (d := (0 : UInt8)) h, List.all_cons]
      cases p (s.getD i 0)
      · rfl
      · rw [cond_true, all_loop hL hE N s (i + 1) hs h (by omega), Bool.true_and]
    · have : i = s.length := by omega
      subst this
      rw [hE N s hs, List.drop_length]; rfl
def inB (lo hi : Int) (b : UInt8) : Bool := !(decide ((b.toNat : Int) < lo) || decide ((b.toNat : Int) > hi))
def len40 (s : List UInt8) : Bool := decide ((s.length : Int) ≥ 1) && decide ((s.length : Int) ≤ 40)
theorem not_or (a b : Bool) {α : Type} (x y : α) : (bif a || b then x else y) = (bif !(a || b) then y else x) := by cases a <;> cases b <;> rfl
theorem letters_spec (s : List UInt8) (h : s.length ≤ 1048576) : spec_l23Letters s = some (s.all (inB 97 122) && len40 s, ()) := by
  unfold spec_l23Letters
  refine all_loop (L := spec_l23Letters_l1) (fin := len40) ?_ ?_ _ s 0 h (by omega) (by unfold spec_l23Letters_l1_fuel; omega)
  · intro N s i hi hs
    conv => lhs; unfold spec_l23Letters_l1
    have e : (i : Int).toNat = i := rfl
    rw [bif_true (dec_true (by omega)), guardP_pos (by omega)]
    simp only []
    rw [guardP_pos (fun _ => by omega), i64_succ hi (by omega), e, not_or]
    rfl
  · intro N s hs
    unfold spec_l23Letters_l1
    rw [bif_false (dec_false (by omega))]
    rfl
theorem print_spec (s : List UInt8) (h : s.length ≤ 1048576) : spec_l23Printable s = some (s.all (inB 32 126) && len40 s, ()) := by
  unfold spec_l23Printable
  refine all_loop (L := spec_l23Printable_l1) (fin := len40) ?_ ?_ _ s 0 h (by omega) (by unfold spec_l23Printable_l1_fuel; omega)
  · intro N s i hi hs
    conv => lhs; unfold spec_l23Printable_l1
    have e : (i : Int).toNat = i := rfl
    rw [bif_true (dec_true (by omega)), guardP_pos (by omega)]
    simp only []
    rw [guardP_pos (fun _ => by omega), i64_succ hi (by omega), e, not_or]
    rfl
  · intro N s hs
    unfold spec_l23Printable_l1
    rw [bif_false (dec_false (by omega))]
    rfl
theorem bytes_impl (s : List UInt8) (lo hi : Int) (h : s.length ≤ 1048576) : impl_areBytes s lo hi = some (s.all (inB lo hi) && len40 s, ()) := by
  unfold impl_areBytes
  refine all_loop (L := fun N s i => impl_areBytes_l1 N s lo hi i) (fin := len40) ?_ ?_ _ s 0 h (by omega) (by unfold impl_areBytes_l1_fuel; omega)
  · intro N s i hi hs
    conv => lhs; unfold impl_areBytes_l1
    have e : (i : Int).toNat = i := rfl
    rw [bif_true (dec_true (by omega)), guardP_pos (by omega)]
    simp only []
    rw [guardP_pos (fun _ => by omega), i64_succ hi (by omega), e, not_or]
    rfl
  · intro N s hs
    show impl_areBytes_l1 (N + 1) s lo hi (s.length : Int) = _
    unfold impl_areBytes_l1
    rw [bif_false (dec_false (by omega))]
    rfl
theorem fromHex_step (N k : Nat) (b : Int) (hk : k < 16) : spec_l1FromHex_l1 (N + 1) b (k : Int) = if hexd k = b then some ((k : Int), ()) else spec_l1FromHex_l1 N b ((k + 1 : Nat) : Int) := by
  conv => lhs; unfold spec_l1FromHex_l1
  have dig : spec_l1Digit (k : Int) = some (hexd k, ()) := by
    unfold spec_l1Digit hexd
    rw [guardP_pos (by simp only [List.length_cons, List.length_nil]; omega)]
    rfl
  rw [bif_true (dec_true (by omega)), dig]
  simp only [Option.bind_some]
  rw [i64_succ (m := 16) hk (by omega)]
  by_cases h : hexd k = b
  · rw [bif_true (by simp [h]), if_pos h]
  · rw [bif_false (by simp [h]), if_neg h]
theorem hexVal_eq (b : UInt8) : spec_l1FromHex (b.toNat : Int) = impl_hexValue (b.toNat : Int) := by
  have hb : b.toNat < 256 := b.toNat_lt
  generalize b.toNat = n at *
  unfold spec_l1FromHex
  have hf : spec_l1FromHex_l1_fuel (n : Int) 0 = 17 := rfl
  rw [hf]
  show spec_l1FromHex_l1 17 (n : Int) ((0 : Nat) : Int) = _
  have e : ∀ k, k < 16 → hexd k = if k < 10 then (48 + k : Int) else (87 + k : Int) := by decide
  have hE : spec_l1FromHex_l1 1 (n : Int) ((16 : Nat) : Int) = some (-1, ()) := rfl
  unfold impl_hexValue
  by_cases h1 : 48 ≤ n ∧ n ≤ 57
  · rw [bif_true (by simp; omega)]
    have u : IntKind.i64.wrap (IntKind.u8.wrap ((n : Int) - 48)) = (n : Int) - 48 := by rw [u8_ok _ (by omega) (by omega), i64_ok (by omega) (by omega)]
    rw [u]
    have : n = 48 ∨ n = 49 ∨ n = 50 ∨ n = 51 ∨ n = 52 ∨ n = 53 ∨ n = 54 ∨ n = 55 ∨ n = 56 ∨ n = 57 := by omega
    rcases this with rfl | rfl | rfl | rfl | rfl | rfl | rfl | rfl | rfl | rfl
    all_goals
      repeat (rw [fromHex_step _ _ _ (by decide)]; first | (rw [if_pos (by decide)]; rfl) | rw [if_neg (by decide)])
  · rw [bif_false (by rw [Bool.and_eq_false_iff, decide_eq_false_iff_not, decide_eq_false_iff_not]; omega)]
    by_cases h2 : 97 ≤ n ∧ n ≤ 102
    · rw [bif_true (by simp; omega)]
      have u : IntKind.i64.wrap (IntKind.i64.wrap (IntKind.u8.wrap ((n : Int) - 97)) + 10) = (n : Int) - 87 := by rw [u8_ok _ (by omega) (by omega), show IntKind.i64.wrap ((n : Int) - 97) = (n : Int) - 97 from i64_ok (by omega) (by omega), i64_ok (by omega) (by omega)]; omega
      rw [u]
      have : n = 97 ∨ n = 98 ∨ n = 99 ∨ n = 100 ∨ n = 101 ∨ n = 102 := by omega
      rcases this with rfl | rfl | rfl | rfl | rfl | rfl
      all_goals
        repeat (rw [fromHex_step _ _ _ (by decide)]; first | (rw [if_pos (by decide)]; rfl) | rw [if_neg (by decide)])
    · rw [bif_false (by rw [Bool.and_eq_false_iff, decide_eq_false_iff_not, decide_eq_false_iff_not]; omega)]
      repeat (rw [fromHex_step _ _ _ (by decide), if_neg (by rw [e _ (by decide)]; split <;> omega)])
      exact hE
theorem hexVal_ge (b : UInt8) : ∃ v : Int, impl_hexValue (b.toNat : Int) = some (v, ()) ∧ -1 ≤ v ∧ v ≤ 15 := by
  have hb : b.toNat < 256 := b.toNat_lt
  generalize b.toNat = n at *
  unfold impl_hexValue
  by_cases h1 : 48 ≤ n ∧ n ≤ 57
  · rw [bif_true (by simp; omega), u8_ok _ (by omega) (by omega), i64_ok (by omega) (by omega)]
    exact ⟨_, rfl, by omega, by omega⟩
  · rw [bif_false (by rw [Bool.and_eq_false_iff, decide_eq_false_iff_not, decide_eq_false_iff_not]; omega)]
    by_cases h2 : 97 ≤ n ∧ n ≤ 102
    · rw [bif_true (by simp; omega), u8_ok _ (by omega) (by omega), show IntKind.i64.wrap ((n : Int) - 97) = (n : Int) - 97 from i64_ok (by omega) (by omega), i64_ok (by omega) (by omega)]
      exact ⟨_, rfl, by omega, by omega⟩
    · rw [bif_false (by rw [Bool.and_eq_false_iff, decide_eq_false_iff_not, decide_eq_false_iff_not]; omega)]
      exact ⟨_, rfl, by omega, by omega⟩
theorem dec_loop : ∀ (N : Nat) (s : List UInt8) (out : List Int) (i : Nat), s.length ≤ 1048576 → s.length % 2 = 0 → i % 2 = 0 → i ≤ s.length → out.length ≤ i → s.length - i < N →
    ∃ d ok, spec_DecodeHex_l1 N s out (i : Int) = some (d, ok, ()) ∧ impl_DecodeHex_l1 N s out (i : Int) = some (d, ok, ())
  | 0, _, _, _, _, _, _, _, _, h => by omega
  | N + 1, s, out, i, hs, h2, hi2, hi, ho, hN => by
    unfold spec_DecodeHex_l1 impl_DecodeHex_l1
    by_cases h : i < s.length
    · have e : (i : Int).toNat = i := rfl
      have e1 : IntKind.i64.wrap ((i : Int) + 1) = ((i + 1 : Nat) : Int) := i64_succ h (by omega)
      have e2 : ((i + 1 : Nat) : Int).toNat = i + 1 := rfl
      have e3 : IntKind.i64.wrap ((i : Int) + 2) = ((i + 2 : Nat) : Int) := by rw [i64_ok (by omega) (by omega)]; omega
      rw [bif_true (dec_true (by omega)), bif_true (dec_true (by omega)), e1, e2, e3, e, hexVal_eq, hexVal_eq]
      obtain ⟨v, hv, v0, v1⟩ := hexVal_ge (s.getD i 0)
      obtain ⟨u, hu, u0, u1⟩ := hexVal_ge (s.getD (i + 1) 0)
      rw [hv, hu]
      simp only [Option.bind_some]
      have q1 : ∀ (ρ : Type) (m : Option ρ), guardP (0 ≤ (i : Int) ∧ (i : Int) < (s.length : Int)) m = m := fun ρ m => guardP_pos (by omega)
      have q2 : ∀ (ρ : Type) (m : Option ρ), guardP (0 ≤ ((i + 1 : Nat) : Int) ∧ ((i + 1 : Nat) : Int) < (s.length : Int)) m = m := fun ρ m => guardP_pos (by omega)
      have q3 : ∀ (ρ : Type) (x : Int) (m : Option ρ), guardP (out.length + [x].length ≤ capN) m = m := fun ρ x m => guardP_pos (by simp only [List.length_cons, List.length_nil, capN]; omega)
      simp only [q1, q2, q3]
      by_cases hn : v < 0 ∨ u < 0
      · rw [bif_true (by simp; omega), bif_true (by simp; omega)]
        exact ⟨_, _, rfl, rfl⟩
      · rw [bif_false (by simp; omega), bif_false (by simp; omega)]
        exact dec_loop N s _ (i + 2) hs h2 (by omega) (by omega) (by simp only [List.length_append, List.length_cons, List.length_nil]; omega) (by omega)
    · rw [bif_false (dec_false (by omega)), bif_false (dec_false (by omega))]
      exact ⟨_, _, rfl, rfl⟩
theorem decodeHex_eq (s : List UInt8) (h : s.length ≤ 1048576) : ∃ d ok, spec_DecodeHex s = some (d, ok, ()) ∧ impl_DecodeHex s = some (d, ok, ()) := by
  unfold spec_DecodeHex impl_DecodeHex
  rw [guardP_pos (by decide), guardP_pos (by decide)]
  have e : Int.tmod (s.length : Int) 2 = ((s.length % 2 : Nat) : Int) := by rw [Int.tmod_eq_emod_of_nonneg (by omega)]; omega
  rw [e]
  by_cases h1 : s.length % 2 = 1
  · rw [h1, bif_true (by rfl), bif_true (by rfl)]
    exact ⟨_, _, rfl, rfl⟩
  · have h0 : s.length % 2 = 0 := by omega
    rw [h0, bif_false (by rfl), bif_false (by rfl)]
    exact dec_loop _ s [] 0 h h0 (by omega) (by omega) (by simp) (by unfold spec_DecodeHex_l1_fuel; omega)
def okE (x : Int) : Bool := decide (x ≥ 0) && decide (x ≤ 999999)
theorem okE_pos {x : Int} (h : okE x = true) : 0 ≤ x ∧ x ≤ 999999 := by
  unfold okE at h
  simp only [Bool.and_eq_true, decide_eq_true_eq] at h
  exact ⟨h.1, h.2⟩
/-- the two judge an event alike -/
theorem isEvent (e : TEvent) (hl : e.2.2.2.1.length ≤ 1048576) : ∃ b, spec_IsEvent e = some (b, ()) ∧ impl_IsEvent e = some (b, ()) ∧ (b = true → (1 ≤ e.1 ∧ e.1 ≤ 12) ∧ (0 ≤ e.2.1 ∧ e.2.1 ≤ 999999) ∧ (0 ≤ e.2.2.1 ∧ e.2.2.1 ≤ 999999)) := by
  obtain ⟨k, id, n, text, z⟩ := e
  simp only at hl ⊢
  unfold spec_IsEvent impl_IsEvent
  simp only [word_eq]
  by_cases hk : 1 ≤ k ∧ k ≤ 12
  · obtain ⟨d, ok, hd1, hd2⟩ := decodeHex_eq text hl
    have hs : ∀ x, spec_l1In x 0 999999 = some (okE x, ()) := fun _ => rfl
    have hi : ∀ x, impl_within x 0 999999 = some (okE x, ()) := fun _ => rfl
    have hs4 : ∀ x, spec_l1In x 1 400 = some (decide (x ≥ 1) && decide (x ≤ 400), ()) := fun _ => rfl
    have hi4 : ∀ x, impl_within x 1 400 = some (decide (x ≥ 1) && decide (x ≤ 400), ()) := fun _ => rfl
    have := hk
    have : k = 1 ∨ k = 2 ∨ k = 3 ∨ k = 4 ∨ k = 5 ∨ k = 6 ∨ k = 7 ∨ k = 8 ∨ k = 9 ∨ k = 10 ∨ k = 11 ∨ k = 12 := by omega
    have key : ∀ b1 b2 : Option (Bool × Unit), (∃ b, b1 = some (b, ()) ∧ b2 = some (b, ()) ∧ (b = true → okE id = true ∧ okE n = true)) → ∃ b, b1 = some (b, ()) ∧ b2 = some (b, ()) ∧ (b = true → (1 ≤ k ∧ k ≤ 12) ∧ (0 ≤ id ∧ id ≤ 999999) ∧ (0 ≤ n ∧ n ≤ 999999)) :=
      fun b1 b2 ⟨b, g1, g2, g3⟩ => ⟨b, g1, g2, fun h => ⟨hk, okE_pos (g3 h).1, okE_pos (g3 h).2⟩⟩
    apply key
    have hne : ((bif decide (1 ≤ k) && decide (k ≤ 12) then wordsL.getD k.toNat [] else []) == ([] : List UInt8)) = false := by
      rcases this with rfl | rfl | rfl | rfl | rfl | rfl | rfl | rfl | rfl | rfl | rfl | rfl <;> rfl
    have e1 : decide ((0 : Int) = id) = (id == 0) := by rw [Bool.eq_iff_iff]; simp only [decide_eq_true_eq, beq_iff_eq]; exact ⟨Eq.symm, Eq.symm⟩
    have e2 : decide ((0 : Int) = n) = (n == 0) := by rw [Bool.eq_iff_iff]; simp only [decide_eq_true_eq, beq_iff_eq]; exact ⟨Eq.symm, Eq.symm⟩
    have e3 : (([] : List UInt8) == text) = (text == []) := by rw [Bool.eq_iff_iff]; simp only [beq_iff_eq]; exact ⟨Eq.symm, Eq.symm⟩
    rcases this with rfl | rfl | rfl | rfl | rfl | rfl | rfl | rfl | rfl | rfl | rfl | rfl
    all_goals
      simp only [impl_EventWord, impl_uses, impl_uses_j1, impl_uses_j2, impl_uses_j3, spec_l23Form, spec_l23Form_j1, spec_l23Form_j2, spec_l23Form_j3, impl_isText, Int.reduceBEq, cond_true, cond_false, Option.bind_some, hs, hi, letters_spec text hl, print_spec text hl, bytes_impl text _ _ hl, hd1, hd2, hs4, hi4]
      simp only [eqV, hne, e1, e2, e3, eq_self, decide_true, beq_self_eq_true, Bool.true_and, Bool.and_true, Bool.not_false, cond_true, cond_false, Option.bind_some, Bool.false_or]
      generalize (id == (0 : Int)) = b1
      generalize (n == (0 : Int)) = b2
      generalize (text == ([] : List UInt8)) = b3
      generalize okE id = b4
      generalize okE n = b5
      generalize (text == ([98, 105, 100, 105] : List UInt8) || text == ([117, 110, 105] : List UInt8)) = c1
      generalize (text.all (inB 97 122) && len40 text) = c2
      generalize (text.all (inB 32 126) && len40 text) = c3
      generalize (decide ((d.length : Int) ≥ 1) && decide ((d.length : Int) ≤ 400)) = c4
      cases b1 <;> cases b2 <;> cases b3 <;> cases b4 <;> cases b5 <;> first | exact ⟨_, rfl, rfl, fun h => by first | exact ⟨rfl, rfl⟩ | cases h⟩ | (cases c1 <;> exact ⟨_, rfl, rfl, fun h => by first | exact ⟨rfl, rfl⟩ | cases h⟩) | (cases c2 <;> exact ⟨_, rfl, rfl, fun h => by first | exact ⟨rfl, rfl⟩ | cases h⟩) | (cases c3 <;> exact ⟨_, rfl, rfl, fun h => by first | exact ⟨rfl, rfl⟩ | cases h⟩) | (cases c4 <;> cases ok <;> exact ⟨_, rfl, rfl, fun h => by first | exact ⟨rfl, rfl⟩ | cases h⟩)
  · have e2 : (decide (1 ≤ k) && decide (k ≤ 12)) = false := by rw [Bool.and_eq_false_iff, decide_eq_false_iff_not, decide_eq_false_iff_not]; omega
    have hu : ∃ a b c, impl_uses k = some (a, b, c, ()) := by
      unfold impl_uses impl_uses_j1 impl_uses_j2 impl_uses_j3
      cases k == 1 <;> cases k == 11 <;> cases k == 2 <;> cases k == 7 <;> cases k == 3 <;> cases k == 4 <;> cases k == 5 <;> cases k == 6 <;> exact ⟨_, _, _, rfl⟩
    obtain ⟨a, b, c, hu⟩ := hu
    simp only [impl_EventWord, e2, hu, cond_false, Option.bind_some]
    exact ⟨false, rfl, rfl, fun h => by cases h⟩
theorem sz_laws_szEvent (a : TEvent) (hw : wf (tyEvent) a) : SzOK (fun left => laws_szEvent a left) (small 1048576 (tyEvent) a) := by
  exact SzOK.imp (SzOK.len a.2.2.2.1 hw.2.2.2.1 SzOK.last) (fun h => ⟨trivial, ⟨trivial, ⟨trivial, ⟨h.1, trivial⟩⟩⟩⟩)

theorem sz_laws_szEventS (a : List TEvent) (hw : wf (.slice 72 (tyEvent)) a) : SzOK (fun left => laws_szEventS a left) (small 1048576 (.slice 72 (tyEvent)) a) := by
  exact SzOK.len a hw.1 (SzOK.loop (d := zEvent) (g := laws_szEvent) (L := laws_szEventS_l1) (fun _ _ _ _ => rfl) (fuel := laws_szEventS_l1_fuel) (fun a left => by unfold laws_szEventS_l1_fuel; omega) hw.1 (fun x hx => sz_laws_szEvent x (hw.2 x hx)))

theorem to_laws_toEvent (a : TEvent) (h : small 1048576 (tyEvent) a) : laws_toEvent a = some (a, ()) := by
  rfl

theorem to_laws_toEventS (a : List TEvent) (h : small 1048576 (.slice 72 (tyEvent)) a) : laws_toEventS a = some (a, ()) := by
  unfold laws_toEventS
  have hl := h.1
  simp only []
  rw [guardP_pos (by unfold capN; omega)]
  exact copy_loop_by (d := zEvent) (g := laws_toEvent) (ok := small 1048576 (tyEvent)) to_laws_toEvent (L := laws_toEventS_l1) (fun _ _ _ _ => rfl) _ a _ 0 h.2 (by omega) (by simp) (by omega) (by simp) (by unfold laws_toEventS_l1_fuel; omega)

theorem eq_laws_eqEvent (a : TEvent) (h : small 1048576 (tyEvent) a) : laws_eqEvent a a = some (true, ()) := by
  unfold laws_eqEvent
  simp only [bne_self_eq_false, beq_self_eq_true, Bool.not_true, cond_false]

theorem eq_laws_eqEventS (a : List TEvent) (h : small 1048576 (.slice 74 (tyEvent)) a) : laws_eqEventS a a = some (true, ()) := by
  unfold laws_eqEventS
  have hl := h.1
  rw [bif_false (by simp)]
  exact eq_loop_in (d := zEvent) (g := laws_eqEvent) (L := laws_eqEventS_l1) (fun _ _ _ _ => rfl) _ a 0 (fun x hx => eq_laws_eqEvent x (h.2 x hx)) (by omega) (by omega) (by unfold laws_eqEventS_l1_fuel; omega)

theorem event_text (e : TEvent) (hl : e.2.2.2.1.length ≤ 1048576) : ∃ r, spec_FormatEvent e = some (r, ()) ∧ impl_FormatEvent e = some (r, ()) ∧ r.length ≤ 1049000 := by
  obtain ⟨b, h1, h2, h3⟩ := isEvent e hl
  unfold spec_FormatEvent impl_FormatEvent
  simp only [h1, h2, Option.bind_some, word_eq]
  cases b
  · exact ⟨[], rfl, rfl, by simp⟩
  · obtain ⟨hk, hid, hn⟩ := h3 rfl
    obtain ⟨k, id, n, text, z⟩ := e
    simp only at hl hk hid hn ⊢
    have s1 := fmtInt id (by omega) (by omega)
    have i1 := implInt id (by omega) (by omega)
    have l1 := itoa_len id (by omega) (by omega)
    have s2 := fmtInt n (by omega) (by omega)
    have i2 := implInt n (by omega) (by omega)
    have l2 := itoa_len n (by omega) (by omega)
    generalize Go.Lib.itoa id = a at *
    generalize Go.Lib.itoa n = c at *
    have hw : ∃ w, impl_EventWord k = some (w, ()) ∧ w.length ≤ 20 := by
      have : k = 1 ∨ k = 2 ∨ k = 3 ∨ k = 4 ∨ k = 5 ∨ k = 6 ∨ k = 7 ∨ k = 8 ∨ k = 9 ∨ k = 10 ∨ k = 11 ∨ k = 12 := by omega
      rcases this with rfl | rfl | rfl | rfl | rfl | rfl | rfl | rfl | rfl | rfl | rfl | rfl <;> exact ⟨_, rfl, by decide⟩
    obtain ⟨w, hw, hwl⟩ := hw
    simp only [hw]
    have : k = 1 ∨ k = 2 ∨ k = 3 ∨ k = 4 ∨ k = 5 ∨ k = 6 ∨ k = 7 ∨ k = 8 ∨ k = 9 ∨ k = 10 ∨ k = 11 ∨ k = 12 := by omega
    rcases this with rfl | rfl | rfl | rfl | rfl | rfl | rfl | rfl | rfl | rfl | rfl | rfl
    all_goals
      simp only [impl_uses, impl_uses_j1, impl_uses_j2, impl_uses_j3, spec_FormatEvent_j1, spec_FormatEvent_j2, spec_FormatEvent_j3, impl_FormatEvent_j1, impl_FormatEvent_j2, Int.reduceBEq, Bool.not_true, cond_true, cond_false, Option.bind_some, s1, s2, i1, i2]
      repeat rw [guardP_pos (by simp only [List.length_append, List.length_cons, List.length_nil, capS]; omega)]
      refine ⟨_, rfl, ?_, ?_⟩
      · simp
      · simp only [List.length_append, List.length_cons, List.length_nil]; omega
noncomputable def etxt (f : TEvent) : List UInt8 := match spec_FormatEvent f with | some (r, _) => r | none => []
theorem etxt_spec (f : TEvent) (h : f.2.2.2.1.length ≤ 1048576) : spec_FormatEvent f = some (etxt f, ()) ∧ impl_FormatEvent f = some (etxt f, ()) ∧ (etxt f).length ≤ 1049000 := by
  obtain ⟨r, h1, h2, h3⟩ := event_text f h
  have e : etxt f = r := by unfold etxt; rw [h1]
  rw [e]
  exact ⟨h1, h2, h3⟩
theorem enc_loop : ∀ (N M : Nat) (l : List TEvent) (s : List UInt8) (i : Nat), (∀ x ∈ l, x.2.2.2.1.length ≤ 1048576) → l.length ≤ 1048576 → i ≤ l.length → s.length ≤ 1049001 * i → l.length - i < N → l.length - i < M →
    ∃ r, spec_EncodeEvents_l1 N l s (i : Int) = some (r, ()) ∧ impl_EncodeEvents_l1 M s l (l.length : Int) (i : Int) = some (r, ())
  | 0, _, _, _, _, _, _, _, _, h, _ => by omega
  | _, 0, _, _, _, _, _, _, _, _, h => by omega
  | N + 1, M + 1, l, s, i, ho, hl, hi, hs, hN, hM => by
    unfold spec_EncodeEvents_l1 impl_EncodeEvents_l1
    by_cases h : i < l.length
    · have e : (i : Int).toNat = i := rfl
      have hx : (l.getD i zEvent).2.2.2.1.length ≤ 1048576 := by
        rw [List.getD_eq_getElem?_getD, List.getElem?_eq_getElem h]
        exact ho _ (List.getElem_mem h)
      obtain ⟨f1, f2, l1⟩ := etxt_spec _ hx
      have q1 : ∀ (ρ : Type) (m : Option ρ), guardP (0 ≤ (i : Int) ∧ (i : Int) < (l.length : Int)) m = m := fun ρ m => guardP_pos (by omega)
      rw [bif_true (dec_true (by omega)), bif_true (dec_true (by omega)), e]
      simp only [q1, f1, f2, Option.bind_some]
      cases hz : etxt (l.getD i zEvent) == []
      · have hb : s.length ≤ 1049001 * 1048576 := Nat.le_trans hs (Nat.mul_le_mul_left _ (by omega))
        simp only [cond_false]
        repeat rw [guardP_pos (by simp only [List.length_append, List.length_cons, List.length_nil, capS]; omega)]
        rw [i64_succ h (by omega), List.append_assoc]
        exact enc_loop N M l _ (i + 1) ho hl h (by simp only [List.length_append, List.length_cons, List.length_nil, Nat.mul_succ]; omega) (by omega) (by omega)
      · exact ⟨[], rfl, rfl⟩
    · have : i = l.length := by omega
      subst this
      rw [bif_false (dec_false (by omega)), bif_false (dec_false (by omega))]
      exact ⟨s, rfl, rfl⟩
theorem law_true : ∀ xs : dens [.slice 72 tyEvent], wfA [.slice 72 tyEvent] xs → laws_FnExactEncodeEvents xs.1 = some (true, ()) := by
  intro ⟨l, _⟩ ⟨hw, _⟩
  obtain ⟨r, hr, _, hs⟩ := sz_laws_szEventS l hw 1048576 (by omega) (by omega)
  unfold laws_FnExactEncodeEvents
  simp only [hr, Option.bind_some]
  by_cases h0 : r < 0
  · rw [bif_true (dec_true h0)]
  · rw [bif_false (dec_false h0)]
    have hs := hs (by omega)
    have ho : ∀ x ∈ l, x.2.2.2.1.length ≤ 1048576 := fun x hx => (hs.2 x hx).2.2.2.1
    have e := to_laws_toEventS l hs
    have e2 := eq_laws_eqEventS l hs
    obtain ⟨t, h1, h2⟩ := enc_loop (spec_EncodeEvents_l1_fuel l [] 0) (impl_EncodeEvents_l1_fuel [] l (l.length : Int) 0) l [] 0 ho hs.1 (by omega) (by simp) (by unfold spec_EncodeEvents_l1_fuel; omega) (by unfold impl_EncodeEvents_l1_fuel; omega)
    have g1 : spec_EncodeEvents l = some (t, ()) := h1
    have g2 : impl_EncodeEvents l = some (t, ()) := h2
    simp only [e, Option.bind_some, g1, g2]
    simp [e2]

theorem fnExactEncodeEvents_own : ownKnob Tryd.prog.godebug = none := by kernel_rfl
theorem fnExactEncodeEvents_door (os : Os) (args : Array Value) : laidMetH Tryd.prog Rows.fnExactEncodeEventsRow.laid ((World.doorLaid Tryd.prog 400 os).forCall (fun _ _ => 0) ⟨#[], args, []⟩).memory :=
  laidMetH_of_parts3 (fuel := 8) (laidMet_of_run' 8 (by kernel_rfl) (by kernel_rfl)) (by kernel_rfl) (by kernel_rfl)
theorem fnExactEncodeEvents_tab {W : World} (h : laidMetH Tryd.prog Rows.fnExactEncodeEventsRow.laid W) : glob.G W := by
  rw [MakeChecks.laidMetH_plain _ _ _ (by kernel_rfl)] at h
  have t0 : W.var? Tryd.prog "loop.example/g01633/impl.eventWords" = some (wordsL.map fun z => Value.string ⟨⟨z⟩⟩).toArray :=
    strs_of_head (g := 0) (t := 100) (e := 9) (n := 13) (rest := Rows.fnExactEncodeEventsRow.laid.drop 4) (by kernel_rfl) (by kernel_rfl) (by kernel_rfl) (by kernel_rfl) (by kernel_rfl) (by kernel_rfl) (show laidMet Tryd.prog (("loop.example/g01633/impl.eventWords", strTab wordsL) :: Rows.fnExactEncodeEventsRow.laid.drop 4) W from h.tail.tail.tail)
  have t1 : Go.Lib.TabIs Tryd.prog W "internal/strconv.uint64pow10" .u64 Go.Lib.pow10Tab :=
    Go.Lib.tabIs_of_head (g := 2) (t := 115) (e := 108) (n := 20) (rest := Rows.fnExactEncodeEventsRow.laid.drop 3) (by kernel_rfl) (by kernel_rfl) (by kernel_rfl) (by kernel_rfl) (by kernel_rfl) (by kernel_rfl) (show laidMet Tryd.prog (("internal/strconv.uint64pow10", Go.Lib.tabData .u64 Go.Lib.pow10Tab) :: Rows.fnExactEncodeEventsRow.laid.drop 3) W from h.tail.tail)
  intro p hp
  simp only [List.mem_cons, List.not_mem_nil, or_false] at hp
  rcases hp with rfl | rfl
  · exact t0
  · exact t1
set_option maxRecDepth 100000 in
theorem fnExactEncodeEvents_lifted (os : Os) (started : os.Started) (H : Type) (enc : TypeId × Value → H) :
    ReturnsInHanded {} Tryd.checked os 5 .any (fun w args => (Rows.fnExactEncodeEventsSpec.pre enc Tryd.prog Tryd.f5 [] false w args ∧ laidMetH Tryd.prog Rows.fnExactEncodeEventsRow.laid w) ∧ sizedMet enc Tryd.prog Tryd.f5 (OpenSpec.ofChange Rows.fnExactEncodeEventsSpec) false w args)
      (Rows.fnExactEncodeEventsSpec.post enc Tryd.prog Tryd.f5 false true false false) := by
  refine returnsInHanded_of_change_and (C := Tryd.checked) (X := fun w _ => laidMetH Tryd.prog Rows.fnExactEncodeEventsRow.laid w) (fun _ _ _ hh h => h.of_heap hh) fnExactEncodeEvents_own started (by kernel_rfl) Tryd.func5
    (ChangeSpec.witness_shaped (enc := enc) (C := Tryd.checked) (os := os) (X := fun w _ => laidMetH Tryd.prog Rows.fnExactEncodeEventsRow.laid w) false (World.doorLaid Tryd.prog 400 os) #[.slice none 0 0] 8 rfl (World.shaped_of_RefB (by kernel_rfl) (by kernel_rfl)) (by kernel_rfl) (by kernel_rfl) (by kernel_rfl) (fnExactEncodeEvents_door os _)) ?_
  intro W base args ds gs before hval hW _ _ hL _
  exact law_contractV ok_laws_FnExactEncodeEvents law_true (fun H ds gs h h2 => by
    match ds, gs, h, h2 with
    | [d0], [g0], _, _ => rfl) (by kernel_rfl) (by kernel_rfl) (by kernel_rfl) rfl Tryd.underlying4 W base args ds gs before hval (fnExactEncodeEvents_tab hL) hW
theorem fnExactEncodeEvents_said : Rows.FnExactEncodeEventsSaid :=
  OpenClaim.holds_of_wide 5 Tryd.f5 rfl rfl rfl rfl rfl rfl rfl ⟨rfl, rfl, rfl, rfl, rfl⟩ rfl rfl rfl rfl rfl (by kernel_rfl) Tryd.func5 (by kernel_rfl)
    (of_decide_eq_true (by kernel_rfl)) (by unfold Func.isWrapper; first | (rw [if_pos (by decide +kernel)]; kernel_rfl) | (rw [if_neg (by decide +kernel)]; exact ⟨rfl, rfl⟩))
    (fun os started H enc _ => fnExactEncodeEvents_lifted os started H enc)
/-- The law returns true for all arguments; the tables that the program text lays are tied. -/
theorem fnExactEncodeEvents_proved : Rows.FnExactEncodeEventsCardSaid :=
  Claim7.holds_tied_plain_at .later [] Rows.fnExactEncodeEventsCard.laidKinds true Rows.fnExactEncodeEventsCard.stood.harness false
    fnExactEncodeEvents_said (fun _ h => by cases h) (by kernel_rfl) (fun _ h => by cases h) fnExactEncodeEvents_row_tie rfl ⟨rfl, rfl⟩ (by kernel_rfl) rfl
    (fun f fn hf hfn => by
      obtain rfl : f = 5 := Option.some.inj ((show Tryd.prog.funcNamed Rows.fnExactEncodeEventsRow.func = some 5 by kernel_rfl).symm.trans hf) |>.symm
      obtain rfl : fn = Tryd.f5 := (Option.some.inj (Tryd.func5.symm.trans hfn)).symm
      exact ⟨by kernel_rfl, fun j t ht => by
        rw [Tryd.params5] at ht
        have hm : t ∈ [36] := by simpa using Array.mem_of_getElem? ht
        have hall : ([36].all fun u => !Tryd.prog.wantsStandIn u) = true := by kernel_rfl
        exact (show Tryd.prog.wantsStandIn t = false by simpa using List.all_eq_true.1 hall t hm)⟩)
    (by kernel_rfl)
#print axioms fnExactEncodeEvents_proved
end Go.Proofs.YtifcipnimblkpabDoor

/- FnExactParseFrame returns true for all arguments. No condition. -/
import Derived.Test.YtbcdobkgmgngmaaDoorModExactParseFrame
import Derived.KernelRfl
import Derived.Test.YtbcdobkgmgngmaaDoorCards
import Derived.Test.YtbcdobkgmgngmaaDoorTie
import Derived.ProofKit
import Derived.LaidMore
import Derived.OpenShut
import Derived.Stop.Joined
import Derived.SevenTiedAt
import Derived.Lib.LaidTab
import Derived.Stop.LaidErr
import Derived.LaidHandle
import Derived.Lay
import Derived.Lib.ItoaLen
namespace Go.Proofs.YtbcdobkgmgngmaaDoor
open Go.Am Go.ChangeShapes Go.WideShapes Go.ChangeAt Go.RowKit
set_option linter.unusedVariables false
theorem bif_some1 {α : Type} {c : Bool} {x y : α} : (bif c then some (x, ()) else some (y, ())) = some (bif c then x else y, ()) := by cases c <;> rfl
theorem app_one {α : Type} (pre : List α) (x : α) (rest : List α) : pre ++ x :: rest = pre ++ [x] ++ rest := by simp
theorem getD_app {α : Type} (pre : List α) (x : α) (rest : List α) (d : α) : (pre ++ x :: rest).getD ((pre.length : Int).toNat) d = x := by
  rw [show (pre.length : Int).toNat = pre.length from rfl, List.getD_eq_getElem?_getD, List.getElem?_append_right (Nat.le_refl _)]
  simp
/-! bytes as hexadecimal digits -/
def hexd (k : Nat) : Int := ((([48, 49, 50, 51, 52, 53, 54, 55, 56, 57, 97, 98, 99, 100, 101, 102] : List UInt8).getD k 0).toNat : Int)
def hx (b : UInt8) : List Int := [hexd (b.toNat / 16), hexd (b.toNat % 16)]
theorem drop_cons {α : Type} {d : α} {l : List α} {i : Nat} (h : i < l.length) : l.drop i = l.getD i d :: l.drop (i + 1) := by
  rw [List.drop_eq_getElem_cons h, List.getD_eq_getElem?_getD, List.getElem?_eq_getElem h]; rfl
/-! numbers as texts -/
theorem u8_ok (n : Int) (h0 : 0 ≤ n) (h1 : n < 256) : IntKind.u8.wrap n = n := by
  have : n % 2 ^ 8 = n := Int.emod_eq_of_lt h0 (by omega)
  simp only [IntKind.wrap, IntKind.bits, IntKind.signed, this]
  simp
def digs (u : Nat) : List UInt8 := if u = 0 then [] else Go.Lib.decDigits u
theorem digs_step {u : Nat} (h : u ≠ 0) : digs u = digs (u / 10) ++ [UInt8.ofNat (48 + u % 10)] := by
  unfold digs
  rw [if_neg h, Go.Lib.decDigits]
  by_cases h10 : u < 10
  · rw [dif_pos h10, if_pos (by omega), List.nil_append, Nat.mod_eq_of_lt h10]
  · rw [dif_neg h10, if_neg (by omega)]
theorem fmt_j1 {K1 : (Int × List UInt8 × Bool × Unit) → Option (List UInt8 × Unit)} {n : Int} {out : List UInt8} {neg : Bool} {d : Nat} (hd : d < 10) (hl : 1 + out.length ≤ capS) :
    spec_FormatInt_j1 K1 n out neg (d : Int) = K1 (IntKind.i64.wrap (Int.tdiv n 10), UInt8.ofNat (48 + d) :: out, neg, ()) := by
  unfold spec_FormatInt_j1
  have h1 : bytesOf [IntKind.u8.wrap (IntKind.i64.wrap ((48 : Int) + (d : Int)))] = [UInt8.ofNat (48 + d)] := by
    rw [i64_ok (by omega) (by omega), u8_ok _ (by omega) (by omega)]
    simp only [bytesOf, List.map_cons, List.map_nil]
    congr 2
  simp only [h1]
  rw [guardP_pos (by simpa using hl), guardP_pos (by decide)]
  rfl
theorem fmt_loop : ∀ (k u N : Nat) (n : Int) (out : List UInt8) (neg : Bool), u < 10 ^ k → k < N → u ≤ 9223372036854775808 → (n = (u : Int) ∨ n = -(u : Int)) → out.length + k ≤ 1000 → (n = 9223372036854775808 → False) →
    spec_FormatInt_l1 N n out neg = some ((bif neg then 45 :: (digs u ++ out) else digs u ++ out), ())
  | k, u, 0, n, out, neg, h1, h2, _, _, _, _ => by omega
  | k, u, N + 1, n, out, neg, h1, h2, h3, h4, h5, h6 => by
    unfold spec_FormatInt_l1
    by_cases hu : u = 0
    · have hn : n = 0 := by omega
      rw [bif_false (by simp [hn])]
      rw [guardP_pos (by simp only [capS, List.length_cons, List.length_nil]; omega)]
      have : digs u = [] := by rw [hu]; rfl
      rw [this]
      cases neg <;> rfl
    · have hn : n ≠ 0 := by omega
      rw [bif_true (by simp [hn]), guardP_pos (by decide)]
      cases k with
      | zero => simp at h1; omega
      | succ k =>
        have hd : u / 10 < 10 ^ k := by
          rw [Nat.pow_succ] at h1
          omega
        have hm : u % 10 < 10 := Nat.mod_lt _ (by decide)
        have hq : IntKind.i64.wrap (Int.tdiv n 10) = ((u / 10 : Nat) : Int) ∨ IntKind.i64.wrap (Int.tdiv n 10) = -((u / 10 : Nat) : Int) := by
          rcases h4 with rfl | rfl
          · left; rw [Int.tdiv_eq_ediv_of_nonneg (by omega), i64_ok (by omega) (by omega)]; omega
          · right; rw [Int.neg_tdiv, Int.tdiv_eq_ediv_of_nonneg (by omega), i64_ok (by omega) (by omega)]; omega
        have go : spec_FormatInt_j1 (fun v => spec_FormatInt_l1 N v.1 v.2.1 v.2.2.1) n out neg ((u % 10 : Nat) : Int) = some ((bif neg then 45 :: (digs u ++ out) else digs u ++ out), ()) := by
          rw [fmt_j1 hm (by simp only [capS]; omega)]
          show spec_FormatInt_l1 N (IntKind.i64.wrap (Int.tdiv n 10)) (UInt8.ofNat (48 + u % 10) :: out) neg = _
          rw [fmt_loop k (u / 10) N _ _ neg hd (by omega) (by omega) hq (by simp only [List.length_cons]; omega) (by intro h; rcases hq with hq | hq <;> omega)]
          rw [digs_step hu, List.append_assoc]
          rfl
        rcases h4 with rfl | rfl
        · have e : Int.tmod (u : Int) 10 = ((u % 10 : Nat) : Int) := by rw [Int.tmod_eq_emod_of_nonneg (by omega)]; omega
          rw [e, bif_false (dec_false (by omega))]
          exact go
        · have e : Int.tmod (-(u : Int)) 10 = -((u % 10 : Nat) : Int) := by rw [Int.neg_tmod, Int.tmod_eq_emod_of_nonneg (by omega)]; omega
          rw [e]
          by_cases hz : u % 10 = 0
          · rw [bif_false (dec_false (by omega))]
            have : -((u % 10 : Nat) : Int) = ((u % 10 : Nat) : Int) := by omega
            rw [this]; exact go
          · rw [bif_true (dec_true (by omega)), i64_ok (by omega) (by omega)]
            have : 0 - -((u % 10 : Nat) : Int) = ((u % 10 : Nat) : Int) := by omega
            rw [this]; exact go
theorem fmtInt (n : Int) (h0 : -9223372036854775808 ≤ n) (h1 : n ≤ 9223372036854775807) : spec_FormatInt n = some (Go.Lib.itoa n, ()) := by
  unfold spec_FormatInt
  by_cases hz : n = 0
  · rw [bif_true (by simp [hz]), hz]
    unfold Go.Lib.itoa
    rw [if_neg (by omega), Go.Lib.decDigits, dif_pos (by decide)]
    rfl
  · rw [bif_false (by simp [hz])]
    have hp : n.natAbs < 10 ^ 20 := by
      have : (9223372036854775809 : Nat) ≤ 10 ^ 20 := by decide
      omega
    rw [fmt_loop 20 n.natAbs _ n [] _ hp (by unfold spec_FormatInt_l1_fuel; omega) (by omega) (by omega) (by simp) (by omega)]
    unfold Go.Lib.itoa digs
    rw [if_neg (by omega), List.append_nil]
    by_cases hn : n < 0
    · rw [dec_true hn, if_pos hn]; rfl
    · rw [dec_false hn, if_neg hn]
      have : n.natAbs = n.toNat := by omega
      rw [this]; rfl
theorem itoa_len (n : Int) (h0 : -9223372036854775808 ≤ n) (h1 : n ≤ 9223372036854775807) : (Go.Lib.itoa n).length ≤ 21 := Go.Lib.itoa_length_le n h0 h1
theorem implInt (n : Int) (h0 : -9223372036854775808 ≤ n) (h1 : n ≤ 9223372036854775807) : impl_FormatInt n = some (Go.Lib.itoa n, ()) := by
  unfold impl_FormatInt strconv_Itoa
  rw [guardP_pos ⟨h0, h1⟩]
  rfl
theorem hex_spec : ∀ (N : Nat) (l : List UInt8) (out : List Int) (i : Nat), l.length ≤ 1048576 → out.length ≤ 2 * i → i ≤ l.length → l.length - i < N →
    spec_EncodeHex_l1 N l out (i : Int) = some (bytesOf (out ++ (l.drop i).flatMap hx), ())
  | 0, _, _, _, _, _, _, h => by omega
  | N + 1, l, out, i, hl, ho, hi, hN => by
    unfold spec_EncodeHex_l1
    by_cases h : i < l.length
    · have e : (i : Int).toNat = i := rfl
      rw [bif_true (dec_true (by omega)), guardP_pos (by omega), guardP_pos (by decide), guardP_pos (by omega), guardP_pos (by decide), e]
      have hb : (l.getD i 0).toNat < 256 := (l.getD i 0).toNat_lt
      generalize hc : l.getD i 0 = c at *
      have e1 : IntKind.i64.wrap (Int.tdiv (IntKind.i64.wrap (c.toNat : Int)) 16) = ((c.toNat / 16 : Nat) : Int) := by
        rw [show IntKind.i64.wrap (c.toNat : Int) = (c.toNat : Int) from i64_ok (by omega) (by omega), Int.tdiv_eq_ediv_of_nonneg (by omega), i64_ok (by omega) (by omega)]; omega
      have e2 : Int.tmod (IntKind.i64.wrap (c.toNat : Int)) 16 = ((c.toNat % 16 : Nat) : Int) := by
        rw [show IntKind.i64.wrap (c.toNat : Int) = (c.toNat : Int) from i64_ok (by omega) (by omega), Int.tmod_eq_emod_of_nonneg (by omega)]; omega
      have dig : ∀ k : Nat, k < 16 → spec_l1Digit (k : Int) = some (hexd k, ()) := fun k hk => by
        unfold spec_l1Digit hexd
        rw [guardP_pos (by simp only [List.length_cons, List.length_nil]; omega)]
        rfl
      rw [e1, e2, dig _ (by omega), dig _ (by omega)]
      simp only [Option.bind_some]
      rw [guardP_pos (by simp only [List.length_cons, List.length_nil, capN]; omega), i64_succ h (by omega)]
      rw [hex_spec N l _ (i + 1) hl (by simp only [List.length_append, List.length_cons, List.length_nil]; omega) h (by omega)]
      rw [drop_cons (d := (0 : UInt8)) h, hc, List.flatMap_cons, List.append_assoc]
      rfl
    · have : i = l.length := by omega
      subst this
      rw [bif_false (dec_false (by omega)), List.drop_length]
      simp
theorem hex_impl : ∀ (N : Nat) (l : List UInt8) (out : List Int) (i : Nat), l.length ≤ 1048576 → out.length ≤ 2 * i → i ≤ l.length → l.length - i < N →
    impl_EncodeHex_l1 N l out (i : Int) = some (bytesOf (out ++ (l.drop i).flatMap hx), ())
  | 0, _, _, _, _, _, _, h => by omega
  | N + 1, l, out, i, hl, ho, hi, hN => by
    unfold impl_EncodeHex_l1
    by_cases h : i < l.length
    · have e : (i : Int).toNat = i := rfl
      rw [bif_true (dec_true (by omega)), guardP_pos (by omega), guardP_pos (by decide), e]
      have hb : (l.getD i 0).toNat < 256 := (l.getD i 0).toNat_lt
      generalize hc : l.getD i 0 = c at *
      have e1 : IntKind.u8.wrap (Int.tdiv (c.toNat : Int) 16) = ((c.toNat / 16 : Nat) : Int) := by
        rw [Int.tdiv_eq_ediv_of_nonneg (by omega), u8_ok _ (by omega) (by omega)]; omega
      have e2 : Int.tmod (c.toNat : Int) 16 = ((c.toNat % 16 : Nat) : Int) := by
        rw [Int.tmod_eq_emod_of_nonneg (by omega)]; omega
      simp only [e1, e2]
      rw [guardP_pos (by simp only [List.length_cons, List.length_nil]; omega), guardP_pos (by omega), guardP_pos (by decide), guardP_pos (by simp only [List.length_cons, List.length_nil]; omega),
        guardP_pos (by simp only [List.length_cons, List.length_nil, capN]; omega), i64_succ h (by omega)]
      rw [hex_impl N l _ (i + 1) hl (by simp only [List.length_append, List.length_cons, List.length_nil]; omega) h (by omega)]
      rw [drop_cons (d := (0 : UInt8)) h, hc, List.flatMap_cons, List.append_assoc]
      rfl
    · have : i = l.length := by omega
      subst this
      rw [bif_false (dec_false (by omega)), List.drop_length]
      simp
def hexT (l : List UInt8) : List UInt8 := bytesOf (l.flatMap hx)
theorem hexT_len (l : List UInt8) : (hexT l).length = 2 * l.length := by
  unfold hexT bytesOf
  rw [List.length_map]
  induction l with
  | nil => rfl
  | cons c l ih => rw [List.flatMap_cons, List.length_append, ih]; simp only [hx, List.length_cons, List.length_nil]; omega
theorem hexS (l : List UInt8) (h : l.length ≤ 1048576) : spec_EncodeHex l = some (hexT l, ()) := by
  unfold spec_EncodeHex
  exact hex_spec _ l [] 0 h (by simp) (by omega) (by unfold spec_EncodeHex_l1_fuel; omega)
theorem hexI (l : List UInt8) (h : l.length ≤ 1048576) : impl_EncodeHex l = some (hexT l, ()) := by
  unfold impl_EncodeHex
  exact hex_impl _ l [] 0 h (by simp) (by omega) (by unfold impl_EncodeHex_l1_fuel; omega)
theorem fromHex_step (N k : Nat) (b : Int) (hk : k < 16) : spec_l1FromHex_l1 (N + 1) b (k : Int) = if hexd k = b then some ((k : Int), ()) else spec_l1FromHex_l1 N b ((k + 1 : Nat) : Int) := by
  conv => lhs; unfold spec_l1FromHex_l1
  have dig : spec_l1Digit (k : Int) = some (hexd k, ()) := by
    unfold spec_l1Digit hexd
    rw [guardP_pos (by simp only [List.length_cons, List.length_nil]; omega)]
    rfl
  rw [bif_true (dec_true (by omega)), dig]
  simp only [Option.bind_some]
  rw [i64_succ (m := 16) hk (by omega)]
  by_cases h : hexd k = b
  · rw [bif_true (by simp [h]), if_pos h]
  · rw [bif_false (by simp [h]), if_neg h]
theorem hexVal_eq (b : UInt8) : spec_l1FromHex (b.toNat : Int) = impl_hexValue (b.toNat : Int) := by
  have hb : b.toNat < 256 := b.toNat_lt
  generalize b.toNat = n at *
  unfold spec_l1FromHex
  have hf : spec_l1FromHex_l1_fuel (n : Int) 0 = 17 := rfl
  rw [hf]
  show spec_l1FromHex_l1 17 (n : Int) ((0 : Nat) : Int) = _
  have e : ∀ k, k < 16 → hexd k = if k < 10 then (48 + k : Int) else (87 + k : Int) := by decide
  have hE : spec_l1FromHex_l1 1 (n : Int) ((16 : Nat) : Int) = some (-1, ()) := rfl
  unfold impl_hexValue
  by_cases h1 : 48 ≤ n ∧ n ≤ 57
  · rw [bif_true (by simp; omega)]
    have u : IntKind.i64.wrap (IntKind.u8.wrap ((n : Int) - 48)) = (n : Int) - 48 := by rw [u8_ok _ (by omega) (by omega), i64_ok (by omega) (by omega)]
    rw [u]
    have : n = 48 ∨ n = 49 ∨ n = 50 ∨ n = 51 ∨ n = 52 ∨ n = 53 ∨ n = 54 ∨ n = 55 ∨ n = 56 ∨ n = 57 := by omega
    rcases this with rfl | rfl | rfl | rfl | rfl | rfl | rfl | rfl | rfl | rfl
    all_goals
      repeat (rw [fromHex_step _ _ _ (by decide)]; first | (rw [if_pos (by decide)]; rfl) | rw [if_neg (by decide)])
  · rw [bif_false (by rw [Bool.and_eq_false_iff, decide_eq_false_iff_not, decide_eq_false_iff_not]; omega)]
    by_cases h2 : 97 ≤ n ∧ n ≤ 102
    · rw [bif_true (by simp; omega)]
      have u : IntKind.i64.wrap (IntKind.i64.wrap (IntKind.u8.wrap ((n : Int) - 97)) + 10) = (n : Int) - 87 := by rw [u8_ok _ (by omega) (by omega), show IntKind.i64.wrap ((n : Int) - 97) = (n : Int) - 97 from i64_ok (by omega) (by omega), i64_ok (by omega) (by omega)]; omega
      rw [u]
      have : n = 97 ∨ n = 98 ∨ n = 99 ∨ n = 100 ∨ n = 101 ∨ n = 102 := by omega
      rcases this with rfl | rfl | rfl | rfl | rfl | rfl
      all_goals
        repeat (rw [fromHex_step _ _ _ (by decide)]; first | (rw [if_pos (by decide)]; rfl) | rw [if_neg (by decide)])
    · rw [bif_false (by rw [Bool.and_eq_false_iff, decide_eq_false_iff_not, decide_eq_false_iff_not]; omega)]
      repeat (rw [fromHex_step _ _ _ (by decide), if_neg (by rw [e _ (by decide)]; split <;> omega)])
      exact hE
/-! numbers out of texts -/
theorem bif_some {α : Type} {c : Bool} {x y : α} : (bif c then some x else some y) = some (bif c then x else y) := by cases c <;> rfl
theorem dg_byte (d : Nat) (h : d < 10) : Go.Lib.digitVal (UInt8.ofNat (48 + d)) = some d := by
  have : (UInt8.ofNat (48 + d)).toNat = 48 + d := by simp; omega
  simp only [Go.Lib.digitVal, this]
  rw [if_pos (by omega)]; congr 1; omega
theorem decFrom_app : ∀ (l r : List UInt8) (acc : Nat), Go.Lib.decFrom acc (l ++ r) = (Go.Lib.decFrom acc l).bind fun a => Go.Lib.decFrom a r
  | [], r, acc => rfl
  | b :: l, r, acc => by
    simp only [List.cons_append, Go.Lib.decFrom]
    cases Go.Lib.digitVal b with
    | none => rfl
    | some d => exact decFrom_app l r _
theorem decFrom_digits : ∀ (u : Nat), Go.Lib.decFrom 0 (Go.Lib.decDigits u) = some u := by
  intro u
  induction u using Nat.strongRecOn with
  | _ u ih =>
    rw [Go.Lib.decDigits]
    split
    · rename_i h; simp only [Go.Lib.decFrom, dg_byte u h]; congr 1; omega
    · rename_i h
      rw [decFrom_app, ih (u / 10) (by omega)]
      simp only [Option.bind_some, Go.Lib.decFrom, dg_byte (u % 10) (by omega)]
      congr 1; omega
theorem decDigits_dig : ∀ (u : Nat), ∀ b ∈ Go.Lib.decDigits u, 48 ≤ b.toNat ∧ b.toNat ≤ 57 := by
  intro u
  induction u using Nat.strongRecOn with
  | _ u ih =>
    intro b hb
    rw [Go.Lib.decDigits] at hb
    split at hb
    · rename_i h
      simp only [List.mem_singleton] at hb
      subst hb
      have : (UInt8.ofNat (48 + u)).toNat = 48 + u := by simp; omega
      omega
    · rename_i h
      rcases List.mem_append.1 hb with hb | hb
      · exact ih (u / 10) (by omega) b hb
      · simp only [List.mem_singleton] at hb
        subst hb
        have : (UInt8.ofNat (48 + u % 10)).toNat = 48 + u % 10 := by simp; omega
        omega
theorem decDigits_ne (u : Nat) : Go.Lib.decDigits u ≠ [] := by
  intro h
  have := Go.Lib.decDigits_length u
  rw [h] at this
  have := Go.Lib.nDigits_pos u
  simp at *
  omega
theorem decNat_digits (u : Nat) : Go.Lib.decNat (Go.Lib.decDigits u) = some u := by
  unfold Go.Lib.decNat
  rw [if_neg (by simpa using decDigits_ne u)]
  exact decFrom_digits u
theorem atoi_itoa (n : Int) : Go.Lib.atoi (Go.Lib.itoa n) = some n := by
  unfold Go.Lib.itoa
  split
  · rename_i h
    simp only [Go.Lib.atoi, decNat_digits, Option.map_some]
    rw [if_pos (by decide)]
    congr 1; omega
  · rename_i h
    cases hd : Go.Lib.decDigits n.toNat with
    | nil => exact absurd hd (decDigits_ne _)
    | cons b r =>
      have hb := decDigits_dig n.toNat b (by rw [hd]; simp)
      have h1 : ¬ (b == 45) = true := by intro e; have := eq_of_beq e; subst this; simp at hb
      have h2 : ¬ (b == 43) = true := by intro e; have := eq_of_beq e; subst this; simp at hb
      simp only [Go.Lib.atoi]
      rw [if_neg h1, if_neg h2, ← hd, decNat_digits]
      simp only [Option.map_some]
      congr 1; omega
theorem itoa_inj {a b : Int} (h : Go.Lib.itoa a = Go.Lib.itoa b) : a = b := by
  have := atoi_itoa a
  rw [h, atoi_itoa] at this
  exact (Option.some.inj this).symm
theorem nDig9 {u : Nat} (h : u ≤ 999999999) : Go.Lib.nDigits u ≤ 9 := by
  rcases Nat.lt_or_ge 9 (Go.Lib.nDigits u) with h' | h'
  · exfalso
    have key : ∀ k u, k < Go.Lib.nDigits u → k ≥ 1 → 10 ^ k ≤ u := by
      intro k
      induction k with
      | zero => intro u _ h; omega
      | succ k ih =>
        intro u hu _
        rcases Nat.lt_or_ge u 10 with h10 | h10
        · rw [Go.Lib.nDigits_small h10] at hu; omega
        · rw [Go.Lib.nDigits_big (by omega)] at hu
          by_cases hk : k = 0
          · subst hk; simpa using h10
          · have := ih (u / 10) (by omega) (by omega)
            rw [Nat.pow_succ]; omega
    have := key 9 u h' (by omega)
    omega
  · exact h'
theorem itoa_short {n : Int} (h0 : -999999999 ≤ n) (h1 : n ≤ 999999999) : (Go.Lib.itoa n).length ≤ 10 := by
  unfold Go.Lib.itoa
  split
  · have := nDig9 (u := n.natAbs) (by omega)
    rw [List.length_cons, Go.Lib.decDigits_length]; omega
  · have := nDig9 (u := n.toNat) (by omega)
    rw [Go.Lib.decDigits_length]; omega
/-- what the reference's loop does -/
def pf : List UInt8 → Nat × Nat → Nat × Nat
  | [], v => v
  | b :: l, v => pf l (if 48 ≤ b.toNat ∧ b.toNat ≤ 57 then (v.1 * 10 + (b.toNat - 48), v.2 + 1) else v)
theorem pf_app : ∀ (l r : List UInt8) (v : Nat × Nat), pf (l ++ r) v = pf r (pf l v)
  | [], _, _ => rfl
  | b :: l, r, v => by simp only [List.cons_append, pf]; exact pf_app l r _
theorem pf_digits : ∀ (u : Nat), pf (Go.Lib.decDigits u) (0, 0) = (u, Go.Lib.nDigits u) := by
  intro u
  induction u using Nat.strongRecOn with
  | _ u ih =>
    rw [Go.Lib.decDigits]
    split
    · rename_i h
      have : (UInt8.ofNat (48 + u)).toNat = 48 + u := by simp; omega
      simp only [pf, this]
      rw [if_pos (by omega), Go.Lib.nDigits_small h]
      simp
    · rename_i h
      have : (UInt8.ofNat (48 + u % 10)).toNat = 48 + u % 10 := by simp; omega
      rw [pf_app, ih (u / 10) (by omega), Go.Lib.nDigits_big h]
      simp only [pf, this]
      rw [if_pos (by omega)]
      simp only [Prod.mk.injEq, and_true]
      omega
theorem pf_bound : ∀ (l : List UInt8) (v : Nat × Nat), v.1 < 10 ^ v.2 → (pf l v).1 < 10 ^ (pf l v).2 ∧ (pf l v).2 ≤ v.2 + l.length
  | [], v, h => ⟨h, by simp [pf]⟩
  | b :: l, v, h => by
    simp only [pf]
    split
    · have := pf_bound l (v.1 * 10 + (b.toNat - 48), v.2 + 1) (by simp only [Nat.pow_succ]; omega)
      refine ⟨this.1, ?_⟩
      have := this.2
      simp only [List.length_cons] at this ⊢
      omega
    · have := pf_bound l v h
      refine ⟨this.1, ?_⟩
      have := this.2
      simp only [List.length_cons]
      omega
theorem pow_le11 {k : Nat} (h : k ≤ 11) : (10 : Nat) ^ k ≤ 100000000000 := Nat.le_trans (Nat.pow_le_pow_right (by decide) h) (by decide)
def sgn (s : List UInt8) (n : Nat) : Int := if s.head? = some 45 then -(n : Int) else n
theorem pi_loop : ∀ (N : Nat) (pre rest : List UInt8) (n k : Nat), (pre ++ rest).length ≤ 1048576 → rest.length < N → pre.length ≤ 11 → n < 10 ^ k → k ≤ pre.length →
    spec_ParseInt_l1 N (pre ++ rest) n k pre.length = spec_ParseInt_j2 (pre ++ rest) (sgn (pre ++ rest) (pf (rest.take (11 - pre.length)) (n, k)).1) (pf (rest.take (11 - pre.length)) (n, k)).2
  | 0, _, _, _, _, _, h, _, _, _ => by omega
  | N + 1, pre, rest, n, k, h1, h2, h3, h4, h5 => by
    unfold spec_ParseInt_l1
    have fin : (guardP (((decide (((pre ++ rest).length : Int) > (0 : Int))) = true → (0 ≤ (0 : Int) ∧ (0 : Int) < (pre ++ rest).length))) <|
      bif (decide (((pre ++ rest).length : Int) > (0 : Int))) && ((((pre ++ rest).getD (0 : Int).toNat 0).toNat : Int) == (45 : Int)) then
        spec_ParseInt_j2 (pre ++ rest) (IntKind.i64.wrap (0 - (n : Int))) k
      else
        spec_ParseInt_j2 (pre ++ rest) n k) = spec_ParseInt_j2 (pre ++ rest) (sgn (pre ++ rest) n) k := by
      have hb := pow_le11 (k := k) (by omega)
      rw [guardP_pos (fun h => by simp at h ⊢; omega), i64_ok (by omega) (by omega)]
      unfold sgn
      cases hs : pre ++ rest with
      | nil => rfl
      | cons b l =>
        simp only [List.length_cons, List.head?_cons, Option.some.injEq]
        by_cases hc : b = 45
        · subst hc
          rw [if_pos rfl, bif_true (by simp)]
          congr 1; omega
        · rw [if_neg hc, bif_false (by
            simp only [Bool.and_eq_false_iff]
            right
            simp only [Int.toNat_zero, List.getD_cons_zero, beq_eq_false_iff_ne, ne_eq]
            intro e
            apply hc
            apply UInt8.toNat_inj.1
            have e : (b.toNat : Int) = 45 := e
            show b.toNat = 45
            omega)]
    cases rest with
    | nil =>
      rw [bif_false (by simp)]
      simp only [List.take_nil, pf]
      exact fin
    | cons b rest =>
      by_cases hp : pre.length < 11
      · simp only [List.length_append, List.length_cons] at h1 h2
        rw [bif_true (by simp; omega), guardP_pos (by simp; omega)]
        simp only [getD_app]
        rw [guardP_pos (fun _ => by simp; omega)]
        have e := app_one pre b rest
        have hb := pow_le11 (k := k) (by omega)
        have htk : (b :: rest).take (11 - pre.length) = b :: rest.take (11 - (pre.length + 1)) := by
          rw [show 11 - pre.length = (11 - (pre.length + 1)) + 1 by omega, List.take_succ_cons]
        rw [htk]
        simp only [pf]
        have hlt : b.toNat < 256 := b.toNat_lt
        by_cases hd : 48 ≤ b.toNat ∧ b.toNat ≤ 57
        · rw [bif_true (by simp; omega), guardP_pos (by simp; omega), if_pos hd]
          unfold spec_ParseInt_j1
          have u8 : IntKind.u8.wrap (((b.toNat : Int)) - 48) = ((b.toNat - 48 : Nat) : Int) := by
            rw [u8_ok _ (by omega) (by omega)]; omega
          have w1 : IntKind.i64.wrap ((n : Int) * 10) = (n : Int) * 10 := i64_ok (by omega) (by omega)
          have w2 : IntKind.i64.wrap ((b.toNat - 48 : Nat) : Int) = ((b.toNat - 48 : Nat) : Int) := i64_ok (by omega) (by omega)
          rw [u8, w1, w2, i64_ok (by omega) (by omega), i64_ok (n := (k : Int) + 1) (by omega) (by omega), i64_succ (m := (pre ++ b :: rest).length) (by simp) (by simp; omega)]
          have := pi_loop N (pre ++ [b]) rest (n * 10 + (b.toNat - 48)) (k + 1) (by simp; omega) (by omega) (by simp; omega) (by rw [Nat.pow_succ]; omega) (by simp; omega)
          rw [← e] at this
          simp only [List.length_append, List.length_cons, List.length_nil, Nat.zero_add] at this ⊢
          rw [← this]
          congr 1 <;> push_cast <;> omega
        · rw [bif_false (by simp; omega), if_neg hd]
          unfold spec_ParseInt_j1
          rw [i64_succ (m := (pre ++ b :: rest).length) (by simp) (by simp; omega)]
          have := pi_loop N (pre ++ [b]) rest n k (by simp; omega) (by omega) (by simp; omega) h4 (by simp; omega)
          rw [← e] at this
          simp only [List.length_append, List.length_cons, List.length_nil, Nat.zero_add] at this ⊢
          exact this
      · rw [bif_false (by simp; omega), show 11 - pre.length = 0 by omega]
        simp only [List.take_zero, pf]
        exact fin
theorem pint (s : List UInt8) (hs : s.length ≤ 1048576) :
    (∃ n : Int, -999999999 ≤ n ∧ n ≤ 999999999 ∧ s = Go.Lib.itoa n ∧ spec_ParseInt s = some (n, true, ()) ∧ impl_ParseInt s = some (n, true, ())) ∨
    ((∀ n : Int, -999999999 ≤ n → n ≤ 999999999 → s ≠ Go.Lib.itoa n) ∧ spec_ParseInt s = some (0, false, ()) ∧ impl_ParseInt s = some (0, false, ())) := by
  have hI : (∃ n : Int, -999999999 ≤ n ∧ n ≤ 999999999 ∧ s = Go.Lib.itoa n ∧ impl_ParseInt s = some (n, true, ())) ∨ ((∀ n : Int, -999999999 ≤ n → n ≤ 999999999 → s ≠ Go.Lib.itoa n) ∧ impl_ParseInt s = some (0, false, ())) := by
    unfold impl_ParseInt
    by_cases hl : s.length > 10
    · rw [bif_true (dec_true (by omega))]
      refine .inr ⟨fun n h0 h1 e => ?_, rfl⟩
      have := itoa_short h0 h1
      rw [← e] at this; omega
    · rw [bif_false (dec_false (by omega))]
      simp only [strconv_Atoi]
      rw [guardP_pos (by omega), Option.bind_some]
      cases ha : Go.Lib.atoi s with
      | none =>
        refine .inr ⟨fun n h0 h1 e => ?_, ?_⟩
        · rw [e, atoi_itoa] at ha; cases ha
        · simp
      | some n =>
        have hb := Go.Lib.atoi_bound ha (by omega)
        simp only [Option.getD_some, Option.isSome_some, Bool.not_true, cond_false, strconv_Itoa]
        rw [guardP_pos (by omega), Option.bind_some]
        by_cases he : Go.Lib.itoa n = s
        · simp only [he, beq_self_eq_true, Bool.not_true, Bool.or_false, Bool.false_or, cond_false, impl_within, Option.bind_some]
          by_cases hr : -999999999 ≤ n ∧ n ≤ 999999999
          · refine .inl ⟨n, hr.1, hr.2, he.symm, ?_⟩
            rw [bif_false (by simp; exact hr)]
          · refine .inr ⟨fun m h0 h1 e => ?_, ?_⟩
            · rw [e] at he; have := itoa_inj he; subst this; exact hr ⟨h0, h1⟩
            · rw [bif_true (by simp; omega)]
        · have : (Go.Lib.itoa n == s) = false := by simpa using he
          simp only [this, Bool.not_false, Bool.or_true, Bool.true_or, cond_true, Option.bind_some]
          refine .inr ⟨fun m h0 h1 e => ?_, trivial⟩
          rw [e, atoi_itoa] at ha
          cases ha
          exact he e.symm
  have hpf := pi_loop (((s.length : Int) - 0).toNat + 1) [] s 0 0 (by simpa using hs) (by omega) (by simp) (by simp) (by simp)
  simp only [List.nil_append, List.length_nil, Nat.sub_zero, Int.natCast_zero] at hpf
  have hS : spec_ParseInt s = spec_ParseInt_j2 s (sgn s (pf (s.take 11) (0, 0)).1) (pf (s.take 11) (0, 0)).2 := by
    unfold spec_ParseInt spec_ParseInt_l1_fuel; exact hpf
  obtain ⟨hb1, hb2⟩ := pf_bound (s.take 11) (0, 0) (by simp)
  have hk : (pf (s.take 11) (0, 0)).2 ≤ 11 := by have : (s.take 11).length ≤ 11 := by simp; omega
                                                 omega
  have hb3 := pow_le11 hk
  -- a numeral is read as its number
  have hnum : ∀ n : Int, -999999999 ≤ n → n ≤ 999999999 → s = Go.Lib.itoa n → sgn s (pf (s.take 11) (0, 0)).1 = n ∧ (pf (s.take 11) (0, 0)).2 ≤ 9 := by
    intro n h0 h1 e
    have hsh := itoa_short h0 h1
    rw [← e] at hsh
    rw [List.take_of_length_le (by omega)]
    unfold Go.Lib.itoa at e
    split at e
    · rename_i hn
      rw [e]
      simp only [pf]
      rw [if_neg (by decide), pf_digits]
      refine ⟨?_, nDig9 (by omega)⟩
      simp only [sgn, List.head?_cons, if_true]
      omega
    · rename_i hn
      rw [e, pf_digits]
      refine ⟨?_, nDig9 (by omega)⟩
      unfold sgn
      rw [if_neg]
      · simp only; omega
      · intro hh
        have := decDigits_dig n.toNat 45 (List.mem_of_mem_head? hh)
        simp at this
  generalize (pf (s.take 11) (0, 0)).1 = u at hS hb1 hnum
  generalize (pf (s.take 11) (0, 0)).2 = k at hS hb1 hb2 hk hb3 hnum
  have hrange : -100000000000 ≤ sgn s u ∧ sgn s u ≤ 100000000000 := by unfold sgn; split <;> omega
  unfold spec_ParseInt_j2 at hS
  simp only [fmtInt (sgn s u) (by omega) (by omega), bif_some, Option.bind_some] at hS
  rcases hI with ⟨n, h0, h1, e, hi⟩ | ⟨hno, hi⟩
  · obtain ⟨g1, g2⟩ := hnum n h0 h1 e
    refine .inl ⟨n, h0, h1, e, ?_, hi⟩
    rw [hS, g1]
    have hsh := itoa_short h0 h1
    rw [← e] at hsh
    have : (decide ((k : Int) > 9) || decide ((s.length : Int) > 10)) = false := by simp; omega
    simp only [this, cond_false, ← e, beq_self_eq_true, Bool.not_true, Bool.or_false]
  · refine .inr ⟨hno, ?_, hi⟩
    rw [hS]
    by_cases hc : (decide ((k : Int) > 9) || decide ((s.length : Int) > 10)) = true
    · simp only [hc, cond_true, Bool.true_or]
    · have hc' : (decide ((k : Int) > 9) || decide ((s.length : Int) > 10)) = false := by simpa using hc
      simp only [hc', cond_false, Bool.false_or]
      rw [bif_true]
      simp only [Bool.not_eq_true', beq_eq_false_iff_ne, ne_eq]
      intro e
      simp only [Bool.or_eq_false_iff, decide_eq_false_iff_not] at hc'
      have hk9 : k ≤ 9 := by omega
      have : (10 : Nat) ^ k ≤ 1000000000 := Nat.le_trans (Nat.pow_le_pow_right (by decide) hk9) (by decide)
      exact hno (sgn s u) (by unfold sgn; split <;> omega) (by unfold sgn; split <;> omega) e.symm
/-! texts cut at a sign -/
def cutC (c : UInt8) : List UInt8 → List UInt8 × List UInt8 × Bool
  | [] => ([], [], false)
  | b :: l => if b = c then ([], l, true) else (b :: (cutC c l).1, (cutC c l).2.1, (cutC c l).2.2)
def splitC (c : UInt8) : List UInt8 → List (List UInt8)
  | [] => [[]]
  | b :: l => if b = c then [] :: splitC c l else match splitC c l with
    | [] => [[b]]
    | w :: ws => (b :: w) :: ws
theorem splitC_ne (c : UInt8) : ∀ l, splitC c l ≠ []
  | [] => by simp [splitC]
  | b :: l => by
    unfold splitC
    split
    · simp
    · split <;> simp
theorem splitC_at (c : UInt8) : ∀ (a r : List UInt8), c ∉ a → splitC c (a ++ c :: r) = a :: splitC c r
  | [], r, _ => by simp [splitC]
  | b :: a, r, h => by
    have hb : b ≠ c := fun e => h (by simp [e])
    have ih := splitC_at c a r (fun hm => h (by simp [hm]))
    simp only [List.cons_append, splitC, hb, if_false, ih]
theorem splitC_one (c : UInt8) : ∀ (a : List UInt8), c ∉ a → splitC c a = [a]
  | [], _ => by simp [splitC]
  | b :: a, h => by
    have hb : b ≠ c := fun e => h (by simp [e])
    have ih := splitC_one c a (fun hm => h (by simp [hm]))
    simp only [splitC, hb, if_false, ih]
theorem cutC_at (c : UInt8) : ∀ (a r : List UInt8), c ∉ a → cutC c (a ++ c :: r) = (a, r, true)
  | [], r, _ => by simp [cutC]
  | b :: a, r, h => by
    have hb : b ≠ c := fun e => h (by simp [e])
    have ih := cutC_at c a r (fun hm => h (by simp [hm]))
    simp only [List.cons_append, cutC, hb, if_false, ih]
theorem cutC_one (c : UInt8) : ∀ (a : List UInt8), c ∉ a → cutC c a = (a, [], false)
  | [], _ => by simp [cutC]
  | b :: a, h => by
    have hb : b ≠ c := fun e => h (by simp [e])
    have ih := cutC_one c a (fun hm => h (by simp [hm]))
    simp only [cutC, hb, if_false, ih]
theorem cutC_len (c : UInt8) : ∀ l : List UInt8, (cutC c l).1.length ≤ l.length ∧ (cutC c l).2.1.length ≤ l.length
  | [] => by simp [cutC]
  | b :: l => by
    have := cutC_len c l
    unfold cutC
    split
    · simp
    · simp only [List.length_cons]; omega
/-- a text is without the sign, or it is cut -/
theorem cut_or (c : UInt8) : ∀ l : List UInt8, c ∉ l ∨ ∃ a r, l = a ++ c :: r ∧ c ∉ a
  | [] => .inl (by simp)
  | b :: l => by
    by_cases h : b = c
    · exact .inr ⟨[], l, by simp [h], by simp⟩
    · rcases cut_or c l with h' | ⟨a, r, e, h'⟩
      · exact .inl (by simp [h', Ne.symm h])
      · exact .inr ⟨b :: a, r, by simp [e], by simp [h', Ne.symm h]⟩
theorem index_none (c : UInt8) : ∀ l : List UInt8, c ∉ l → Go.Lib.index l [c] = -1
  | [], _ => rfl
  | b :: l, h => by
    have hb : ¬ c = b := fun e => h (by simp [e])
    have ih := index_none c l (fun hm => h (by simp [hm]))
    unfold Go.Lib.index
    rw [ih]
    simp [List.isPrefixOf, hb]
theorem index_some (c : UInt8) : ∀ (a r : List UInt8), c ∉ a → Go.Lib.index (a ++ c :: r) [c] = a.length
  | [], r, _ => by simp [Go.Lib.index, List.isPrefixOf]
  | b :: a, r, h => by
    have hb : ¬ c = b := fun e => h (by simp [e])
    have ih := index_some c a r (fun hm => h (by simp [hm]))
    rw [List.cons_append]
    unfold Go.Lib.index
    rw [ih]
    simp only [List.isPrefixOf, beq_eq_false_iff_ne.2 hb, Bool.false_and, Bool.false_eq_true, if_false]
    rw [if_neg (by simp)]
    simp
theorem cut_eq (c : UInt8) (l : List UInt8) : Go.Lib.cut l [c] = cutC c l := by
  unfold Go.Lib.cut
  rcases cut_or c l with h | ⟨a, r, rfl, h⟩
  · rw [index_none c l h, cutC_one c l h]; rfl
  · rw [index_some c a r h, cutC_at c a r h, if_pos (by omega)]
    simp
theorem split_eq (c : UInt8) : ∀ (n : Nat) (l : List UInt8), l.length ≤ n → Go.Lib.splitK [c] 0 (Go.Lib.count l [c]) l = splitC c l := by
  intro n
  induction n with
  | zero =>
    intro l h
    have : l = [] := List.eq_nil_of_length_eq_zero (by omega)
    subst this; rfl
  | succ n ih =>
    intro l h
    rcases cut_or c l with h' | ⟨a, r, rfl, h'⟩
    · rw [Go.Lib.count_miss (index_none c l h'), splitC_one c l h']; rfl
    · have hi := index_some c a r h'
      rw [Go.Lib.count_hit (i := a.length) (by simp) hi, splitC_at c a r h', Nat.add_comm, Go.Lib.splitK, hi]
      simp only [List.length_append, List.length_cons] at h
      have e1 : (a ++ c :: r).drop ((a.length : Int).toNat + [c].length) = r := by simp
      have e2 : (a ++ c :: r).drop (a.length + [c].length) = r := by simp
      have e3 : (a ++ c :: r).take ((a.length : Int).toNat + 0) = a := by simp
      rw [e1, e2, e3, ih r (by omega), if_neg (by simp)]
theorem splitC_nosep (c : UInt8) : ∀ l : List UInt8, ∀ w ∈ splitC c l, c ∉ w
  | [], w, h => by simp [splitC] at h; subst h; simp
  | b :: l, w, h => by
    unfold splitC at h
    split at h
    · rcases List.mem_cons.1 h with rfl | h
      · simp
      · exact splitC_nosep c l w h
    · rename_i hb
      split at h
      · simp only [List.mem_singleton] at h; subst h; simp [Ne.symm hb]
      · rename_i w0 ws hw
        rcases List.mem_cons.1 h with rfl | h
        · have := splitC_nosep c l w0 (by rw [hw]; simp)
          simp [this, Ne.symm hb]
        · exact splitC_nosep c l w (by rw [hw]; simp [h])
theorem splitC_len (c : UInt8) : ∀ l : List UInt8, (splitC c l).length ≤ l.length + 1 ∧ ∀ w ∈ splitC c l, w.length ≤ l.length
  | [] => by simp [splitC]
  | b :: l => by
    obtain ⟨h1, h2⟩ := splitC_len c l
    unfold splitC
    split
    · refine ⟨by simp; omega, fun w hw => ?_⟩
      rcases List.mem_cons.1 hw with rfl | hw
      · simp
      · have := h2 w hw; simp; omega
    · split
      · simp
      · rename_i w ws hw
        rw [hw] at h1 h2
        refine ⟨by simp at h1 ⊢; omega, fun w' hw' => ?_⟩
        rcases List.mem_cons.1 hw' with rfl | hw'
        · have := h2 w (by simp); simp; omega
        · have := h2 w' (by simp [hw']); simp; omega
/-! the reference's cutting -/
def addPart (p : List UInt8) : List (List UInt8) → List (List UInt8)
  | [] => [p]
  | w :: ws => (p ++ w) :: ws
theorem addPart_nil {l : List (List UInt8)} (h : l ≠ []) : addPart [] l = l := by cases l <;> simp_all [addPart]
theorem cut_loop (c : UInt8) : ∀ (N : Nat) (pre rest : List UInt8) (out : List (List UInt8)) (part : List UInt8), (pre ++ rest).length ≤ 1048576 → rest.length < N → out.length ≤ pre.length → part.length ≤ pre.length →
    spec_l13Cut_l1 N (pre ++ rest) (c.toNat : Int) out part pre.length = some (out ++ addPart part (splitC c rest), ())
  | 0, _, _, _, _, _, h, _, _ => by omega
  | N + 1, pre, [], out, part, h1, h2, h3, h4 => by
    unfold spec_l13Cut_l1
    simp only [List.length_append, List.length_nil] at h1
    rw [bif_false (by simp), guardP_pos (by unfold capN; simp; omega)]
    simp [splitC, addPart]
  | N + 1, pre, b :: rest, out, part, h1, h2, h3, h4 => by
    unfold spec_l13Cut_l1
    simp only [List.length_append, List.length_cons] at h1 h2
    rw [bif_true (by simp; omega), guardP_pos (by simp; omega)]
    simp only [getD_app]
    have e := app_one pre b rest
    by_cases hb : b = c
    · subst hb
      rw [bif_true (by simp), guardP_pos (by unfold capN; simp; omega)]
      unfold spec_l13Cut_j1
      rw [i64_succ (m := (pre ++ b :: rest).length) (by simp) (by simp; omega)]
      have := cut_loop b N (pre ++ [b]) rest (out ++ [part]) [] (by simp; omega) (by omega) (by simp; omega) (by simp)
      rw [← e] at this
      simp only [List.length_append, List.length_cons, List.length_nil, Nat.zero_add] at this ⊢
      rw [this, addPart_nil (splitC_ne b rest)]
      simp [splitC, addPart]
    · have hne : ((b.toNat : Int) == (c.toNat : Int)) = false := by
        rw [beq_eq_false_iff_ne]
        intro e'
        exact hb (UInt8.toNat_inj.1 (by omega))
      rw [bif_false hne, i64_succ (m := (pre ++ b :: rest).length) (by simp) (by simp; omega), guardP_pos (by simp; omega)]
      have ht2 : ((pre ++ b :: rest).drop (pre.length : Int).toNat).take (((pre.length + 1 : Nat) : Int).toNat - (pre.length : Int).toNat) = [b] := by
        rw [show ((pre.length : Int)).toNat = pre.length by omega, show (((pre.length + 1 : Nat) : Int)).toNat - pre.length = 1 by omega, List.drop_left]
        rfl
      simp only [ht2]
      rw [guardP_pos (by unfold capS; simp; omega)]
      unfold spec_l13Cut_j1
      rw [i64_succ (m := (pre ++ b :: rest).length) (by simp) (by simp; omega)]
      have := cut_loop c N (pre ++ [b]) rest out (part ++ [b]) (by simp; omega) (by omega) (by simp; omega) (by simp; omega)
      rw [← e] at this
      simp only [List.length_append, List.length_cons, List.length_nil, Nat.zero_add] at this ⊢
      rw [this]
      congr 3
      simp only [splitC, hb, if_false]
      cases h : splitC c rest with
      | nil => exact absurd h (splitC_ne c rest)
      | cons w ws => simp [addPart]
theorem l13cut (c : UInt8) (s : List UInt8) (hs : s.length ≤ 1048576) : spec_l13Cut s (c.toNat : Int) = some (splitC c s, ()) := by
  have := cut_loop c (((s.length : Int) - 0).toNat + 1) [] s [] [] (by simpa using hs) (by omega) (by simp) (by simp)
  unfold spec_l13Cut spec_l13Cut_l1_fuel
  simp only [List.nil_append, List.length_nil, Int.natCast_zero, addPart_nil (splitC_ne c s)] at this
  exact this
/-! hexadecimal texts, read -/
def hv (b : UInt8) : Int := if 48 ≤ b.toNat ∧ b.toNat ≤ 57 then (b.toNat : Int) - 48 else if 97 ≤ b.toNat ∧ b.toNat ≤ 102 then (b.toNat : Int) - 87 else -1
theorem hv_impl (b : UInt8) : impl_hexValue (b.toNat : Int) = some (hv b, ()) ∧ -1 ≤ hv b ∧ hv b ≤ 15 := by
  have hb : b.toNat < 256 := b.toNat_lt
  unfold hv
  generalize b.toNat = n at *
  unfold impl_hexValue
  by_cases h1 : 48 ≤ n ∧ n ≤ 57
  · rw [bif_true (by simp; omega), u8_ok _ (by omega) (by omega), i64_ok (by omega) (by omega), if_pos h1]
    exact ⟨rfl, by omega, by omega⟩
  · rw [bif_false (by rw [Bool.and_eq_false_iff, decide_eq_false_iff_not, decide_eq_false_iff_not]; omega), if_neg h1]
    by_cases h2 : 97 ≤ n ∧ n ≤ 102
    · rw [bif_true (by simp; omega), u8_ok _ (by omega) (by omega), show IntKind.i64.wrap ((n : Int) - 97) = (n : Int) - 97 from i64_ok (by omega) (by omega), i64_ok (by omega) (by omega), if_pos h2]
      refine ⟨?_, by omega, by omega⟩
      congr 2; omega
    · rw [bif_false (by rw [Bool.and_eq_false_iff, decide_eq_false_iff_not, decide_eq_false_iff_not]; omega), if_neg h2]
      exact ⟨rfl, by omega, by omega⟩
def unhex : List UInt8 → Option (List UInt8)
  | [] => some []
  | [_] => none
  | a :: b :: r => if hv a < 0 ∨ hv b < 0 then none else (unhex r).map fun d => UInt8.ofNat (16 * (hv a).toNat + (hv b).toNat) :: d
theorem unhex_len : ∀ {s d : List UInt8}, unhex s = some d → s.length = 2 * d.length
  | [], d, h => by simp [unhex] at h; subst h; rfl
  | [_], d, h => by simp [unhex] at h
  | a :: b :: r, d, h => by
    simp only [unhex] at h
    split at h
    · cases h
    · simp only [Option.map_eq_some_iff] at h
      obtain ⟨d', h1, rfl⟩ := h
      have := unhex_len h1
      simp only [List.length_cons]; omega
theorem unhex_loop : ∀ (N : Nat) (pre rest : List UInt8) (out : List Int), (pre ++ rest).length ≤ 1048576 → rest.length % 2 = 0 → out.length ≤ pre.length → rest.length < N →
    spec_DecodeHex_l1 N (pre ++ rest) out (pre.length : Int) = some (match unhex rest with | some d => (bytesOf out ++ d, true, ()) | none => ([], false, ())) ∧
    impl_DecodeHex_l1 N (pre ++ rest) out (pre.length : Int) = some (match unhex rest with | some d => (bytesOf out ++ d, true, ()) | none => ([], false, ()))
  | 0, _, _, _, _, _, _, h => by omega
  | N + 1, pre, [], out, hs, h2, ho, hN => by
    unfold spec_DecodeHex_l1 impl_DecodeHex_l1
    rw [bif_false (by simp), bif_false (by simp)]
    simp [unhex]
  | N + 1, pre, [_], out, hs, h2, ho, hN => by simp at h2
  | N + 1, pre, a :: b :: rest, out, hs, h2, ho, hN => by
    unfold spec_DecodeHex_l1 impl_DecodeHex_l1
    simp only [List.length_append, List.length_cons] at hs h2 hN
    have e : pre ++ a :: b :: rest = pre ++ [a, b] ++ rest := by simp
    have e1 : IntKind.i64.wrap ((pre.length : Int) + 1) = ((pre.length + 1 : Nat) : Int) := i64_succ (m := 1048576) (by omega) (by omega)
    have e3 : IntKind.i64.wrap ((pre.length : Int) + 2) = ((pre.length + 2 : Nat) : Int) := by rw [i64_ok (by omega) (by omega)]; omega
    have ga : (pre ++ a :: b :: rest).getD ((pre.length : Int).toNat) 0 = a := getD_app pre a (b :: rest) 0
    have gb : (pre ++ a :: b :: rest).getD (((pre.length + 1 : Nat) : Int).toNat) 0 = b := by
      simp
    have hl : ((pre ++ a :: b :: rest).length : Int) = (pre.length : Int) + rest.length + 2 := by simp; omega
    rw [bif_true (dec_true (by omega)), bif_true (dec_true (by omega)), e1, e3, ga, gb, hexVal_eq, hexVal_eq]
    obtain ⟨hva, v0, v1⟩ := hv_impl a
    obtain ⟨hvb, u0, u1⟩ := hv_impl b
    rw [hva, hvb]
    simp only [Option.bind_some]
    have g1 : (0 : Int) ≤ (pre.length : Int) ∧ (pre.length : Int) < ((pre ++ a :: b :: rest).length : Int) := by omega
    have g2 : (0 : Int) ≤ ((pre.length + 1 : Nat) : Int) ∧ ((pre.length + 1 : Nat) : Int) < ((pre ++ a :: b :: rest).length : Int) := by omega
    simp only [guardP_pos g1, guardP_pos g2]
    by_cases hn : hv a < 0 ∨ hv b < 0
    · rw [bif_true (by simp; omega), bif_true (by simp; omega)]
      simp [unhex, hn]
    · have hn' := hn
      rw [bif_false (by simp; omega), bif_false (by simp; omega)]
      have hc : IntKind.u8.wrap (IntKind.i64.wrap (IntKind.i64.wrap (16 * hv a) + hv b)) = ((16 * (hv a).toNat + (hv b).toNat : Nat) : Int) := by
        have w1 : IntKind.i64.wrap (16 * hv a) = 16 * hv a := i64_ok (by omega) (by omega)
        rw [w1, i64_ok (by omega) (by omega), u8_ok _ (by omega) (by omega)]; omega
      rw [hc, guardP_pos (by simp [capN]; omega), guardP_pos (by simp [capN]; omega)]
      obtain ⟨k1, k2⟩ := unhex_loop N (pre ++ [a, b]) rest (out ++ [((16 * (hv a).toNat + (hv b).toNat : Nat) : Int)]) (by simp; omega) (by omega) (by simp; omega) (by omega)
      rw [← e] at k1 k2
      simp only [List.length_append, List.length_cons, List.length_nil, Nat.zero_add] at k1 k2 ⊢
      rw [k1, k2]
      have hu : unhex (a :: b :: rest) = (unhex rest).map fun d => UInt8.ofNat (16 * (hv a).toNat + (hv b).toNat) :: d := by simp only [unhex, hn, if_false]
      rw [hu]
      have hbo : bytesOf (out ++ [((16 * (hv a).toNat + (hv b).toNat : Nat) : Int)]) = bytesOf out ++ [UInt8.ofNat (16 * (hv a).toNat + (hv b).toNat)] := by
        generalize 16 * (hv a).toNat + (hv b).toNat = m
        simp [bytesOf]
      cases unhex rest with
      | none => exact ⟨rfl, rfl⟩
      | some d => simp only [Option.map_some, hbo, List.append_assoc, List.singleton_append]; exact ⟨trivial, trivial⟩
def unhexD (s : List UInt8) : List UInt8 := (unhex s).getD []
theorem unhex_odd : ∀ {s : List UInt8}, s.length % 2 = 1 → unhex s = none
  | [], h => by simp at h
  | [_], _ => rfl
  | a :: b :: r, h => by
    have := unhex_odd (s := r) (by simp at h; omega)
    simp only [unhex, this]; split <;> rfl
theorem unhexD_len (s : List UInt8) : (unhexD s).length ≤ s.length := by
  unfold unhexD
  cases h : unhex s with
  | none => simp
  | some d => have := unhex_len h; simp; omega
theorem decHex (s : List UInt8) (h : s.length ≤ 1048576) : spec_DecodeHex s = some (unhexD s, (unhex s).isSome, ()) ∧ impl_DecodeHex s = some (unhexD s, (unhex s).isSome, ()) := by
  unfold spec_DecodeHex impl_DecodeHex
  rw [guardP_pos (by decide), guardP_pos (by decide)]
  have e : Int.tmod (s.length : Int) 2 = ((s.length % 2 : Nat) : Int) := by rw [Int.tmod_eq_emod_of_nonneg (by omega)]; omega
  rw [e]
  by_cases h1 : s.length % 2 = 1
  · rw [h1, bif_true (by rfl), bif_true (by rfl)]
    simp [unhexD, unhex_odd h1]
  · have h0 : s.length % 2 = 0 := by omega
    rw [h0, bif_false (by rfl), bif_false (by rfl)]
    obtain ⟨k1, k2⟩ := unhex_loop (((s.length : Int) - 0).toNat + 1) [] s [] (by simpa using h) h0 (by simp) (by omega)
    simp only [List.nil_append, List.length_nil, Int.natCast_zero] at k1 k2
    unfold spec_DecodeHex_l1_fuel impl_DecodeHex_l1_fuel
    rw [k1, k2]
    unfold unhexD
    cases unhex s with
    | none => exact ⟨rfl, rfl⟩
    | some d => simp [bytesOf]
theorem hv_digit : ∀ k : Fin 16, hv (UInt8.ofNat (hexd k.val).toNat) = (k.val : Int) := by decide
theorem hexT_cons (b : UInt8) (l : List UInt8) : hexT (b :: l) = UInt8.ofNat (hexd (b.toNat / 16)).toNat :: UInt8.ofNat (hexd (b.toNat % 16)).toNat :: hexT l := by
  simp [hexT, bytesOf, hx]
theorem unhex_hexT : ∀ d : List UInt8, unhex (hexT d) = some d
  | [] => rfl
  | b :: d => by
    have hb : b.toNat < 256 := b.toNat_lt
    rw [hexT_cons]
    have h1 : hv (UInt8.ofNat (hexd (b.toNat / 16)).toNat) = ((b.toNat / 16 : Nat) : Int) := hv_digit ⟨b.toNat / 16, by omega⟩
    have h2 : hv (UInt8.ofNat (hexd (b.toNat % 16)).toNat) = ((b.toNat % 16 : Nat) : Int) := hv_digit ⟨b.toNat % 16, by omega⟩
    simp only [unhex, h1, h2]
    rw [if_neg (by omega), unhex_hexT d]
    simp only [Option.map_some, Int.toNat_natCast, Option.some.injEq, List.cons.injEq, and_true]
    apply UInt8.toNat_inj.1
    simp; omega
theorem hexT_nosp (c : UInt8) (hc : c = 32 ∨ c = 10) : ∀ d : List UInt8, c ∉ hexT d
  | [] => by simp [hexT, bytesOf]
  | b :: d => by
    have hb : b.toNat < 256 := b.toNat_lt
    have key : ∀ k : Fin 16, UInt8.ofNat (hexd k.val).toNat ≠ 32 ∧ UInt8.ofNat (hexd k.val).toNat ≠ 10 := by decide
    have k1 := key ⟨b.toNat / 16, by omega⟩
    have k2 := key ⟨b.toNat % 16, by omega⟩
    have ih := hexT_nosp c hc d
    rw [hexT_cons]
    simp only [List.mem_cons, not_or]
    rcases hc with rfl | rfl
    · exact ⟨Ne.symm k1.1, Ne.symm k2.1, ih⟩
    · exact ⟨Ne.symm k1.2, Ne.symm k2.2, ih⟩
theorem itoa_nosp (c : UInt8) (hc : c = 32 ∨ c = 10) (n : Int) : c ∉ Go.Lib.itoa n := by
  have hd : ∀ u, c ∉ Go.Lib.decDigits u := fun u h => by
    have := decDigits_dig u c h
    rcases hc with rfl | rfl <;> simp at this
  unfold Go.Lib.itoa
  split
  · simp only [List.mem_cons, not_or]
    refine ⟨?_, hd _⟩
    rcases hc with rfl | rfl <;> decide
  · exact hd _
/-! lists as texts -/
theorem lit_i64 {x : Int} (h : (Lit.int .i64 x).wf = true) : -9223372036854775808 ≤ x ∧ x ≤ 9223372036854775807 := by
  simp only [Lit.wf, Bool.and_eq_true, decide_eq_true_eq] at h
  exact h
theorem join_snoc (xs : List (List UInt8)) (y sep : List UInt8) (h : xs ≠ []) : Go.Lib.join (xs ++ [y]) sep = Go.Lib.join xs sep ++ sep ++ y := by
  cases xs with
  | nil => exact absurd rfl h
  | cons x r =>
    rw [List.cons_append, Go.Lib.join_cons, Go.Lib.join_cons]
    simp [Go.Lib.joinTail]
theorem join_len (sep : List UInt8) (K : Nat) : ∀ (xs : List (List UInt8)), (∀ x ∈ xs, x.length ≤ K) → (Go.Lib.join xs sep).length ≤ (K + sep.length) * xs.length
  | [], _ => by simp [Go.Lib.join_nil]
  | x :: r, h => by
    rw [Go.Lib.join_cons, List.length_append, Go.Lib.joinTail_length]
    have h1 : x.length ≤ K := h x (by simp)
    have h2 : Go.Lib.lens r ≤ K * r.length := by
      have hr : ∀ z ∈ r, z.length ≤ K := fun z hz => h z (by simp [hz])
      clear h
      induction r with
      | nil => simp [Go.Lib.lens]
      | cons z r ih =>
        have := ih fun q hq => hr q (by simp [hq])
        have hz := hr z (by simp)
        simp only [Go.Lib.lens, List.map_cons, List.sum_cons, List.length_cons] at this ⊢
        rw [Nat.mul_succ]; omega
    rw [List.length_cons, Nat.add_mul, Nat.mul_succ, Nat.mul_succ]
    omega
theorem take_snoc {α : Type} {d : α} {l : List α} {i : Nat} (h : i < l.length) : l.take (i + 1) = l.take i ++ [l.getD i d] := by
  rw [List.take_add_one, List.getElem?_eq_getElem h, List.getD_eq_getElem?_getD, List.getElem?_eq_getElem h]; rfl
theorem sep_loop {α : Type} {d : α} {txt : α → List UInt8} {sep : List UInt8} {ok : α → Prop} {K : Nat} (hK : ∀ x, ok x → (txt x).length ≤ K)
    {L : Nat → List α → List UInt8 → Int → Option (List UInt8 × Unit)} {fin : List UInt8 → Option (List UInt8 × Unit)}
    (hL : ∀ N l (s : List UInt8) (i : Nat), i < l.length → l.length ≤ 1048576 → ok (l.getD i d) → s.length ≤ (K + sep.length) * 1048576 →
      L (N + 1) l s (i : Int) = L N l ((if 0 < i then s ++ sep else s) ++ txt (l.getD i d)) ((i + 1 : Nat) : Int))
    (hE : ∀ N (l : List α) s, L (N + 1) l s (l.length : Int) = fin s) : ∀ (N : Nat) (l : List α) (s : List UInt8) (i : Nat), (∀ x ∈ l, ok x) → l.length ≤ 1048576 → i ≤ l.length → l.length - i < N →
      s = Go.Lib.join ((l.take i).map txt) sep → L N l s (i : Int) = fin (Go.Lib.join (l.map txt) sep)
  | 0, _, _, _, _, _, _, h, _ => by omega
  | N + 1, l, s, i, ho, hl, hi, hN, hs => by
    by_cases h : i < l.length
    · have hx : ok (l.getD i d) := by
        rw [List.getD_eq_getElem?_getD, List.getElem?_eq_getElem h]
        exact ho _ (List.getElem_mem h)
      have hb : s.length ≤ (K + sep.length) * 1048576 := by
        rw [hs]
        refine Nat.le_trans (join_len sep K _ ?_) (Nat.mul_le_mul_left _ ?_)
        · intro x hx
          obtain ⟨y, hy, rfl⟩ := List.mem_map.1 hx
          exact hK y (ho y (List.mem_of_mem_take hy))
        · rw [List.length_map, List.length_take]; omega
      rw [hL N l s i h hl hx hb]
      refine sep_loop hK hL hE N l _ (i + 1) ho hl h (by omega) ?_
      rw [take_snoc (d := d) h, List.map_append, List.map_cons, List.map_nil]
      by_cases h0 : 0 < i
      · rw [if_pos h0, hs, join_snoc]
        intro e
        have := congrArg List.length e
        rw [List.length_map, List.length_take, List.length_nil] at this
        omega
      · have : i = 0 := by omega
        subst this
        rw [if_neg h0, hs]
        simp [Go.Lib.join_one, Go.Lib.join_nil]
    · have : i = l.length := by omega
      subst this
      rw [hE, hs, List.take_length]
theorem push_loop {α β : Type} {d : α} {txt : α → β} {ok : α → Prop} {ρ : Type}
    {L : Nat → List β → List α → Int → Int → Option ρ} {fin : List β → Option ρ}
    (hL : ∀ N out (l : List α) (i : Nat), i < l.length → l.length ≤ 1048576 → ok (l.getD i d) → out.length ≤ i → L (N + 1) out l (l.length : Int) (i : Int) = L N (out ++ [txt (l.getD i d)]) l (l.length : Int) ((i + 1 : Nat) : Int))
    (hE : ∀ N out (l : List α), L (N + 1) out l (l.length : Int) (l.length : Int) = fin out) : ∀ (N : Nat) (l : List α) (out : List β) (i : Nat), (∀ x ∈ l, ok x) → l.length ≤ 1048576 → i ≤ l.length → l.length - i < N →
      out = (l.take i).map txt → L N out l (l.length : Int) (i : Int) = fin (l.map txt)
  | 0, _, _, _, _, _, _, h, _ => by omega
  | N + 1, l, out, i, ho, hl, hi, hN, hs => by
    by_cases h : i < l.length
    · have hx : ok (l.getD i d) := by
        rw [List.getD_eq_getElem?_getD, List.getElem?_eq_getElem h]
        exact ho _ (List.getElem_mem h)
      rw [hL N out l i h hl hx (by rw [hs, List.length_map, List.length_take]; omega)]
      refine push_loop hL hE N l _ (i + 1) ho hl h (by omega) ?_
      rw [take_snoc (d := d) h, List.map_append, List.map_cons, List.map_nil, hs]
    · have : i = l.length := by omega
      subst this
      rw [hE, hs, List.take_length]
def fq (x : Int) : Bool := decide (x ≥ (0 : Int)) && decide (x ≤ (4611686018427387903 : Int))
theorem quic_spec (x : Int) : spec_l4Quic x = some (fq x, ()) := rfl
theorem quic_impl (x : Int) : impl_isQuic x = some (fq x, ()) := rfl
theorem kindName_eq : impl_KindName = spec_KindName := rfl
theorem about_eq : impl_IsAboutStream = spec_IsAboutStream := rfl
theorem used_eq : impl_used = spec_l4Used := rfl
/-- the parts of a frame that its kind has, and no others -/
def plainFrame (f : TFrame) : Bool :=
  bif f.1 == 4 then decide (f.2.2.1 = 0) && (f.2.2.2.1 == []) && (f.2.2.2.2.1 == false) && decide (f.2.2.2.2.2.2.1 = 0) && (f.2.2.2.2.2.2.2.2.1 == false)
  else bif f.1 == 5 then decide (f.2.2.1 = 0) && (f.2.2.2.1 == []) && (f.2.2.2.2.1 == false) && decide (f.2.2.2.2.2.2.1 = 0) && decide (f.2.2.2.2.2.2.2.1 = 0) && (f.2.2.2.2.2.2.2.2.1 == false)
  else bif f.1 == 8 then decide (f.2.2.2.2.2.1 = 0) && decide (f.2.2.2.2.2.2.1 = 0) && decide (f.2.2.2.2.2.2.2.1 = 0) && (f.2.2.2.2.2.2.2.2.1 == false)
  else bif f.1 == 17 || f.1 == 21 then decide (f.2.2.1 = 0) && (f.2.2.2.1 == []) && (f.2.2.2.2.1 == false) && decide (f.2.2.2.2.2.1 = 0) && decide (f.2.2.2.2.2.2.2.1 = 0) && (f.2.2.2.2.2.2.2.2.1 == false)
  else bif f.1 == 18 || f.1 == 22 then decide (f.2.1 = 0) && decide (f.2.2.1 = 0) && (f.2.2.2.1 == []) && (f.2.2.2.2.1 == false) && decide (f.2.2.2.2.2.1 = 0) && decide (f.2.2.2.2.2.2.2.1 = 0)
  else bif f.1 == 16 || f.1 == 20 then decide (f.2.1 = 0) && decide (f.2.2.1 = 0) && (f.2.2.2.1 == []) && (f.2.2.2.2.1 == false) && decide (f.2.2.2.2.2.1 = 0) && decide (f.2.2.2.2.2.2.2.1 = 0) && (f.2.2.2.2.2.2.2.2.1 == false)
  else false
def frameOK (f : TFrame) : Bool :=
  plainFrame f && fq f.2.1 && fq f.2.2.1 && fq f.2.2.2.2.2.1 && fq f.2.2.2.2.2.2.1 && fq f.2.2.2.2.2.2.2.1 && decide (f.2.2.2.1.length ≤ 400) && (bif f.1 == 18 || f.1 == 22 then decide (f.2.2.2.2.2.2.1 ≤ (1152921504606846976 : Int)) else decide (f.2.2.1 ≤ (4611686018427387903 : Int) - (f.2.2.2.1.length : Int)))
theorem name_nil (k : Int) : ∃ s, spec_KindName k = some (s, ()) ∧ ((s == ([] : List UInt8)) = !(k == 4 || k == 5 || k == 8 || k == 16 || k == 17 || k == 18 || k == 20 || k == 21 || k == 22)) := by
  unfold spec_KindName
  cases h4 : k == 4 <;> cases h5 : k == 5 <;> cases h8 : k == 8 <;> cases h16 : k == 16 <;> cases h17 : k == 17 <;> cases h18 : k == 18 <;> cases h20 : k == 20 <;> cases h21 : k == 21 <;> cases h22 : k == 22 <;> exact ⟨_, rfl, rfl⟩
theorem used_spec (f : TFrame) : ∃ u, spec_l4Used f = some (u, ()) ∧ ((f.1 == 4 || f.1 == 5 || f.1 == 8 || f.1 == 16 || f.1 == 17 || f.1 == 18 || f.1 == 20 || f.1 == 21 || f.1 == 22) = true → eqV tyFrame u f = plainFrame f ∧ eqV tyFrame f u = plainFrame f) := by
  obtain ⟨k, st, off, data, fin, code, lim, final, uni, z⟩ := f
  by_cases h4 : k = 4
  · subst h4; exact ⟨_, rfl, fun _ => by constructor <;> rw [Bool.eq_iff_iff] <;> simp [eqV, plainFrame] <;> grind⟩
  by_cases h5 : k = 5
  · subst h5; exact ⟨_, rfl, fun _ => by constructor <;> rw [Bool.eq_iff_iff] <;> simp [eqV, plainFrame] <;> grind⟩
  by_cases h8 : k = 8
  · subst h8; exact ⟨_, rfl, fun _ => by constructor <;> rw [Bool.eq_iff_iff] <;> simp [eqV, plainFrame] <;> grind⟩
  by_cases h17 : k = 17
  · subst h17; exact ⟨_, rfl, fun _ => by constructor <;> rw [Bool.eq_iff_iff] <;> simp [eqV, plainFrame] <;> grind⟩
  by_cases h21 : k = 21
  · subst h21; exact ⟨_, rfl, fun _ => by constructor <;> rw [Bool.eq_iff_iff] <;> simp [eqV, plainFrame] <;> grind⟩
  by_cases h18 : k = 18
  · subst h18; exact ⟨_, rfl, fun _ => by constructor <;> rw [Bool.eq_iff_iff] <;> simp [eqV, plainFrame] <;> grind⟩
  by_cases h22 : k = 22
  · subst h22; exact ⟨_, rfl, fun _ => by constructor <;> rw [Bool.eq_iff_iff] <;> simp [eqV, plainFrame] <;> grind⟩
  by_cases h16 : k = 16
  · subst h16; exact ⟨_, rfl, fun _ => by constructor <;> rw [Bool.eq_iff_iff] <;> simp [eqV, plainFrame] <;> grind⟩
  by_cases h20 : k = 20
  · subst h20; exact ⟨_, rfl, fun _ => by constructor <;> rw [Bool.eq_iff_iff] <;> simp [eqV, plainFrame] <;> grind⟩
  · have e : ∀ c : Int, k ≠ c → (k == c) = false := fun c h => by simp [h]
    refine ⟨(k, 0, 0, [], false, 0, lim, 0, false, ()), ?_, fun hk => ?_⟩
    rotate_left
    · simp only [e _ h4, e _ h5, e _ h8, e _ h17, e _ h21, e _ h18, e _ h22, e _ h16, e _ h20] at hk
      cases hk
    · unfold spec_l4Used spec_IsAboutStream spec_IsAboutStream_j1 spec_l4Used_j1 spec_l4Used_j2
      simp only [e _ h4, e _ h5, e _ h8, e _ h17, e _ h21, e _ h18, e _ h22, cond_false, Option.bind_some]
theorem plain_off {f : TFrame} (h : plainFrame f = true) (h8 : f.1 ≠ 8) : f.2.2.1 = 0 ∧ f.2.2.2.1 = [] := by
  obtain ⟨k, st, off, data, fin, code, lim, final, uni, z⟩ := f
  unfold plainFrame at h
  simp only at h h8 ⊢
  have e8 : (k == 8) = false := by simp [h8]
  rw [e8] at h
  revert h
  cases k == 4 <;> cases k == 5 <;> cases (k == 17 || k == 21) <;> cases (k == 18 || k == 22) <;> cases (k == 16 || k == 20) <;> simp <;> grind
theorem plain_kind {f : TFrame} (h : plainFrame f = true) : (f.1 == 4 || f.1 == 5 || f.1 == 8 || f.1 == 16 || f.1 == 17 || f.1 == 18 || f.1 == 20 || f.1 == 21 || f.1 == 22) = true := by
  obtain ⟨k, st, off, data, fin, code, lim, final, uni, z⟩ := f
  unfold plainFrame at h
  simp only at h ⊢
  revert h
  cases k == 4 <;> cases k == 5 <;> cases k == 8 <;> cases k == 17 <;> cases k == 21 <;> cases k == 18 <;> cases k == 22 <;> cases k == 16 <;> cases k == 20 <;> simp
theorem spec_isFrame (f : TFrame) (hl : f.2.2.2.1.length ≤ 1048576) : spec_IsFrame f = some (frameOK f, ()) := by
  obtain ⟨s, hs, hn⟩ := name_nil f.1
  obtain ⟨u, hu, hp⟩ := used_spec f
  unfold spec_IsFrame
  simp only [hs, hu, quic_spec, Option.bind_some, hn]
  cases hk : (f.1 == 4 || f.1 == 5 || f.1 == 8 || f.1 == 16 || f.1 == 17 || f.1 == 18 || f.1 == 20 || f.1 == 21 || f.1 == 22)
  · have hpf : plainFrame f = false := by
      cases h : plainFrame f
      · rfl
      · rw [plain_kind h] at hk; cases hk
    simp only [Bool.not_false, cond_true, Option.bind_some, Bool.true_or]
    unfold frameOK
    rw [hpf]; rfl
  · simp only [Bool.not_true, cond_false, Option.bind_some, Bool.false_or, (hp hk).1]
    have hq : frameOK f = (plainFrame f && fq f.2.1 && fq f.2.2.1 && fq f.2.2.2.2.2.1 && fq f.2.2.2.2.2.2.1 && fq f.2.2.2.2.2.2.2.1 && decide (f.2.2.2.1.length ≤ 400) && (bif f.1 == 18 || f.1 == 22 then decide (f.2.2.2.2.2.2.1 ≤ (1152921504606846976 : Int)) else decide (f.2.2.1 ≤ (4611686018427387903 : Int) - (f.2.2.2.1.length : Int)))) := rfl
    rw [hq, i64_ok (by omega) (by omega)]
    have hd : decide ((f.2.2.2.1.length : Int) > 400) = !(decide (f.2.2.2.1.length ≤ 400)) := by
      rw [Bool.eq_iff_iff]; simp; omega
    rw [hd]
    cases hpf : plainFrame f
    · simp
    · have hoff := plain_off hpf
      cases fq f.2.1 <;> cases fq f.2.2.1 <;> cases fq f.2.2.2.2.2.1 <;> cases fq f.2.2.2.2.2.2.1 <;> cases fq f.2.2.2.2.2.2.2.1 <;> cases hlen : decide (f.2.2.2.1.length ≤ 400) <;> try rfl
      by_cases h8 : f.1 = 8
      · simp [h8]
      · have e8 : (f.1 == 8) = false := by simp [h8]
        obtain ⟨o1, o2⟩ := hoff h8
        unfold spec_IsFrame_j1
        cases h18 : f.1 == 18 <;> cases h22 : f.1 == 22 <;> simp [e8, o1, o2]
theorem impl_isFrame (f : TFrame) (hl : f.2.2.2.1.length ≤ 1048576) : impl_IsFrame f = some (frameOK f, ()) := by
  obtain ⟨s, hs, hn⟩ := name_nil f.1
  obtain ⟨u, hu, hp⟩ := used_spec f
  unfold impl_IsFrame
  rw [kindName_eq, used_eq]
  simp only [hs, hu, quic_impl, Option.bind_some, hn]
  cases hk : (f.1 == 4 || f.1 == 5 || f.1 == 8 || f.1 == 16 || f.1 == 17 || f.1 == 18 || f.1 == 20 || f.1 == 21 || f.1 == 22)
  · have hpf : plainFrame f = false := by
      cases h : plainFrame f
      · rfl
      · rw [plain_kind h] at hk; cases hk
    simp only [Bool.not_false, cond_true, Option.bind_some, Bool.true_or]
    unfold frameOK
    rw [hpf]; rfl
  · simp only [Bool.not_true, cond_false, Option.bind_some, Bool.false_or, (hp hk).2]
    have hq : frameOK f = (plainFrame f && fq f.2.1 && fq f.2.2.1 && fq f.2.2.2.2.2.1 && fq f.2.2.2.2.2.2.1 && fq f.2.2.2.2.2.2.2.1 && decide (f.2.2.2.1.length ≤ 400) && (bif f.1 == 18 || f.1 == 22 then decide (f.2.2.2.2.2.2.1 ≤ (1152921504606846976 : Int)) else decide (f.2.2.1 ≤ (4611686018427387903 : Int) - (f.2.2.2.1.length : Int)))) := rfl
    rw [hq, i64_ok (by omega) (by omega)]
    have hd : decide ((f.2.2.2.1.length : Int) ≤ 400) = (decide (f.2.2.2.1.length ≤ 400)) := by
      rw [Bool.eq_iff_iff]; simp; omega
    rw [hd]
    cases hpf : plainFrame f
    · simp
    · have hoff := plain_off hpf
      cases fq f.2.1 <;> cases fq f.2.2.1 <;> cases fq f.2.2.2.2.2.1 <;> cases fq f.2.2.2.2.2.2.1 <;> cases fq f.2.2.2.2.2.2.2.1 <;> try rfl
      by_cases h8 : f.1 = 8
      · simp [h8]
      · obtain ⟨o1, o2⟩ := hoff h8
        cases h18 : f.1 == 18 <;> cases h22 : f.1 == 22 <;> simp [o1, o2]
theorem fq_pos {x : Int} (h : fq x = true) : 0 ≤ x ∧ x ≤ 4611686018427387903 := by
  unfold fq at h
  simp only [Bool.and_eq_true, decide_eq_true_eq] at h
  exact ⟨h.1, h.2⟩
theorem small_spec (x : Int) : spec_l32Small x = some (decide (x ≥ 0) && decide (x ≤ 999999999), ()) := rfl
theorem frame_text (f : TFrame) (hl : f.2.2.2.1.length ≤ 1048576) : ∃ r, spec_FormatFrame f = some (r, ()) ∧ impl_FormatFrame f = some (r, ()) ∧ r.length ≤ 2000 := by
  unfold spec_FormatFrame impl_FormatFrame
  simp only [spec_isFrame f hl, impl_isFrame f hl, Option.bind_some, small_spec]
  cases hok : frameOK f
  · exact ⟨[], rfl, rfl, by simp⟩
  · have hok' := hok
    unfold frameOK at hok'
    simp only [Bool.and_eq_true, decide_eq_true_eq] at hok'
    obtain ⟨⟨⟨⟨⟨⟨⟨hp, q1⟩, q2⟩, q3⟩, q4⟩, q5⟩, hlen⟩, _⟩ := hok'
    have q1 := fq_pos q1
    have q2 := fq_pos q2
    have q3 := fq_pos q3
    have q4 := fq_pos q4
    have q5 := fq_pos q5
    have hk := plain_kind hp
    unfold impl_isSmall
    have d0 : ∀ x : Int, 0 ≤ x → (decide (x ≥ 0) && decide (x ≤ 999999999)) = decide (x ≤ 999999999) := fun x hx => by simp [hx]
    simp only [d0 _ q1.1, d0 _ q2.1, d0 _ q3.1, d0 _ q4.1, d0 _ q5.1, Bool.not_true, cond_false, Bool.false_or, Option.bind_some]
    cases h1 : decide (f.2.1 ≤ 999999999)
    · exact ⟨[], rfl, rfl, by simp⟩
    cases h2 : decide (f.2.2.1 ≤ 999999999)
    · exact ⟨[], rfl, rfl, by simp⟩
    cases h3 : decide (f.2.2.2.2.2.1 ≤ 999999999)
    · exact ⟨[], rfl, rfl, by simp⟩
    cases h4 : decide (f.2.2.2.2.2.2.1 ≤ 999999999)
    · exact ⟨[], rfl, rfl, by simp⟩
    cases h5 : decide (f.2.2.2.2.2.2.2.1 ≤ 999999999)
    · exact ⟨[], rfl, rfl, by simp⟩
    obtain ⟨k, st, off, data, fin, code, lim, final, uni, z⟩ := f
    simp only at *
    have s1 := fmtInt st (by omega) (by omega)
    have i1 := implInt st (by omega) (by omega)
    have l1 := itoa_len st (by omega) (by omega)
    have s2 := fmtInt off (by omega) (by omega)
    have i2 := implInt off (by omega) (by omega)
    have l2 := itoa_len off (by omega) (by omega)
    have s3 := fmtInt code (by omega) (by omega)
    have i3 := implInt code (by omega) (by omega)
    have l3 := itoa_len code (by omega) (by omega)
    have s4 := fmtInt lim (by omega) (by omega)
    have i4 := implInt lim (by omega) (by omega)
    have l4 := itoa_len lim (by omega) (by omega)
    have s5 := fmtInt final (by omega) (by omega)
    have i5 := implInt final (by omega) (by omega)
    have l5 := itoa_len final (by omega) (by omega)
    have sh := hexS data hl
    have ih := hexI data hl
    have lh := hexT_len data
    generalize Go.Lib.itoa st = a at *
    generalize Go.Lib.itoa off = b at *
    generalize Go.Lib.itoa code = c at *
    generalize Go.Lib.itoa lim = d at *
    generalize Go.Lib.itoa final = e at *
    generalize hexT data = h at *
    have fin' : ∀ l : List (List UInt8), l.length ≤ 100 → (Go.Lib.join l [32]).length ≤ 100000 → impl_FormatFrame_j3 l = some (Go.Lib.join l [32], ()) := fun l g1 g2 => by
      unfold impl_FormatFrame_j3 strings_Join
      rw [guardP_pos ⟨by omega, by omega⟩]; rfl
    simp only [Bool.or_eq_true, beq_iff_eq] at hk
    rcases hk with (((((((rfl | rfl) | rfl) | rfl) | rfl) | rfl) | rfl) | rfl) | rfl
    all_goals
      cases fin <;> cases uni <;>
      (simp only [kindName_eq, about_eq, spec_KindName, spec_IsAboutStream, spec_IsAboutStream_j1, spec_FormatFrame_j1, spec_FormatFrame_j2, impl_FormatFrame_j1, impl_FormatFrame_j2, spec_l32Fin, spec_l32Uni, impl_told, Int.reduceBEq, beq_self_eq_true,
        Bool.not_true, cond_false, cond_true, Bool.or_false, Bool.or_true, Bool.false_or, Bool.and_self, Option.bind_some, s1, s2, s3, s4, s5, sh, i1, i2, i3, i4, i5, ih]
       repeat rw [guardP_pos (by simp only [List.length_append, List.length_cons, List.length_nil, capN, capS]; omega)]
       rw [fin' _ (by simp only [List.length_append, List.length_cons, List.length_nil]; omega) (by simp only [List.cons_append, List.nil_append, Go.Lib.join_cons, Go.Lib.joinTail, List.map_cons, List.map_nil, List.flatten_cons, List.flatten_nil, List.length_append, List.length_cons, List.length_nil]; omega)]
       refine ⟨_, rfl, ?_, ?_⟩
       · simp [Go.Lib.join_cons, Go.Lib.joinTail]
       · simp only [List.length_append, List.length_cons, List.length_nil]; omega)
/-! the texts of frames -/
def nameW (k : Int) : List UInt8 :=
  if k = 4 then [114, 101, 115, 101, 116] else if k = 5 then [115, 116, 111, 112] else if k = 8 then [115, 116, 114, 101, 97, 109] else if k = 16 then [109, 97, 120, 100, 97, 116, 97]
  else if k = 17 then [109, 97, 120, 115, 116, 114, 101, 97, 109, 100, 97, 116, 97] else if k = 18 then [109, 97, 120, 115, 116, 114, 101, 97, 109, 115] else if k = 20 then [100, 97, 116, 97, 98, 108, 111, 99, 107, 101, 100]
  else if k = 21 then [115, 116, 114, 101, 97, 109, 100, 97, 116, 97, 98, 108, 111, 99, 107, 101, 100] else if k = 22 then [115, 116, 114, 101, 97, 109, 115, 98, 108, 111, 99, 107, 101, 100] else []
theorem kindName (k : Int) : spec_KindName k = some (nameW k, ()) := by
  unfold spec_KindName nameW
  have key : ∀ (c : Int) (a b : List UInt8) (m : Option (List UInt8 × Unit)), m = some (b, ()) → (bif k == c then some (a, ()) else m) = some (if k = c then a else b, ()) := by
    intro c a b m hm
    by_cases h : k = c
    · rw [bif_true (by simp [h]), if_pos h]
    · rw [bif_false (by simp [h]), if_neg h, hm]
  exact key _ _ _ _ (key _ _ _ _ (key _ _ _ _ (key _ _ _ _ (key _ _ _ _ (key _ _ _ _ (key _ _ _ _ (key _ _ _ _ (key _ _ _ _ rfl))))))))
def smallF (f : TFrame) : Bool := decide (f.2.1 ≤ 999999999) && decide (f.2.2.1 ≤ 999999999) && decide (f.2.2.2.2.2.1 ≤ 999999999) && decide (f.2.2.2.2.2.2.1 ≤ 999999999) && decide (f.2.2.2.2.2.2.2.1 ≤ 999999999)
/-- the text of a frame that can be formatted -/
def ftx (f : TFrame) : List UInt8 :=
  if f.1 = 4 then nameW f.1 ++ 32 :: (Go.Lib.itoa f.2.1 ++ 32 :: (Go.Lib.itoa f.2.2.2.2.2.1 ++ 32 :: Go.Lib.itoa f.2.2.2.2.2.2.2.1))
  else if f.1 = 5 then nameW f.1 ++ 32 :: (Go.Lib.itoa f.2.1 ++ 32 :: Go.Lib.itoa f.2.2.2.2.2.1)
  else if f.1 = 8 then nameW f.1 ++ 32 :: (Go.Lib.itoa f.2.1 ++ 32 :: (Go.Lib.itoa f.2.2.1 ++ 32 :: ((120 :: hexT f.2.2.2.1) ++ if f.2.2.2.2.1 then [32, 102, 105, 110] else [])))
  else if f.1 = 17 ∨ f.1 = 21 then nameW f.1 ++ 32 :: (Go.Lib.itoa f.2.1 ++ 32 :: Go.Lib.itoa f.2.2.2.2.2.2.1)
  else if f.1 = 18 ∨ f.1 = 22 then nameW f.1 ++ 32 :: (Go.Lib.itoa f.2.2.2.2.2.2.1 ++ 32 :: if f.2.2.2.2.2.2.2.2.1 then [117, 110, 105] else [98, 105, 100, 105])
  else nameW f.1 ++ 32 :: Go.Lib.itoa f.2.2.2.2.2.2.1
def fmtF (f : TFrame) : List UInt8 := if frameOK f = true ∧ smallF f = true then ftx f else []
theorem nameW_len (k : Int) : (nameW k).length ≤ 17 := by
  unfold nameW; repeat' split
  all_goals simp
theorem fmtF_spec (f : TFrame) (hl : f.2.2.2.1.length ≤ 1048576) : spec_FormatFrame f = some (fmtF f, ()) := by
  unfold spec_FormatFrame fmtF
  simp only [spec_isFrame f hl, Option.bind_some, small_spec, kindName]
  cases hok : frameOK f
  · simp
  · have hok' := hok
    unfold frameOK at hok'
    simp only [Bool.and_eq_true, decide_eq_true_eq] at hok'
    obtain ⟨⟨⟨⟨⟨⟨⟨hp, q1⟩, q2⟩, q3⟩, q4⟩, q5⟩, hlen⟩, _⟩ := hok'
    have q1 := fq_pos q1
    have q2 := fq_pos q2
    have q3 := fq_pos q3
    have q4 := fq_pos q4
    have q5 := fq_pos q5
    have hk := plain_kind hp
    have d0 : ∀ x : Int, 0 ≤ x → (decide (x ≥ 0) && decide (x ≤ 999999999)) = decide (x ≤ 999999999) := fun x hx => by simp [hx]
    unfold smallF
    simp only [d0 _ q1.1, d0 _ q2.1, d0 _ q3.1, d0 _ q4.1, d0 _ q5.1, Bool.not_true, cond_false, Bool.false_or, Option.bind_some]
    cases h1 : decide (f.2.1 ≤ 999999999)
    · simp
    cases h2 : decide (f.2.2.1 ≤ 999999999)
    · simp
    cases h3 : decide (f.2.2.2.2.2.1 ≤ 999999999)
    · simp
    cases h4 : decide (f.2.2.2.2.2.2.1 ≤ 999999999)
    · simp
    cases h5 : decide (f.2.2.2.2.2.2.2.1 ≤ 999999999)
    · simp
    obtain ⟨k, st, off, data, fin, code, lim, final, uni, z⟩ := f
    simp only at *
    have s1 := fmtInt st (by omega) (by omega)
    have l1 := itoa_len st (by omega) (by omega)
    have s2 := fmtInt off (by omega) (by omega)
    have l2 := itoa_len off (by omega) (by omega)
    have s3 := fmtInt code (by omega) (by omega)
    have l3 := itoa_len code (by omega) (by omega)
    have s4 := fmtInt lim (by omega) (by omega)
    have l4 := itoa_len lim (by omega) (by omega)
    have s5 := fmtInt final (by omega) (by omega)
    have l5 := itoa_len final (by omega) (by omega)
    have sh := hexS data hl
    have lh := hexT_len data
    have ln := nameW_len k
    unfold ftx
    simp only [Bool.not_true, Bool.or_false, cond_false, Option.bind_some, s1, s2, s3, s5, sh, Bool.and_self, and_self, if_true]
    generalize Go.Lib.itoa st = a at *
    generalize Go.Lib.itoa off = b at *
    generalize Go.Lib.itoa code = c at *
    generalize Go.Lib.itoa lim = d at *
    generalize Go.Lib.itoa final = e at *
    generalize hexT data = h at *
    generalize nameW k = nm at *
    have g : ∀ (x y : List UInt8) (m : Option (List UInt8 × Unit)), x.length + y.length ≤ 100000 → guardP (x.length + y.length ≤ capS) m = m := fun x y m hxy => guardP_pos (by unfold capS; omega)
    by_cases e4 : k = 4
    · subst e4
      rw [bif_true (by rfl), g _ _ _ (by simp; omega), g _ _ _ (by simp; omega), g _ _ _ (by simp; omega), g _ _ _ (by simp; omega), g _ _ _ (by simp; omega), g _ _ _ (by simp; omega)]
      simp
    rw [bif_false (by simp [e4])]
    by_cases e5 : k = 5
    · subst e5
      rw [bif_true (by rfl), g _ _ _ (by simp; omega), g _ _ _ (by simp; omega), g _ _ _ (by simp; omega), g _ _ _ (by simp; omega)]
      simp
    rw [bif_false (by simp [e5])]
    by_cases e8 : k = 8
    · subst e8
      rw [bif_true (by rfl), g _ _ _ (by simp; omega), g _ _ _ (by simp; omega), g _ _ _ (by simp; omega), g _ _ _ (by simp; omega), g _ _ _ (by simp; omega), g _ _ _ (by simp; omega)]
      have hf : spec_l32Fin fin = some (if fin then [32, 102, 105, 110] else [], ()) := by cases fin <;> rfl
      rw [hf, Option.bind_some, g _ _ _ (by cases fin <;> simp <;> omega)]
      simp
    rw [bif_false (by simp [e8])]
    have hj1 : ∀ t, (t = true → (k = 17 ∨ k = 21)) → (t = false → ¬ (k = 17 ∨ k = 21)) → spec_FormatFrame_j1 (k, st, off, data, fin, code, lim, final, uni, z) nm k t = some (if k = 17 ∨ k = 21 then nm ++ 32 :: (a ++ 32 :: d) else if k = 18 ∨ k = 22 then nm ++ 32 :: (d ++ 32 :: if uni = true then [117, 110, 105] else [98, 105, 100, 105]) else nm ++ 32 :: d, ()) := by
      intro t t1 t0
      unfold spec_FormatFrame_j1
      cases t
      · simp only [cond_false]
        rw [if_neg (t0 rfl)]
        have hj2 : ∀ t, (t = true → (k = 18 ∨ k = 22)) → (t = false → ¬ (k = 18 ∨ k = 22)) → spec_FormatFrame_j2 (k, st, off, data, fin, code, lim, final, uni, z) nm t = some (if k = 18 ∨ k = 22 then nm ++ 32 :: (d ++ 32 :: if uni = true then [117, 110, 105] else [98, 105, 100, 105]) else nm ++ 32 :: d, ()) := by
          intro t u1 u0
          unfold spec_FormatFrame_j2
          have hu : spec_l32Uni uni = some (32 :: (if uni = true then [117, 110, 105] else [98, 105, 100, 105]), ()) := by cases uni <;> rfl
          cases t
          · simp only [cond_false, s4, Option.bind_some]
            rw [if_neg (u0 rfl), g _ _ _ (by simp; omega), g _ _ _ (by simp; omega)]
            simp
          · simp only [cond_true, s4, hu, Option.bind_some]
            rw [if_pos (u1 rfl), g _ _ _ (by simp; omega), g _ _ _ (by simp; omega), g _ _ _ (by cases uni <;> simp <;> omega)]
            simp
        by_cases e18 : k = 18
        · rw [bif_true (by simp [e18])]; exact hj2 _ (fun _ => .inl e18) (fun h => by simp [e18] at h)
        · rw [bif_false (by simp [e18])]; exact hj2 _ (fun h => .inr (by simpa using h)) (fun h => by simp at h; omega)
      · simp only [cond_true, s1, s4, Option.bind_some]
        rw [if_pos (t1 rfl), g _ _ _ (by simp; omega), g _ _ _ (by simp; omega), g _ _ _ (by simp; omega), g _ _ _ (by simp; omega)]
        simp
    simp only [if_neg e4, if_neg e5, if_neg e8]
    by_cases e17 : k = 17
    · rw [bif_true (by simp [e17])]; exact hj1 _ (fun _ => .inl e17) (fun h => by simp [e17] at h)
    · rw [bif_false (by simp [e17])]; exact hj1 _ (fun h => .inr (by simpa using h)) (fun h => by simp at h; omega)
theorem fmtF_impl (f : TFrame) (hl : f.2.2.2.1.length ≤ 1048576) : impl_FormatFrame f = some (fmtF f, ()) ∧ (fmtF f).length ≤ 2000 := by
  obtain ⟨r, h1, h2, h3⟩ := frame_text f hl
  rw [fmtF_spec f hl] at h1
  have : fmtF f = r := by simpa using h1
  rw [this]; exact ⟨h2, h3⟩
/-! frames out of texts: the reference -/
open Classical in
noncomputable def pin (s : List UInt8) : Option Int := if h : ∃ n : Int, -999999999 ≤ n ∧ n ≤ 999999999 ∧ s = Go.Lib.itoa n then some h.choose else none
theorem pin_some {s : List UInt8} {n : Int} (h : pin s = some n) : -999999999 ≤ n ∧ n ≤ 999999999 ∧ s = Go.Lib.itoa n := by
  unfold pin at h
  split at h
  · rename_i hh
    have := hh.choose_spec
    simp only [Option.some.injEq] at h
    rw [h] at this; exact this
  · cases h
theorem pin_itoa {n : Int} (h0 : -999999999 ≤ n) (h1 : n ≤ 999999999) : pin (Go.Lib.itoa n) = some n := by
  unfold pin
  have hh : ∃ m : Int, -999999999 ≤ m ∧ m ≤ 999999999 ∧ Go.Lib.itoa n = Go.Lib.itoa m := ⟨n, h0, h1, rfl⟩
  rw [dif_pos hh]
  congr 1
  exact (itoa_inj hh.choose_spec.2.2).symm
theorem pintN (s : List UInt8) (hs : s.length ≤ 1048576) : spec_ParseInt s = some ((pin s).getD 0, (pin s).isSome, ()) ∧ impl_ParseInt s = some ((pin s).getD 0, (pin s).isSome, ()) := by
  rcases pint s hs with ⟨n, h0, h1, e, h2, h3⟩ | ⟨hn, h2, h3⟩
  · have : pin s = some n := by rw [e]; exact pin_itoa h0 h1
    rw [this]; exact ⟨h2, h3⟩
  · have : pin s = none := by
      cases h : pin s with
      | none => rfl
      | some n => obtain ⟨a, b, c⟩ := pin_some h; exact absurd c (hn n a b)
    rw [this]; exact ⟨h2, h3⟩
noncomputable def numN (s : List UInt8) : Int := (pin s).getD (-1)
theorem l23num (s : List UInt8) (hs : s.length ≤ 1048576) : spec_l23Num s = some (numN s, ()) := by
  unfold spec_l23Num numN
  rw [(pintN s hs).1]
  cases pin s <;> rfl
noncomputable def atN (w : List (List UInt8)) (i : Nat) : Int := if i < w.length then numN (w.getD i []) else -1
theorem getD_mem' {α : Type} {l : List α} {i : Nat} {d : α} (h : i < l.length) : l.getD i d ∈ l := by
  rw [List.getD_eq_getElem?_getD, List.getElem?_eq_getElem h]; exact List.getElem_mem h
theorem l32at (w : List (List UInt8)) (hw : ∀ x ∈ w, x.length ≤ 1048576) (i : Nat) : spec_l32At w (i : Int) = some (atN w i, ()) := by
  unfold spec_l32At atN
  by_cases h : i < w.length
  · rw [bif_false (dec_false (by omega)), guardP_pos (by omega), if_pos h, show ((i : Int)).toNat = i from rfl, l23num _ (hw _ (getD_mem' h))]
    rfl
  · rw [bif_true (dec_true (by omega)), if_neg h]
def kindK (w : List UInt8) : Int :=
  if w = nameW 4 then 4 else if w = nameW 5 then 5 else if w = nameW 8 then 8 else if w = nameW 16 then 16 else if w = nameW 17 then 17 else if w = nameW 18 then 18 else if w = nameW 20 then 20 else if w = nameW 21 then 21 else if w = nameW 22 then 22 else 0
theorem kindK_name {k : Int} (h : nameW k ≠ []) : kindK (nameW k) = k := by
  unfold nameW at h
  repeat' (split at h)
  all_goals first | (rename_i e; subst e; decide) | skip
  exact absurd rfl h
def kfm : Nat → List UInt8 → Int → Int
  | 0, _, c => c
  | m + 1, w, c => kfm m w (if nameW (24 - (m + 1 : Nat)) = w ∧ w ≠ [] then 24 - (m + 1 : Nat) else c)
theorem kfm_eq (w : List UInt8) : kfm 23 w 0 = kindK w := by
  have key : ∀ k : Int, nameW k = [114, 101, 115, 101, 116] ∨ nameW k = [] ∨ True := fun _ => .inr (.inr trivial)
  by_cases h4 : w = nameW 4
  · subst h4; decide
  by_cases h5 : w = nameW 5
  · subst h5; decide
  by_cases h8 : w = nameW 8
  · subst h8; decide
  by_cases h16 : w = nameW 16
  · subst h16; decide
  by_cases h17 : w = nameW 17
  · subst h17; decide
  by_cases h18 : w = nameW 18
  · subst h18; decide
  by_cases h20 : w = nameW 20
  · subst h20; decide
  by_cases h21 : w = nameW 21
  · subst h21; decide
  by_cases h22 : w = nameW 22
  · subst h22; decide
  have no : ∀ k : Int, ¬ (nameW k = w ∧ w ≠ []) := by
    intro k ⟨e, hne⟩
    have := kindK_name (k := k) (by rw [e]; exact hne)
    rw [e] at this
    unfold kindK at this
    simp only [h4, h5, h8, h16, h17, h18, h20, h21, h22, if_false] at this
    subst this
    exact hne (by rw [← e]; rfl)
  have st : ∀ m c, kfm m w c = c := by
    intro m
    induction m with
    | zero => intro c; rfl
    | succ m ih => intro c; simp only [kfm]; rw [if_neg (no _), ih]
  rw [st]
  unfold kindK
  simp only [h4, h5, h8, h16, h17, h18, h20, h21, h22, if_false]
/-- what follows the search for the name -/
noncomputable def tailS (s : List UInt8) (t2 : TFrame) (w : List (List UInt8)) (f : TFrame) : Option (TFrame × Bool × Unit) :=
  Option.bind (spec_IsAboutStream f) fun t31 =>
  bif t31.1 then
    Option.bind (spec_l32At w (1 : Int)) fun t33 =>
    spec_ParseFrame_j2 s t2 w (f.1, (t33.1, f.2.2))
  else
    spec_ParseFrame_j2 s t2 w f
theorem pf_loop (s : List UInt8) (t2 : TFrame) (w : List (List UInt8)) (hw : 0 < w.length) : ∀ (m N : Nat) (f : TFrame), m < N → m ≤ 23 →
    spec_ParseFrame_l1 N s t2 w f ((24 - m : Nat) : Int) = tailS s t2 w (kfm m (w.getD 0 []) f.1, f.2)
  | m, 0, _, h, _ => by omega
  | 0, N + 1, f, h, _ => by
    unfold spec_ParseFrame_l1
    rw [bif_false (dec_false (by omega))]
    rfl
  | m + 1, N + 1, f, h, h2 => by
    unfold spec_ParseFrame_l1
    rw [bif_true (dec_true (by omega)), guardP_pos (by omega), kindName]
    simp only [Option.bind_some, spec_ParseFrame_j1]
    have e0 : ((0 : Int)).toNat = 0 := rfl
    have ek : ((24 - (m + 1) : Nat) : Int) = 24 - (m + 1 : Nat) := by omega
    rw [guardP_pos (fun _ => by omega), i64_ok (by omega) (by omega), show ((24 - (m + 1) : Nat) : Int) + 1 = ((24 - m : Nat) : Int) by omega]
    simp only [e0]
    have ih := fun f => pf_loop s t2 w hw m N f (by omega) (by omega)
    by_cases hc : nameW ((24 - (m + 1) : Nat) : Int) = w.getD 0 [] ∧ w.getD 0 [] ≠ []
    · have hx : (w.getD 0 [] == ([] : List UInt8)) = false := by rw [beq_eq_false_iff_ne]; exact hc.2
      rw [bif_true (by rw [hc.1, hx, beq_self_eq_true]; rfl), ih]
      simp only [kfm]
      rw [ek] at hc ⊢
      rw [if_pos hc]
    · rw [bif_false (by
        rw [Bool.and_eq_false_iff]
        by_cases h1 : nameW ((24 - (m + 1) : Nat) : Int) = w.getD 0 []
        · right
          have : w.getD 0 [] = [] := Classical.byContradiction fun h' => hc ⟨h1, h'⟩
          rw [this]; rfl
        · left; simpa using h1), ih]
      simp only [kfm]
      rw [ek] at hc
      rw [if_neg hc]
def zF : TFrame := ((0 : Int), ((0 : Int), ((0 : Int), (([] : List UInt8), (false, ((0 : Int), ((0 : Int), ((0 : Int), (false, ())))))))))
/-- a frame is taken if its text is the one that was read -/
noncomputable def chk (s : List UInt8) (f : TFrame) : TFrame × Bool × Unit := if s ≠ [] ∧ fmtF f = s then (f, true, ()) else (zF, false, ())
theorem j3S (s : List UInt8) (t2 f : TFrame) (hf : f.2.2.2.1.length ≤ 1048576) : spec_ParseFrame_j3 s t2 f = some (chk s f) := by
  unfold spec_ParseFrame_j3 chk
  rw [fmtF_spec f hf]
  by_cases h : s = []
  · subst h; rfl
  · have : (s == []) = false := by simpa using h
    simp only [this, cond_false, Option.bind_some, Bool.false_or]
    by_cases h2 : fmtF f = s
    · rw [bif_false (by simp [h2]), if_pos ⟨h, h2⟩]
    · rw [bif_true (by simp [h2]), if_neg (fun e => h2 e.2)]; rfl
/-- the frame that the reference reads -/
noncomputable def frS (w : List (List UInt8)) : TFrame :=
  let k := kindK (w.getD 0 [])
  if k = 4 then (k, atN w 1, 0, [], false, atN w 2, 0, atN w 3, false, ())
  else if k = 5 then (k, atN w 1, 0, [], false, atN w 2, 0, 0, false, ())
  else if k = 8 then (k, atN w 1, atN w 2, (if 3 < w.length ∧ 0 < (w.getD 3 []).length then unhexD ((w.getD 3 []).drop 1) else []), decide (w.length = 5), 0, 0, 0, false, ())
  else if k = 17 ∨ k = 21 then (k, atN w 1, 0, [], false, 0, atN w 2, 0, false, ())
  else if k = 18 ∨ k = 22 then (k, 0, 0, [], false, 0, atN w 1, 0, decide (w.length = 3) && (w.getD 2 [] == [117, 110, 105]), ())
  else (k, 0, 0, [], false, 0, atN w 1, 0, false, ())
theorem kindK_cases (w : List UInt8) : kindK w = 0 ∨ kindK w = 4 ∨ kindK w = 5 ∨ kindK w = 8 ∨ kindK w = 16 ∨ kindK w = 17 ∨ kindK w = 18 ∨ kindK w = 20 ∨ kindK w = 21 ∨ kindK w = 22 := by
  unfold kindK; repeat' split
  all_goals simp
theorem spec_pf (s : List UInt8) (hs : s.length ≤ 1048576) : spec_ParseFrame s = some (chk s (frS (splitC 32 s))) := by
  obtain ⟨hl1, hl2⟩ := splitC_len 32 s
  have hne := splitC_ne 32 s
  unfold spec_ParseFrame
  have hc := l13cut 32 s hs
  rw [show (((32 : UInt8).toNat : Int)) = 32 from rfl] at hc
  rw [hc, Option.bind_some]
  generalize splitC 32 s = w at *
  have hw : 0 < w.length := List.length_pos_iff.2 hne
  have hwl : ∀ x ∈ w, x.length ≤ 1048576 := fun x hx => Nat.le_trans (hl2 x hx) hs
  have hl := pf_loop s zF w hw 23 24 zF (by omega) (by omega)
  have a1 := l32at w hwl 1
  have a2 := l32at w hwl 2
  have a3 := l32at w hwl 3
  simp only [Int.natCast_one] at a1
  rw [show ((2 : Nat) : Int) = 2 from rfl] at a2
  rw [show ((3 : Nat) : Int) = 3 from rfl] at a3
  have : spec_ParseFrame_l1 (spec_ParseFrame_l1_fuel s zF w zF 1) s zF w zF 1 = tailS s zF w (kfm 23 (w.getD 0 []) zF.1, zF.2) := hl
  refine Eq.trans this ?_
  rw [show zF.1 = 0 from rfl, kfm_eq]
  unfold tailS frS
  generalize hk : kindK (w.getD 0 []) = k
  have hkc := kindK_cases (w.getD 0 [])
  rw [hk] at hkc
  simp only [zF]
  rcases hkc with rfl | rfl | rfl | rfl | rfl | rfl | rfl | rfl | rfl | rfl
  · rw [show spec_IsAboutStream (0, (0, (0, ([], (false, (0, (0, (0, (false, ()))))))))) = some (false, ()) from rfl]
    simp only [Option.bind_some, cond_false, spec_ParseFrame_j2]
    show Option.bind (spec_l32At w 1) _ = _
    rw [a1, Option.bind_some, j3S _ _ _ (by simp)]
    rfl
  · rw [show spec_IsAboutStream (4, (0, (0, ([], (false, (0, (0, (0, (false, ()))))))))) = some (true, ()) from rfl]
    simp only [Option.bind_some, cond_true, spec_ParseFrame_j2, a1]
    show Option.bind (spec_l32At w 2) _ = _
    rw [a2, Option.bind_some, a3, Option.bind_some, j3S _ _ _ (by simp)]
    rfl
  · rw [show spec_IsAboutStream (5, (0, (0, ([], (false, (0, (0, (0, (false, ()))))))))) = some (true, ()) from rfl]
    simp only [Option.bind_some, cond_true, spec_ParseFrame_j2, a1]
    show Option.bind (spec_l32At w 2) _ = _
    rw [a2, Option.bind_some, j3S _ _ _ (by simp)]
    rfl
  · rw [show spec_IsAboutStream (8, (0, (0, ([], (false, (0, (0, (0, (false, ()))))))))) = some (true, ()) from rfl]
    simp only [Option.bind_some, cond_true, spec_ParseFrame_j2, a1]
    show Option.bind (spec_l32At w 2) _ = _
    rw [a2, Option.bind_some, guardP_pos (fun h => by simp at h; omega)]
    have e5 : ((w.length : Int) == 5) = decide (w.length = 5) := by rw [Bool.eq_iff_iff]; simp; omega
    by_cases h3 : 3 < w.length ∧ 0 < (w.getD 3 []).length
    · have h3l := hwl _ (getD_mem' (d := []) h3.1)
      have hg : (0 : Int) ≤ 1 ∧ (1 : Int) ≤ ((w.getD (3 : Int).toNat []).length : Int) ∧ ((w.getD (3 : Int).toNat []).length : Int) ≤ ((w.getD (3 : Int).toNat []).length : Int) := by
        show (0 : Int) ≤ 1 ∧ (1 : Int) ≤ ((w.getD 3 []).length : Int) ∧ ((w.getD 3 []).length : Int) ≤ ((w.getD 3 []).length : Int)
        omega
      rw [bif_true (by
        show (decide ((w.length : Int) > 3) && decide (((w.getD 3 []).length : Int) > 0)) = true
        rw [dec_true (by omega), dec_true (by omega)]; rfl), guardP_pos (by omega), guardP_pos hg]
      have ed : ((w.getD (3 : Int).toNat []).drop (1 : Int).toNat).take ((((w.getD (3 : Int).toNat []).length : Int)).toNat - (1 : Int).toNat) = (w.getD 3 []).drop 1 := by
        rw [List.take_of_length_le]
        · rfl
        · rw [List.length_drop]; simp
      have hd1 : ((w.getD 3 []).drop 1).length ≤ 1048576 := by rw [List.length_drop]; omega
      rw [ed, (decHex _ hd1).1, Option.bind_some]
      unfold spec_ParseFrame_j4
      have := unhexD_len ((w.getD 3 []).drop 1)
      rw [j3S _ _ _ (by simp only; omega), e5, if_pos h3]
      rfl
    · rw [bif_false (by
        show (decide ((w.length : Int) > 3) && decide (((w.getD 3 []).length : Int) > 0)) = false
        rw [Bool.and_eq_false_iff, decide_eq_false_iff_not, decide_eq_false_iff_not]; omega)]
      unfold spec_ParseFrame_j4
      rw [j3S _ _ _ (by simp), e5, if_neg h3]
      rfl
  · rw [show spec_IsAboutStream (16, (0, (0, ([], (false, (0, (0, (0, (false, ()))))))))) = some (false, ()) from rfl]
    simp only [Option.bind_some, cond_false, spec_ParseFrame_j2]
    show Option.bind (spec_l32At w 1) _ = _
    rw [a1, Option.bind_some, j3S _ _ _ (by simp)]
    rfl
  · rw [show spec_IsAboutStream (17, (0, (0, ([], (false, (0, (0, (0, (false, ()))))))))) = some (true, ()) from rfl]
    simp only [Option.bind_some, cond_true, spec_ParseFrame_j2, a1]
    show Option.bind (spec_l32At w 2) _ = _
    rw [a2, Option.bind_some, j3S _ _ _ (by simp)]
    rfl
  · rw [show spec_IsAboutStream (18, (0, (0, ([], (false, (0, (0, (0, (false, ()))))))))) = some (false, ()) from rfl]
    simp only [Option.bind_some, cond_false, spec_ParseFrame_j2]
    show Option.bind (spec_l32At w 1) _ = _
    rw [a1, Option.bind_some, guardP_pos (fun h => by simp at h; omega), j3S _ _ _ (by simp)]
    have e3 : ((w.length : Int) == 3) = decide (w.length = 3) := by rw [Bool.eq_iff_iff]; simp; omega
    rw [e3]
    rfl
  · rw [show spec_IsAboutStream (20, (0, (0, ([], (false, (0, (0, (0, (false, ()))))))))) = some (false, ()) from rfl]
    simp only [Option.bind_some, cond_false, spec_ParseFrame_j2]
    show Option.bind (spec_l32At w 1) _ = _
    rw [a1, Option.bind_some, j3S _ _ _ (by simp)]
    rfl
  · rw [show spec_IsAboutStream (21, (0, (0, ([], (false, (0, (0, (0, (false, ()))))))))) = some (true, ()) from rfl]
    simp only [Option.bind_some, cond_true, spec_ParseFrame_j2, a1]
    show Option.bind (spec_l32At w 2) _ = _
    rw [a2, Option.bind_some, j3S _ _ _ (by simp)]
    rfl
  · rw [show spec_IsAboutStream (22, (0, (0, ([], (false, (0, (0, (0, (false, ()))))))))) = some (false, ()) from rfl]
    simp only [Option.bind_some, cond_false, spec_ParseFrame_j2]
    show Option.bind (spec_l32At w 1) _ = _
    rw [a1, Option.bind_some, guardP_pos (fun h => by simp at h; omega), j3S _ _ _ (by simp)]
    have e3 : ((w.length : Int) == 3) = decide (w.length = 3) := by rw [Bool.eq_iff_iff]; simp; omega
    rw [e3]
    rfl
/-! frames out of texts: the implementation -/
def unhexP (s : List UInt8) : List UInt8 := unhexD (Go.Lib.trimPrefix s [120])
def uniOf (r : List (List UInt8)) : Bool := match r with | [a] => a == [117, 110, 105] | _ => false
noncomputable def stepK {β : Type} (r : List (List UInt8)) (K : Int → List (List UInt8) → Option β) : Option β :=
  match r with
  | [] => none
  | a :: r => match pin a with
    | none => none
    | some n => K n r
/-- the frame that the implementation reads, where it comes so far -/
noncomputable def frI (w : List (List UInt8)) : Option TFrame :=
  let k := kindK (w.headD [])
  let r := w.tail
  if k = 4 then stepK r fun st r => stepK r fun c r => stepK r fun fi _ => some (4, st, 0, [], false, c, 0, fi, false, ())
  else if k = 5 then stepK r fun st r => stepK r fun c _ => some (5, st, 0, [], false, c, 0, 0, false, ())
  else if k = 8 then stepK r fun st r => stepK r fun off r => some (8, st, off, (match r with | [] => [] | a :: _ => unhexP a), decide (r.length = 2), 0, 0, 0, false, ())
  else if k = 17 ∨ k = 21 then stepK r fun st r => stepK r fun l _ => some (k, st, 0, [], false, 0, l, 0, false, ())
  else stepK r fun l r => some (k, 0, 0, [], false, 0, l, 0, decide (k = 18 ∨ k = 22) && uniOf r, ())
noncomputable def resF (s : List UInt8) (o : Option TFrame) : TFrame × Bool × Unit := match o with
  | none => (zF, false, ())
  | some f => chk s f
theorem trim_len (s p : List UInt8) : (Go.Lib.trimPrefix s p).length ≤ s.length := by
  unfold Go.Lib.trimPrefix; split <;> simp
theorem kindName_impl (k : Int) : impl_KindName k = some (nameW k, ()) := by
  rw [show impl_KindName k = spec_KindName k from rfl]; exact kindName k
def kfI : Nat → List UInt8 → Int
  | 0, _ => 0
  | m + 1, w => if nameW (23 - (m + 1 : Nat)) = w then 23 - (m + 1 : Nat) else kfI m w
theorem kfI_eq (w : List UInt8) (hne : w ≠ []) : kfI 19 w = kindK w := by
  by_cases h4 : w = nameW 4
  · subst h4; decide
  by_cases h5 : w = nameW 5
  · subst h5; decide
  by_cases h8 : w = nameW 8
  · subst h8; decide
  by_cases h16 : w = nameW 16
  · subst h16; decide
  by_cases h17 : w = nameW 17
  · subst h17; decide
  by_cases h18 : w = nameW 18
  · subst h18; decide
  by_cases h20 : w = nameW 20
  · subst h20; decide
  by_cases h21 : w = nameW 21
  · subst h21; decide
  by_cases h22 : w = nameW 22
  · subst h22; decide
  have no : ∀ k : Int, ¬ (nameW k = w) := by
    intro k e
    have := kindK_name (k := k) (by rw [e]; exact hne)
    rw [e] at this
    unfold kindK at this
    simp only [h4, h5, h8, h16, h17, h18, h20, h21, h22, if_false] at this
    subst this
    exact hne (by rw [← e]; rfl)
  have st : ∀ m, kfI m w = 0 := by
    intro m
    induction m with
    | zero => rfl
    | succ m ih => simp only [kfI]; rw [if_neg (no _), ih]
  rw [st]
  unfold kindK
  simp only [h4, h5, h8, h16, h17, h18, h20, h21, h22, if_false]
theorem kof_loop (w : List UInt8) (hne : w ≠ []) : ∀ (m N : Nat), m < N → m ≤ 19 → impl_kindOf_l1 N w ((23 - m : Nat) : Int) = some (kfI m w, ())
  | m, 0, h, _ => by omega
  | 0, N + 1, _, _ => by
    unfold impl_kindOf_l1
    rw [bif_false (dec_false (by omega))]
    rfl
  | m + 1, N + 1, h, h2 => by
    have hx : (w == ([] : List UInt8)) = false := by rw [beq_eq_false_iff_ne]; exact hne
    unfold impl_kindOf_l1
    rw [bif_true (dec_true (by omega)), hx]
    simp only [Bool.not_false, cond_true, kindName_impl, Option.bind_some, Bool.true_and]
    have ek : ((23 - (m + 1) : Nat) : Int) = 23 - (m + 1 : Nat) := by omega
    rw [i64_ok (by omega) (by omega), show ((23 - (m + 1) : Nat) : Int) + 1 = ((23 - m : Nat) : Int) by omega, kof_loop w hne m N (by omega) (by omega), ek]
    simp only [kfI]
    by_cases hc : nameW (23 - (m + 1 : Nat)) = w
    · rw [bif_true (by simpa using hc), if_pos hc]
    · rw [bif_false (by simpa using hc), if_neg hc]
theorem kof_nil : ∀ (m N : Nat), m < N → m ≤ 19 → impl_kindOf_l1 N [] ((23 - m : Nat) : Int) = some (0, ())
  | m, 0, h, _ => by omega
  | 0, N + 1, _, _ => by
    unfold impl_kindOf_l1
    rw [bif_false (dec_false (by omega))]
  | m + 1, N + 1, h, h2 => by
    unfold impl_kindOf_l1
    rw [bif_true (dec_true (by omega))]
    simp only [beq_self_eq_true, Bool.not_true, cond_false, Option.bind_some, Bool.false_and]
    rw [i64_ok (by omega) (by omega), show ((23 - (m + 1) : Nat) : Int) + 1 = ((23 - m : Nat) : Int) by omega, kof_nil m N (by omega) (by omega)]
theorem kindOf_eq (w : List UInt8) : impl_kindOf w = some (kindK w, ()) := by
  unfold impl_kindOf
  by_cases h : w = []
  · subst h; exact kof_nil 19 20 (by omega) (by omega)
  · have := kof_loop w h 19 20 (by omega) (by omega)
    rw [kfI_eq w h] at this; exact this
theorem dropAll {α : Type} (a : α) (r : List α) : ((a :: r).drop (1 : Int).toNat).take ((((a :: r).length : Nat) : Int).toNat - (1 : Int).toNat) = r := by
  rw [List.take_of_length_le]
  · rfl
  · simp
theorem hdc {β : Type} (a : List UInt8) (r : List (List UInt8)) (ha : a.length ≤ 1048576) (x : Option β) (F : Int × Bool × Unit → Option β) :
    (bif (((a :: r).length : Nat) : Int) == (0 : Int) then x else guardP ((0 : Int) ≤ 0 ∧ (0 : Int) < (((a :: r).length : Nat) : Int)) (Option.bind (impl_ParseInt ((a :: r).getD (0 : Int).toNat [])) F)) = F ((pin a).getD 0, (pin a).isSome, ()) := by
  rw [bif_false (by simp; omega), guardP_pos (by simp)]
  show Option.bind (impl_ParseInt a) F = _
  rw [(pintN a ha).2]; rfl
theorem hdn {β : Type} (x y : Option β) : (bif ((([] : List (List UInt8)).length : Nat) : Int) == (0 : Int) then x else y) = x := rfl
theorem gdrop {β : Type} (a : List UInt8) (r : List (List UInt8)) (x : Option β) : guardP ((0 : Int) ≤ 1 ∧ (1 : Int) ≤ (((a :: r).length : Nat) : Int) ∧ (((a :: r).length : Nat) : Int) ≤ (((a :: r).length : Nat) : Int)) x = x := guardP_pos (by simp; omega)
theorem j1I (s : List UInt8) (t2 f : TFrame) (rest : List (List UInt8)) (hf : f.2.2.2.1.length ≤ 1048576) :
    impl_ParseFrame_j1 s t2 f rest = some (chk s (f.1, (f.2.1, (f.2.2.1, (f.2.2.2.1, (f.2.2.2.2.1, (f.2.2.2.2.2.1, (f.2.2.2.2.2.2.1, (f.2.2.2.2.2.2.2.1, (decide (f.1 = 18 ∨ f.1 = 22) && uniOf rest, f.2.2.2.2.2.2.2.2.2)))))))))) := by
  unfold impl_ParseFrame_j1 chk
  have e : ((((f.1 == (18 : Int)) || (f.1 == (22 : Int))) && ((rest.length : Int) == (1 : Int))) && ((rest.getD (0 : Int).toNat ([] : List UInt8)) == ([117, 110, 105] : List UInt8))) = (decide (f.1 = 18 ∨ f.1 = 22) && uniOf rest) := by
    have e1 : ((f.1 == (18 : Int)) || (f.1 == (22 : Int))) = decide (f.1 = 18 ∨ f.1 = 22) := by rw [Bool.eq_iff_iff]; simp
    rw [e1, Bool.and_assoc]
    congr 1
    rcases rest with _ | ⟨a, _ | ⟨b, r⟩⟩
    · rfl
    · simp [uniOf]
    · have : (((a :: b :: r).length : Nat) : Int) ≠ 1 := by simp; omega
      rw [beq_eq_false_iff_ne.2 this]; rfl
  simp only [e]
  rw [guardP_pos (by
    intro h
    rw [Bool.and_eq_true, beq_iff_eq] at h
    omega)]
  have hF := fmtF_impl (f.1, (f.2.1, (f.2.2.1, (f.2.2.2.1, (f.2.2.2.2.1, (f.2.2.2.2.2.1, (f.2.2.2.2.2.2.1, (f.2.2.2.2.2.2.2.1, (decide (f.1 = 18 ∨ f.1 = 22) && uniOf rest, f.2.2.2.2.2.2.2.2.2))))))))) hf
  rw [hF.1]
  generalize fmtF (f.1, (f.2.1, (f.2.2.1, (f.2.2.2.1, (f.2.2.2.2.1, (f.2.2.2.2.2.1, (f.2.2.2.2.2.2.1, (f.2.2.2.2.2.2.2.1, (decide (f.1 = 18 ∨ f.1 = 22) && uniOf rest, f.2.2.2.2.2.2.2.2.2))))))))) = t
  by_cases h : s = []
  · subst h; rfl
  · have : (s == []) = false := by simpa using h
    simp only [this, cond_false, Option.bind_some, Bool.false_or]
    by_cases h2 : t = s
    · rw [bif_false (by simp [h2]), if_pos ⟨h, h2⟩]
    · rw [bif_true (by simp [h2]), if_neg (fun e => h2 e.2)]; rfl
theorem impl_pf (s : List UInt8) (hs : s.length ≤ 1048576) : impl_ParseFrame s = some (resF s (frI (splitC 32 s))) := by
  obtain ⟨-, hl2⟩ := splitC_len 32 s
  have hne := splitC_ne 32 s
  unfold impl_ParseFrame strings_Split
  rw [guardP_pos ⟨by omega, by simp⟩, split_eq 32 s.length s (Nat.le_refl _), Option.bind_some]
  generalize splitC 32 s = w at *
  rcases w with _ | ⟨w0, r⟩
  · exact absurd rfl hne
  have hwl : ∀ x ∈ r, x.length ≤ 1048576 := fun x hx => Nat.le_trans (hl2 x (by simp [hx])) hs
  rw [guardP_pos (by simp), show (w0 :: r).getD (0 : Int).toNat [] = w0 from rfl, kindOf_eq, Option.bind_some]
  unfold frI
  simp only [List.headD_cons, List.tail_cons, bothN_eq, dropAll, gdrop]
  have hkc := kindK_cases w0
  rcases hkc with hk | hk | hk | hk | hk | hk | hk | hk | hk | hk
  · simp only [hk]
    show (bif _ == (0 : Int) then _ else guardP _ (Option.bind _ _)) = _
    rcases r with _ | ⟨a, r⟩
    · rfl
    rw [hdc a r (hwl _ (by simp))]
    simp only [stepK]
    cases pin a with
    | none => rfl
    | some n0 =>
    simp only [Option.isSome_some, Bool.not_true, cond_false, Option.getD_some, gdrop, dropAll]
    show impl_ParseFrame_j1 _ zF _ _ = _
    rw [j1I _ _ _ _ (by simp)]
    rfl
  · simp only [hk]
    show (bif _ == (0 : Int) then _ else guardP _ (Option.bind _ _)) = _
    rcases r with _ | ⟨a, r⟩
    · rfl
    rw [hdc a r (hwl _ (by simp))]
    simp only [stepK]
    cases pin a with
    | none => rfl
    | some n0 =>
    simp only [Option.isSome_some, Bool.not_true, cond_false, Option.getD_some, gdrop, dropAll]
    rcases r with _ | ⟨b, r⟩
    · rfl
    rw [hdc b r (hwl _ (by simp))]
    dsimp only
    cases pin b with
    | none => rfl
    | some n1 =>
    simp only [Option.isSome_some, Bool.not_true, cond_false, Option.getD_some, gdrop, dropAll]
    rcases r with _ | ⟨c, r⟩
    · rfl
    rw [hdc c r (hwl _ (by simp))]
    dsimp only
    cases pin c with
    | none => rfl
    | some n2 =>
    simp only [Option.isSome_some, Bool.not_true, cond_false, Option.getD_some, gdrop, dropAll]
    show impl_ParseFrame_j1 _ zF _ _ = _
    rw [j1I _ _ _ _ (by simp)]
    rfl
  · simp only [hk]
    show (bif _ == (0 : Int) then _ else guardP _ (Option.bind _ _)) = _
    rcases r with _ | ⟨a, r⟩
    · rfl
    rw [hdc a r (hwl _ (by simp))]
    simp only [stepK]
    cases pin a with
    | none => rfl
    | some n0 =>
    simp only [Option.isSome_some, Bool.not_true, cond_false, Option.getD_some, gdrop, dropAll]
    rcases r with _ | ⟨b, r⟩
    · rfl
    rw [hdc b r (hwl _ (by simp))]
    dsimp only
    cases pin b with
    | none => rfl
    | some n1 =>
    simp only [Option.isSome_some, Bool.not_true, cond_false, Option.getD_some, gdrop, dropAll]
    show impl_ParseFrame_j1 _ zF _ _ = _
    rw [j1I _ _ _ _ (by simp)]
    rfl
  · simp only [hk]
    show (bif _ == (0 : Int) then _ else guardP _ (Option.bind _ _)) = _
    rcases r with _ | ⟨a, r⟩
    · rfl
    rw [hdc a r (hwl _ (by simp))]
    simp only [stepK]
    cases pin a with
    | none => rfl
    | some n0 =>
    simp only [Option.isSome_some, Bool.not_true, cond_false, Option.getD_some, gdrop, dropAll]
    rcases r with _ | ⟨b, r⟩
    · rfl
    rw [hdc b r (hwl _ (by simp))]
    dsimp only
    cases pin b with
    | none => rfl
    | some n1 =>
    simp only [Option.isSome_some, Bool.not_true, cond_false, Option.getD_some, gdrop, dropAll]
    rcases r with _ | ⟨d, r⟩
    · show impl_ParseFrame_j1 _ zF _ _ = _
      rw [j1I _ _ _ _ (by simp)]
      rfl
    rw [bif_true (by simp), guardP_pos (by simp)]
    unfold strings_TrimPrefix
    rw [show (d :: r).getD (0 : Int).toNat [] = d from rfl, Option.bind_some]
    have hd := trim_len d [120]
    have hd2 := hwl d (by simp)
    rw [(decHex (Go.Lib.trimPrefix d [120]) (by omega)).2, Option.bind_some]
    have := unhexD_len (Go.Lib.trimPrefix d [120])
    rw [j1I _ _ _ _ (by simp only; omega)]
    have e2 : ((((d :: r).length : Nat) : Int) == 2) = decide ((d :: r).length = 2) := by rw [Bool.eq_iff_iff]; simp; omega
    rw [e2]
    rfl
  · simp only [hk]
    show (bif _ == (0 : Int) then _ else guardP _ (Option.bind _ _)) = _
    rcases r with _ | ⟨a, r⟩
    · rfl
    rw [hdc a r (hwl _ (by simp))]
    simp only [stepK]
    cases pin a with
    | none => rfl
    | some n0 =>
    simp only [Option.isSome_some, Bool.not_true, cond_false, Option.getD_some, gdrop, dropAll]
    show impl_ParseFrame_j1 _ zF _ _ = _
    rw [j1I _ _ _ _ (by simp)]
    rfl
  · simp only [hk]
    show (bif _ == (0 : Int) then _ else guardP _ (Option.bind _ _)) = _
    rcases r with _ | ⟨a, r⟩
    · rfl
    rw [hdc a r (hwl _ (by simp))]
    simp only [stepK]
    cases pin a with
    | none => rfl
    | some n0 =>
    simp only [Option.isSome_some, Bool.not_true, cond_false, Option.getD_some, gdrop, dropAll]
    rcases r with _ | ⟨b, r⟩
    · rfl
    rw [hdc b r (hwl _ (by simp))]
    dsimp only
    cases pin b with
    | none => rfl
    | some n1 =>
    simp only [Option.isSome_some, Bool.not_true, cond_false, Option.getD_some, gdrop, dropAll]
    show impl_ParseFrame_j1 _ zF _ _ = _
    rw [j1I _ _ _ _ (by simp)]
    rfl
  · simp only [hk]
    show (bif _ == (0 : Int) then _ else guardP _ (Option.bind _ _)) = _
    rcases r with _ | ⟨a, r⟩
    · rfl
    rw [hdc a r (hwl _ (by simp))]
    simp only [stepK]
    cases pin a with
    | none => rfl
    | some n0 =>
    simp only [Option.isSome_some, Bool.not_true, cond_false, Option.getD_some, gdrop, dropAll]
    show impl_ParseFrame_j1 _ zF _ _ = _
    rw [j1I _ _ _ _ (by simp)]
    rfl
  · simp only [hk]
    show (bif _ == (0 : Int) then _ else guardP _ (Option.bind _ _)) = _
    rcases r with _ | ⟨a, r⟩
    · rfl
    rw [hdc a r (hwl _ (by simp))]
    simp only [stepK]
    cases pin a with
    | none => rfl
    | some n0 =>
    simp only [Option.isSome_some, Bool.not_true, cond_false, Option.getD_some, gdrop, dropAll]
    show impl_ParseFrame_j1 _ zF _ _ = _
    rw [j1I _ _ _ _ (by simp)]
    rfl
  · simp only [hk]
    show (bif _ == (0 : Int) then _ else guardP _ (Option.bind _ _)) = _
    rcases r with _ | ⟨a, r⟩
    · rfl
    rw [hdc a r (hwl _ (by simp))]
    simp only [stepK]
    cases pin a with
    | none => rfl
    | some n0 =>
    simp only [Option.isSome_some, Bool.not_true, cond_false, Option.getD_some, gdrop, dropAll]
    rcases r with _ | ⟨b, r⟩
    · rfl
    rw [hdc b r (hwl _ (by simp))]
    dsimp only
    cases pin b with
    | none => rfl
    | some n1 =>
    simp only [Option.isSome_some, Bool.not_true, cond_false, Option.getD_some, gdrop, dropAll]
    show impl_ParseFrame_j1 _ zF _ _ = _
    rw [j1I _ _ _ _ (by simp)]
    rfl
  · simp only [hk]
    show (bif _ == (0 : Int) then _ else guardP _ (Option.bind _ _)) = _
    rcases r with _ | ⟨a, r⟩
    · rfl
    rw [hdc a r (hwl _ (by simp))]
    simp only [stepK]
    cases pin a with
    | none => rfl
    | some n0 =>
    simp only [Option.isSome_some, Bool.not_true, cond_false, Option.getD_some, gdrop, dropAll]
    show impl_ParseFrame_j1 _ zF _ _ = _
    rw [j1I _ _ _ _ (by simp)]
    rfl
theorem nameW_nosp (c : UInt8) (hc : c = 32 ∨ c = 10) (k : Int) : c ∉ nameW k := by
  unfold nameW
  repeat' split
  all_goals rcases hc with rfl | rfl <;> decide
theorem nosp_app {c : UInt8} {a b : List UInt8} (h1 : c ∉ a) (h2 : c ∉ b) : c ∉ a ++ b := by
  intro h; rcases List.mem_append.1 h with h | h
  · exact h1 h
  · exact h2 h
theorem parse_text {f : TFrame} (h : frameOK f = true) (hs : smallF f = true) : frS (splitC 32 (ftx f)) = f ∧ frI (splitC 32 (ftx f)) = some f ∧ ftx f ≠ [] := by
  have hok' := h
  unfold frameOK at hok'
  simp only [Bool.and_eq_true, decide_eq_true_eq] at hok'
  obtain ⟨⟨⟨⟨⟨⟨⟨hp, q1⟩, q2⟩, q3⟩, q4⟩, q5⟩, hlen⟩, -⟩ := hok'
  have q1 := fq_pos q1
  have q2 := fq_pos q2
  have q3 := fq_pos q3
  have q4 := fq_pos q4
  have q5 := fq_pos q5
  have hk := plain_kind hp
  unfold smallF at hs
  simp only [Bool.and_eq_true, decide_eq_true_eq] at hs
  obtain ⟨⟨⟨⟨s1, s2⟩, s3⟩, s4⟩, s5⟩ := hs
  obtain ⟨k, st, off, data, fin, code, lim, final, uni, z⟩ := f
  simp only at *
  unfold plainFrame at hp
  simp only at hp
  have nk : nameW k ≠ [] := by
    intro e
    unfold nameW at e
    simp only [Bool.or_eq_true, beq_iff_eq] at hk
    repeat' (split at e)
    all_goals first | (cases e; done) | skip
    omega
  have kk := kindK_name nk
  have i0 := fun n : Int => itoa_nosp 32 (.inl rfl) n
  have n0 := nameW_nosp 32 (.inl rfl) k
  have p1 := pin_itoa (n := st) (by omega) s1
  have p2 := pin_itoa (n := off) (by omega) s2
  have p3 := pin_itoa (n := code) (by omega) s3
  have p4 := pin_itoa (n := lim) (by omega) s4
  have p5 := pin_itoa (n := final) (by omega) s5
  simp only [Bool.or_eq_true, beq_iff_eq] at hk
  have ss := fun (a r : List UInt8) (h : (32 : UInt8) ∉ a) => splitC_at 32 a r h
  have so := fun (a : List UInt8) (h : (32 : UInt8) ∉ a) => splitC_one 32 a h
  cases z
  rcases hk with (((((((rfl | rfl) | rfl) | rfl) | rfl) | rfl) | rfl) | rfl) | rfl
  · simp at hp
    obtain ⟨⟨⟨⟨rfl, rfl⟩, rfl⟩, rfl⟩, rfl⟩ := hp
    have e : splitC 32 (ftx (4, st, 0, [], false, code, 0, final, false, ())) = [nameW 4, Go.Lib.itoa st, Go.Lib.itoa code, Go.Lib.itoa final] := by
      show splitC 32 (nameW 4 ++ 32 :: (Go.Lib.itoa st ++ 32 :: (Go.Lib.itoa code ++ 32 :: (Go.Lib.itoa final)))) = _
      rw [ss _ _ n0, ss _ _ (i0 _), ss _ _ (i0 _), so _ (i0 _)]
    rw [e]
    refine ⟨?_, ?_, ?_⟩
    · unfold frS; simp [kk, atN, numN, p1, p3, p5]
    · unfold frI; simp [kk, stepK, p1, p3, p5]
    · simp [ftx]
  · simp at hp
    obtain ⟨⟨⟨⟨⟨rfl, rfl⟩, rfl⟩, rfl⟩, rfl⟩, rfl⟩ := hp
    have e : splitC 32 (ftx (5, st, 0, [], false, code, 0, 0, false, ())) = [nameW 5, Go.Lib.itoa st, Go.Lib.itoa code] := by
      show splitC 32 (nameW 5 ++ 32 :: (Go.Lib.itoa st ++ 32 :: (Go.Lib.itoa code))) = _
      rw [ss _ _ n0, ss _ _ (i0 _), so _ (i0 _)]
    rw [e]
    refine ⟨?_, ?_, ?_⟩
    · unfold frS; simp [kk, atN, numN, p1, p3]
    · unfold frI; simp [kk, stepK, p1, p3]
    · simp [ftx]
  · simp at hp
    obtain ⟨⟨⟨rfl, rfl⟩, rfl⟩, rfl⟩ := hp
    have hh := hexT_nosp 32 (.inl rfl) data
    have hx : (32 : UInt8) ∉ 120 :: hexT data := by simp [hh]
    have hu : unhexD (hexT data) = data := by unfold unhexD; rw [unhex_hexT]; rfl
    have hv : unhexP (120 :: hexT data) = data := hu
    cases fin
    rotate_left
    · have e : splitC 32 (ftx (8, st, off, data, true, 0, 0, 0, false, ())) = [nameW 8, Go.Lib.itoa st, Go.Lib.itoa off, (120 :: hexT data), [102, 105, 110]] := by
        show splitC 32 (nameW 8 ++ 32 :: (Go.Lib.itoa st ++ 32 :: (Go.Lib.itoa off ++ 32 :: ((120 :: hexT data) ++ 32 :: ([102, 105, 110]))))) = _
        rw [ss _ _ n0, ss _ _ (i0 _), ss _ _ (i0 _), ss _ _ hx, so _ (by decide)]
      rw [e]
      refine ⟨?_, ?_, ?_⟩
      · unfold frS; simp [kk, atN, numN, p1, p2, hu]
      · unfold frI; simp [kk, stepK, p1, p2, hv]
      · simp [ftx]
    · have e : splitC 32 (ftx (8, st, off, data, false, 0, 0, 0, false, ())) = [nameW 8, Go.Lib.itoa st, Go.Lib.itoa off, (120 :: hexT data)] := by
        show splitC 32 (nameW 8 ++ 32 :: (Go.Lib.itoa st ++ 32 :: (Go.Lib.itoa off ++ 32 :: ((120 :: hexT data) ++ [])))) = _
        rw [List.append_nil]
        rw [ss _ _ n0, ss _ _ (i0 _), ss _ _ (i0 _), so _ hx]
      rw [e]
      refine ⟨?_, ?_, ?_⟩
      · unfold frS; simp [kk, atN, numN, p1, p2, hu]
      · unfold frI; simp [kk, stepK, p1, p2, hv]
      · simp [ftx]
  · simp at hp
    obtain ⟨⟨⟨⟨⟨⟨rfl, rfl⟩, rfl⟩, rfl⟩, rfl⟩, rfl⟩, rfl⟩ := hp
    have e : splitC 32 (ftx (16, 0, 0, [], false, 0, lim, 0, false, ())) = [nameW 16, Go.Lib.itoa lim] := by
      show splitC 32 (nameW 16 ++ 32 :: (Go.Lib.itoa lim)) = _
      rw [ss _ _ n0, so _ (i0 _)]
    rw [e]
    refine ⟨?_, ?_, ?_⟩
    · unfold frS; simp [kk, atN, numN, p4]
    · unfold frI; simp [kk, stepK, p4, uniOf]
    · simp [ftx]
  · simp at hp
    obtain ⟨⟨⟨⟨⟨rfl, rfl⟩, rfl⟩, rfl⟩, rfl⟩, rfl⟩ := hp
    have e : splitC 32 (ftx (17, st, 0, [], false, 0, lim, 0, false, ())) = [nameW 17, Go.Lib.itoa st, Go.Lib.itoa lim] := by
      show splitC 32 (nameW 17 ++ 32 :: (Go.Lib.itoa st ++ 32 :: (Go.Lib.itoa lim))) = _
      rw [ss _ _ n0, ss _ _ (i0 _), so _ (i0 _)]
    rw [e]
    refine ⟨?_, ?_, ?_⟩
    · unfold frS; simp [kk, atN, numN, p1, p4]
    · unfold frI; simp [kk, stepK, p1, p4]
    · simp [ftx]
  · simp at hp
    obtain ⟨⟨⟨⟨⟨rfl, rfl⟩, rfl⟩, rfl⟩, rfl⟩, rfl⟩ := hp
    cases uni
    rotate_left
    · have e : splitC 32 (ftx (18, 0, 0, [], false, 0, lim, 0, true, ())) = [nameW 18, Go.Lib.itoa lim, [117, 110, 105]] := by
        show splitC 32 (nameW 18 ++ 32 :: (Go.Lib.itoa lim ++ 32 :: ([117, 110, 105]))) = _
        rw [ss _ _ n0, ss _ _ (i0 _), so _ (by decide)]
      rw [e]
      refine ⟨?_, ?_, ?_⟩
      · unfold frS; simp [kk, atN, numN, p4]
      · unfold frI; simp [kk, stepK, p4, uniOf]
      · simp [ftx]
    · have e : splitC 32 (ftx (18, 0, 0, [], false, 0, lim, 0, false, ())) = [nameW 18, Go.Lib.itoa lim, [98, 105, 100, 105]] := by
        show splitC 32 (nameW 18 ++ 32 :: (Go.Lib.itoa lim ++ 32 :: ([98, 105, 100, 105]))) = _
        rw [ss _ _ n0, ss _ _ (i0 _), so _ (by decide)]
      rw [e]
      refine ⟨?_, ?_, ?_⟩
      · unfold frS; simp [kk, atN, numN, p4]
      · unfold frI; simp [kk, stepK, p4, uniOf]
      · simp [ftx]
  · simp at hp
    obtain ⟨⟨⟨⟨⟨⟨rfl, rfl⟩, rfl⟩, rfl⟩, rfl⟩, rfl⟩, rfl⟩ := hp
    have e : splitC 32 (ftx (20, 0, 0, [], false, 0, lim, 0, false, ())) = [nameW 20, Go.Lib.itoa lim] := by
      show splitC 32 (nameW 20 ++ 32 :: (Go.Lib.itoa lim)) = _
      rw [ss _ _ n0, so _ (i0 _)]
    rw [e]
    refine ⟨?_, ?_, ?_⟩
    · unfold frS; simp [kk, atN, numN, p4]
    · unfold frI; simp [kk, stepK, p4, uniOf]
    · simp [ftx]
  · simp at hp
    obtain ⟨⟨⟨⟨⟨rfl, rfl⟩, rfl⟩, rfl⟩, rfl⟩, rfl⟩ := hp
    have e : splitC 32 (ftx (21, st, 0, [], false, 0, lim, 0, false, ())) = [nameW 21, Go.Lib.itoa st, Go.Lib.itoa lim] := by
      show splitC 32 (nameW 21 ++ 32 :: (Go.Lib.itoa st ++ 32 :: (Go.Lib.itoa lim))) = _
      rw [ss _ _ n0, ss _ _ (i0 _), so _ (i0 _)]
    rw [e]
    refine ⟨?_, ?_, ?_⟩
    · unfold frS; simp [kk, atN, numN, p1, p4]
    · unfold frI; simp [kk, stepK, p1, p4]
    · simp [ftx]
  · simp at hp
    obtain ⟨⟨⟨⟨⟨rfl, rfl⟩, rfl⟩, rfl⟩, rfl⟩, rfl⟩ := hp
    cases uni
    rotate_left
    · have e : splitC 32 (ftx (22, 0, 0, [], false, 0, lim, 0, true, ())) = [nameW 22, Go.Lib.itoa lim, [117, 110, 105]] := by
        show splitC 32 (nameW 22 ++ 32 :: (Go.Lib.itoa lim ++ 32 :: ([117, 110, 105]))) = _
        rw [ss _ _ n0, ss _ _ (i0 _), so _ (by decide)]
      rw [e]
      refine ⟨?_, ?_, ?_⟩
      · unfold frS; simp [kk, atN, numN, p4]
      · unfold frI; simp [kk, stepK, p4, uniOf]
      · simp [ftx]
    · have e : splitC 32 (ftx (22, 0, 0, [], false, 0, lim, 0, false, ())) = [nameW 22, Go.Lib.itoa lim, [98, 105, 100, 105]] := by
        show splitC 32 (nameW 22 ++ 32 :: (Go.Lib.itoa lim ++ 32 :: ([98, 105, 100, 105]))) = _
        rw [ss _ _ n0, ss _ _ (i0 _), so _ (by decide)]
      rw [e]
      refine ⟨?_, ?_, ?_⟩
      · unfold frS; simp [kk, atN, numN, p4]
      · unfold frI; simp [kk, stepK, p4, uniOf]
      · simp [ftx]
theorem fmtF_ok {f : TFrame} (h : fmtF f ≠ []) : frameOK f = true ∧ smallF f = true ∧ fmtF f = ftx f := by
  unfold fmtF at h ⊢
  by_cases hc : frameOK f = true ∧ smallF f = true
  · rw [if_pos hc]; exact ⟨hc.1, hc.2, rfl⟩
  · rw [if_neg hc] at h; exact absurd rfl h
theorem parse_same (s : List UInt8) : resF s (frI (splitC 32 s)) = chk s (frS (splitC 32 s)) := by
  by_cases h : s ≠ [] ∧ fmtF (frS (splitC 32 s)) = s
  · obtain ⟨h1, h2, h3⟩ := fmtF_ok (f := frS (splitC 32 s)) (by rw [h.2]; exact h.1)
    have hp := (parse_text h1 h2).2.1
    rw [h.2] at h3
    rw [← h3] at hp
    rw [hp]; rfl
  · have hr : chk s (frS (splitC 32 s)) = (zF, false, ()) := if_neg h
    rw [hr]
    cases hf : frI (splitC 32 s) with
    | none => rfl
    | some g =>
      show chk s g = _
      by_cases hg : s ≠ [] ∧ fmtF g = s
      · obtain ⟨h1, h2, h3⟩ := fmtF_ok (f := g) (by rw [hg.2]; exact hg.1)
        have hp := (parse_text h1 h2).1
        rw [hg.2] at h3
        rw [← h3] at hp
        exact absurd ⟨hg.1, by rw [hp, hg.2]⟩ h
      · exact if_neg hg
theorem parse_both (s : List UInt8) (hs : s.length ≤ 1048576) : ∃ r : TFrame × Bool × Unit, spec_ParseFrame s = some r ∧ impl_ParseFrame s = some r :=
  ⟨_, spec_pf s hs, by rw [impl_pf s hs, parse_same]⟩
theorem eqFrame_refl (x : TFrame) : laws_eqFrame x x = some (true, ()) := by
  unfold laws_eqFrame; simp
theorem law_true : ∀ xs : dens [.str], wfA [.str] xs → laws_FnExactParseFrame xs.1 = some (true, ()) := by
  intro ⟨s, u⟩ _
  unfold laws_FnExactParseFrame
  by_cases h : s.length ≤ 1048576
  · obtain ⟨r, h1, h2⟩ := parse_both s h
    rw [bif_false (by simp; omega), h1, h2]
    simp only [Option.bind_some, eqFrame_refl]
    simp
  · rw [bif_true (by simp; omega)]

theorem fnExactParseFrame_own : ownKnob Tryd.prog.godebug = none := by kernel_rfl
theorem fnExactParseFrame_door (os : Os) (args : Array Value) : laidMetH Tryd.prog Rows.fnExactParseFrameRow.laid ((World.laidAll Tryd.prog os Rows.fnExactParseFrameRow.laid).forCall (fun _ _ => 0) ⟨#[], args, []⟩).memory := by
  rw [MakeChecks.laidMetH_plain _ _ _ (by kernel_rfl)]; exact laidMet_laidAll _ (by kernel_rfl) (by kernel_rfl)
theorem fnExactParseFrame_tab {W : World} (h : laidMetH Tryd.prog Rows.fnExactParseFrameRow.laid W) (hs : W.ShapedOpen Tryd.prog) : glob.G W := by
  rw [MakeChecks.laidMetH_plain _ _ _ (by kernel_rfl)] at h
  obtain ⟨m0, t0⟩ := cell_of_shapedOpen_int (P := Tryd.prog) (g := 1) (t := 3) (zero := #[.int .i64 0]) hs (of_decide_eq_true (by kernel_rfl)) (by kernel_rfl) rfl (by kernel_rfl) (by kernel_rfl) Tryd.underlying3
  have star : "*" ++ "errors.errorString" = "*errors.errorString" := by decide
  obtain ⟨_, _, t1, _⟩ := laid_sentinel (g := 2) (ti := 68) (tp := 123) (te := 125) (ts := 9) (nm := "*errors.errorString") (r := Rows.fnExactParseFrameRow.laid.drop 6) (show laidMet Tryd.prog (("strconv.ErrSyntax", Rows.laid_strconv_ErrSyntax) :: Rows.fnExactParseFrameRow.laid.drop 6) W from h.tail.tail.tail.tail.tail) (by kernel_rfl) (by kernel_rfl) Tryd.underlying68
    (fun u hu => typeName_ptr_named (nm := "errors.errorString") (by rw [star]; kernel_rfl) (by kernel_rfl) (by decide) u (by rw [star]; exact hu)) Tryd.underlying123 Tryd.underlying125 rfl rfl Tryd.underlying9 (by kernel_rfl) (by kernel_rfl)
  have t2 : Go.Lib.TabIs Tryd.prog W "internal/strconv.uint64pow10" .u64 Go.Lib.pow10Tab :=
    Go.Lib.tabIs_of_head (g := 6) (t := 127) (e := 101) (n := 20) (rest := Rows.fnExactParseFrameRow.laid.drop 3) (by kernel_rfl) (by kernel_rfl) (by kernel_rfl) (by kernel_rfl) (by kernel_rfl) (by kernel_rfl) (show laidMet Tryd.prog (("internal/strconv.uint64pow10", Go.Lib.tabData .u64 Go.Lib.pow10Tab) :: Rows.fnExactParseFrameRow.laid.drop 3) W from h.tail.tail)
  intro p hp
  simp only [List.mem_cons, List.not_mem_nil, or_false] at hp
  rcases hp with rfl | rfl | rfl
  · exact var?_of_cell (by kernel_rfl) t0
  · exact ⟨_, t1, _, _, rfl⟩
  · exact ⟨_, t2, rfl⟩
set_option maxRecDepth 100000 in
theorem fnExactParseFrame_lifted (os : Os) (started : os.Started) (H : Type) (enc : TypeId × Value → H) :
    ReturnsInHanded {} Tryd.checked os 4 .any (fun w args => (Rows.fnExactParseFrameSpec.pre enc Tryd.prog Tryd.f4 [] false w args ∧ laidMetH Tryd.prog Rows.fnExactParseFrameRow.laid w) ∧ sizedMet enc Tryd.prog Tryd.f4 (OpenSpec.ofChange Rows.fnExactParseFrameSpec) false w args)
      (Rows.fnExactParseFrameSpec.post enc Tryd.prog Tryd.f4 false true false false) := by
  refine returnsInHanded_of_change_and_shaped (C := Tryd.checked) (X := fun w _ => laidMetH Tryd.prog Rows.fnExactParseFrameRow.laid w) (fun _ _ _ hh h => h.of_heap hh) fnExactParseFrame_own started (by kernel_rfl) Tryd.func4
    (ChangeSpec.witness_shaped (enc := enc) (C := Tryd.checked) (os := os) (X := fun w _ => laidMetH Tryd.prog Rows.fnExactParseFrameRow.laid w) false (World.laidAll Tryd.prog os Rows.fnExactParseFrameRow.laid) #[.string .empty] 8 (World.laidAll_os _ _ _) (World.shaped_of_ZipB (by kernel_rfl) (by kernel_rfl)) (by kernel_rfl) (by kernel_rfl) (by kernel_rfl) (fnExactParseFrame_door os _)) ?_
  intro W base args ds gs before hval hW hL hsh
  exact law_contract ok_laws_FnExactParseFrame law_true rfl (fun H ds h => by
    match ds, h with
    | [d0], _ => rfl) (by kernel_rfl) (by kernel_rfl) rfl Tryd.underlying4 W base args ds gs before hval (fnExactParseFrame_tab hL hsh) hW
theorem fnExactParseFrame_said : Rows.FnExactParseFrameSaid :=
  OpenClaim.holds_of_wide 4 Tryd.f4 rfl rfl rfl rfl rfl rfl rfl ⟨rfl, rfl, rfl, rfl, rfl⟩ rfl rfl rfl rfl rfl (by kernel_rfl) Tryd.func4 (by kernel_rfl)
    (of_decide_eq_true (by kernel_rfl)) (by unfold Func.isWrapper; first | (rw [if_pos (by decide +kernel)]; kernel_rfl) | (rw [if_neg (by decide +kernel)]; exact ⟨rfl, rfl⟩))
    (fun os started H enc _ => fnExactParseFrame_lifted os started H enc)
/-- The law returns true for all arguments; the tables that the program text lays are tied. -/
theorem fnExactParseFrame_proved : Rows.FnExactParseFrameCardSaid :=
  Claim7.holds_tied_plain_at .later [] Rows.fnExactParseFrameCard.laidKinds true Rows.fnExactParseFrameCard.stood.harness Rows.fnExactParseFrameCard.stood.looks
    fnExactParseFrame_said (fun _ h => by cases h) (by kernel_rfl) (fun _ h => by cases h) fnExactParseFrame_row_tie rfl ⟨rfl, rfl⟩ (by kernel_rfl) rfl
    (fun f fn hf hfn => by
      obtain rfl : f = 4 := Option.some.inj ((show Tryd.prog.funcNamed Rows.fnExactParseFrameRow.func = some 4 by kernel_rfl).symm.trans hf) |>.symm
      obtain rfl : fn = Tryd.f4 := (Option.some.inj (Tryd.func4.symm.trans hfn)).symm
      exact ⟨by kernel_rfl, fun j t ht => by
        rw [Tryd.params4] at ht
        have hm : t ∈ [9] := by simpa using Array.mem_of_getElem? ht
        have hall : ([9].all fun u => !Tryd.prog.wantsStandIn u) = true := by kernel_rfl
        exact (show Tryd.prog.wantsStandIn t = false by simpa using List.all_eq_true.1 hall t hm)⟩)
    (by kernel_rfl)
#print axioms fnExactParseFrame_proved
end Go.Proofs.YtbcdobkgmgngmaaDoor

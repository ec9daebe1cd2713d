/- FnExactDecodeEvents returns true for all arguments. No condition. -/
import Derived.Test.YtbcdobkgmgngmaaDoorModExactDecodeEvents
import Derived.KernelRfl
import Derived.Test.YtbcdobkgmgngmaaDoorCards
import Derived.Test.YtbcdobkgmgngmaaDoorTie
import Derived.ProofKit
import Derived.LaidMore
import Derived.OpenShut
import Derived.Stop.Joined
import Derived.SevenTiedAt
import Derived.Lib.LaidTab
import Derived.Stop.LaidErr
import Derived.LaidHandle
import Derived.Lay
import Derived.Lib.ItoaLen
namespace Go.Proofs.YtbcdobkgmgngmaaDoor
open Go.Am Go.ChangeShapes Go.WideShapes Go.ChangeAt Go.RowKit
set_option linter.unusedVariables false
theorem bif_some1 {α : Type} {c : Bool} {x y : α} : (bif c then some (x, ()) else some (y, ())) = some (bif c then x else y, ()) := by cases c <;> rfl
theorem app_one {α : Type} (pre : List α) (x : α) (rest : List α) : pre ++ x :: rest = pre ++ [x] ++ rest := by simp
theorem getD_app {α : Type} (pre : List α) (x : α) (rest : List α) (d : α) : (pre ++ x :: rest).getD ((pre.length : Int).toNat) d = x := by
  rw [show (pre.length : Int).toNat = pre.length from rfl, List.getD_eq_getElem?_getD, List.getElem?_append_right (Nat.le_refl _)]
  simp
/-! bytes as hexadecimal digits -/
def hexd (k : Nat) : Int := ((([48, 49, 50, 51, 52, 53, 54, 55, 56, 57, 97, 98, 99, 100, 101, 102] : List UInt8).getD k 0).toNat : Int)
def hx (b : UInt8) : List Int := [hexd (b.toNat / 16), hexd (b.toNat % 16)]
theorem drop_cons {α : Type} {d : α} {l : List α} {i : Nat} (h : i < l.length) : l.drop i = l.getD i d :: l.drop (i + 1) := by
  rw [List.drop_eq_getElem_cons h, List.getD_eq_getElem?_getD, List.getElem?_eq_getElem h]; rfl
/-! numbers as texts -/
theorem u8_ok (n : Int) (h0 : 0 ≤ n) (h1 : n < 256) : IntKind.u8.wrap n = n := by
  have : n % 2 ^ 8 = n := Int.emod_eq_of_lt h0 (by omega)
  simp only [IntKind.wrap, IntKind.bits, IntKind.signed, this]
  simp
def digs (u : Nat) : List UInt8 := if u = 0 then [] else Go.Lib.decDigits u
theorem digs_step {u : Nat} (h : u ≠ 0) : digs u = digs (u / 10) ++ [UInt8.ofNat (48 + u % 10)] := by
  unfold digs
  rw [if_neg h, Go.Lib.decDigits]
  by_cases h10 : u < 10
  · rw [dif_pos h10, if_pos (by omega), List.nil_append, Nat.mod_eq_of_lt h10]
  · rw [dif_neg h10, if_neg (by omega)]
theorem fmt_j1 {K1 : (Int × List UInt8 × Bool × Unit) → Option (List UInt8 × Unit)} {n : Int} {out : List UInt8} {neg : Bool} {d : Nat} (hd : d < 10) (hl : 1 + out.length ≤ capS) :
    spec_FormatInt_j1 K1 n out neg (d : Int) = K1 (IntKind.i64.wrap (Int.tdiv n 10), UInt8.ofNat (48 + d) :: out, neg, ()) := by
  unfold spec_FormatInt_j1
  have h1 : bytesOf [IntKind.u8.wrap (IntKind.i64.wrap ((48 : Int) + (d : Int)))] = [UInt8.ofNat (48 + d)] := by
    rw [i64_ok (by omega) (by omega), u8_ok _ (by omega) (by omega)]
    simp only [bytesOf, List.map_cons, List.map_nil]
    congr 2
  simp only [h1]
  rw [guardP_pos (by simpa using hl), guardP_pos (by decide)]
  rfl
theorem fmt_loop : ∀ (k u N : Nat) (n : Int) (out : List UInt8) (neg : Bool), u < 10 ^ k → k < N → u ≤ 9223372036854775808 → (n = (u : Int) ∨ n = -(u : Int)) → out.length + k ≤ 1000 → (n = 9223372036854775808 → False) →
    spec_FormatInt_l1 N n out neg = some ((bif neg then 45 :: (digs u ++ out) else digs u ++ out), ())
  | k, u, 0, n, out, neg, h1, h2, _, _, _, _ => by omega
  | k, u, N + 1, n, out, neg, h1, h2, h3, h4, h5, h6 => by
    unfold spec_FormatInt_l1
    by_cases hu : u = 0
    · have hn : n = 0 := by omega
      rw [bif_false (by simp [hn])]
      rw [guardP_pos (by simp only [capS, List.length_cons, List.length_nil]; omega)]
      have : digs u = [] := by rw [hu]; rfl
      rw [this]
      cases neg <;> rfl
    · have hn : n ≠ 0 := by omega
      rw [bif_true (by simp [hn]), guardP_pos (by decide)]
      cases k with
      | zero => simp at h1; omega
      | succ k =>
        have hd : u / 10 < 10 ^ k := by
          rw [Nat.pow_succ] at h1
          omega
        have hm : u % 10 < 10 := Nat.mod_lt _ (by decide)
        have hq : IntKind.i64.wrap (Int.tdiv n 10) = ((u / 10 : Nat) : Int) ∨ IntKind.i64.wrap (Int.tdiv n 10) = -((u / 10 : Nat) : Int) := by
          rcases h4 with rfl | rfl
          · left; rw [Int.tdiv_eq_ediv_of_nonneg (by omega), i64_ok (by omega) (by omega)]; omega
          · right; rw [Int.neg_tdiv, Int.tdiv_eq_ediv_of_nonneg (by omega), i64_ok (by omega) (by omega)]; omega
        have go : spec_FormatInt_j1 (fun v => spec_FormatInt_l1 N v.1 v.2.1 v.2.2.1) n out neg ((u % 10 : Nat) : Int) = some ((bif neg then 45 :: (digs u ++ out) else digs u ++ out), ()) := by
          rw [fmt_j1 hm (by simp only [capS]; omega)]
          show spec_FormatInt_l1 N (IntKind.i64.wrap (Int.tdiv n 10)) (UInt8.ofNat (48 + u % 10) :: out) neg = _
          rw [fmt_loop k (u / 10) N _ _ neg hd (by omega) (by omega) hq (by simp only [List.length_cons]; omega) (by intro h; rcases hq with hq | hq <;> omega)]
          rw [digs_step hu, List.append_assoc]
          rfl
        rcases h4 with rfl | rfl
        · have e : Int.tmod (u : Int) 10 = ((u % 10 : Nat) : Int) := by rw [Int.tmod_eq_emod_of_nonneg (by omega)]; omega
          rw [e, bif_false (dec_false (by omega))]
          exact go
        · have e : Int.tmod (-(u : Int)) 10 = -((u % 10 : Nat) : Int) := by rw [Int.neg_tmod, Int.tmod_eq_emod_of_nonneg (by omega)]; omega
          rw [e]
          by_cases hz : u % 10 = 0
          · rw [bif_false (dec_false (by omega))]
            have : -((u % 10 : Nat) : Int) = ((u % 10 : Nat) : Int) := by omega
            rw [this]; exact go
          · rw [bif_true (dec_true (by omega)), i64_ok (by omega) (by omega)]
            have : 0 - -((u % 10 : Nat) : Int) = ((u % 10 : Nat) : Int) := by omega
            rw [this]; exact go
theorem fmtInt (n : Int) (h0 : -9223372036854775808 ≤ n) (h1 : n ≤ 9223372036854775807) : spec_FormatInt n = some (Go.Lib.itoa n, ()) := by
  unfold spec_FormatInt
  by_cases hz : n = 0
  · rw [bif_true (by simp [hz]), hz]
    unfold Go.Lib.itoa
    rw [if_neg (by omega), Go.Lib.decDigits, dif_pos (by decide)]
    rfl
  · rw [bif_false (by simp [hz])]
    have hp : n.natAbs < 10 ^ 20 := by
      have : (9223372036854775809 : Nat) ≤ 10 ^ 20 := by decide
      omega
    rw [fmt_loop 20 n.natAbs _ n [] _ hp (by unfold spec_FormatInt_l1_fuel; omega) (by omega) (by omega) (by simp) (by omega)]
    unfold Go.Lib.itoa digs
    rw [if_neg (by omega), List.append_nil]
    by_cases hn : n < 0
    · rw [dec_true hn, if_pos hn]; rfl
    · rw [dec_false hn, if_neg hn]
      have : n.natAbs = n.toNat := by omega
      rw [this]; rfl
theorem itoa_len (n : Int) (h0 : -9223372036854775808 ≤ n) (h1 : n ≤ 9223372036854775807) : (Go.Lib.itoa n).length ≤ 21 := Go.Lib.itoa_length_le n h0 h1
theorem implInt (n : Int) (h0 : -9223372036854775808 ≤ n) (h1 : n ≤ 9223372036854775807) : impl_FormatInt n = some (Go.Lib.itoa n, ()) := by
  unfold impl_FormatInt strconv_Itoa
  rw [guardP_pos ⟨h0, h1⟩]
  rfl
/-! numbers out of texts -/
theorem bif_some {α : Type} {c : Bool} {x y : α} : (bif c then some x else some y) = some (bif c then x else y) := by cases c <;> rfl
theorem dg_byte (d : Nat) (h : d < 10) : Go.Lib.digitVal (UInt8.ofNat (48 + d)) = some d := by
  have : (UInt8.ofNat (48 + d)).toNat = 48 + d := by simp; omega
  simp only [Go.Lib.digitVal, this]
  rw [if_pos (by omega)]; congr 1; omega
theorem decFrom_app : ∀ (l r : List UInt8) (acc : Nat), Go.Lib.decFrom acc (l ++ r) = (Go.Lib.decFrom acc l).bind fun a => Go.Lib.decFrom a r
  | [], r, acc => rfl
  | b :: l, r, acc => by
    simp only [List.cons_append, Go.Lib.decFrom]
    cases Go.Lib.digitVal b with
    | none => rfl
    | some d => exact decFrom_app l r _
theorem decFrom_digits : ∀ (u : Nat), Go.Lib.decFrom 0 (Go.Lib.decDigits u) = some u := by
  intro u
  induction u using Nat.strongRecOn with
  | _ u ih =>
    rw [Go.Lib.decDigits]
    split
    · rename_i h; simp only [Go.Lib.decFrom, dg_byte u h]; congr 1; omega
    · rename_i h
      rw [decFrom_app, ih (u / 10) (by omega)]
      simp only [Option.bind_some, Go.Lib.decFrom, dg_byte (u % 10) (by omega)]
      congr 1; omega
theorem decDigits_dig : ∀ (u : Nat), ∀ b ∈ Go.Lib.decDigits u, 48 ≤ b.toNat ∧ b.toNat ≤ 57 := by
  intro u
  induction u using Nat.strongRecOn with
  | _ u ih =>
    intro b hb
    rw [Go.Lib.decDigits] at hb
    split at hb
    · rename_i h
      simp only [List.mem_singleton] at hb
      subst hb
      have : (UInt8.ofNat (48 + u)).toNat = 48 + u := by simp; omega
      omega
    · rename_i h
      rcases List.mem_append.1 hb with hb | hb
      · exact ih (u / 10) (by omega) b hb
      · simp only [List.mem_singleton] at hb
        subst hb
        have : (UInt8.ofNat (48 + u % 10)).toNat = 48 + u % 10 := by simp; omega
        omega
theorem decDigits_ne (u : Nat) : Go.Lib.decDigits u ≠ [] := by
  intro h
  have := Go.Lib.decDigits_length u
  rw [h] at this
  have := Go.Lib.nDigits_pos u
  simp at *
  omega
theorem decNat_digits (u : Nat) : Go.Lib.decNat (Go.Lib.decDigits u) = some u := by
  unfold Go.Lib.decNat
  rw [if_neg (by simpa using decDigits_ne u)]
  exact decFrom_digits u
theorem atoi_itoa (n : Int) : Go.Lib.atoi (Go.Lib.itoa n) = some n := by
  unfold Go.Lib.itoa
  split
  · rename_i h
    simp only [Go.Lib.atoi, decNat_digits, Option.map_some]
    rw [if_pos (by decide)]
    congr 1; omega
  · rename_i h
    cases hd : Go.Lib.decDigits n.toNat with
    | nil => exact absurd hd (decDigits_ne _)
    | cons b r =>
      have hb := decDigits_dig n.toNat b (by rw [hd]; simp)
      have h1 : ¬ (b == 45) = true := by intro e; have := eq_of_beq e; subst this; simp at hb
      have h2 : ¬ (b == 43) = true := by intro e; have := eq_of_beq e; subst this; simp at hb
      simp only [Go.Lib.atoi]
      rw [if_neg h1, if_neg h2, ← hd, decNat_digits]
      simp only [Option.map_some]
      congr 1; omega
theorem itoa_inj {a b : Int} (h : Go.Lib.itoa a = Go.Lib.itoa b) : a = b := by
  have := atoi_itoa a
  rw [h, atoi_itoa] at this
  exact (Option.some.inj this).symm
theorem nDig9 {u : Nat} (h : u ≤ 999999999) : Go.Lib.nDigits u ≤ 9 := by
  rcases Nat.lt_or_ge 9 (Go.Lib.nDigits u) with h' | h'
  · exfalso
    have key : ∀ k u, k < Go.Lib.nDigits u → k ≥ 1 → 10 ^ k ≤ u := by
      intro k
      induction k with
      | zero => intro u _ h; omega
      | succ k ih =>
        intro u hu _
        rcases Nat.lt_or_ge u 10 with h10 | h10
        · rw [Go.Lib.nDigits_small h10] at hu; omega
        · rw [Go.Lib.nDigits_big (by omega)] at hu
          by_cases hk : k = 0
          · subst hk; simpa using h10
          · have := ih (u / 10) (by omega) (by omega)
            rw [Nat.pow_succ]; omega
    have := key 9 u h' (by omega)
    omega
  · exact h'
theorem itoa_short {n : Int} (h0 : -999999999 ≤ n) (h1 : n ≤ 999999999) : (Go.Lib.itoa n).length ≤ 10 := by
  unfold Go.Lib.itoa
  split
  · have := nDig9 (u := n.natAbs) (by omega)
    rw [List.length_cons, Go.Lib.decDigits_length]; omega
  · have := nDig9 (u := n.toNat) (by omega)
    rw [Go.Lib.decDigits_length]; omega
/-- what the reference's loop does -/
def pf : List UInt8 → Nat × Nat → Nat × Nat
  | [], v => v
  | b :: l, v => pf l (if 48 ≤ b.toNat ∧ b.toNat ≤ 57 then (v.1 * 10 + (b.toNat - 48), v.2 + 1) else v)
theorem pf_app : ∀ (l r : List UInt8) (v : Nat × Nat), pf (l ++ r) v = pf r (pf l v)
  | [], _, _ => rfl
  | b :: l, r, v => by simp only [List.cons_append, pf]; exact pf_app l r _
theorem pf_digits : ∀ (u : Nat), pf (Go.Lib.decDigits u) (0, 0) = (u, Go.Lib.nDigits u) := by
  intro u
  induction u using Nat.strongRecOn with
  | _ u ih =>
    rw [Go.Lib.decDigits]
    split
    · rename_i h
      have : (UInt8.ofNat (48 + u)).toNat = 48 + u := by simp; omega
      simp only [pf, this]
      rw [if_pos (by omega), Go.Lib.nDigits_small h]
      simp
    · rename_i h
      have : (UInt8.ofNat (48 + u % 10)).toNat = 48 + u % 10 := by simp; omega
      rw [pf_app, ih (u / 10) (by omega), Go.Lib.nDigits_big h]
      simp only [pf, this]
      rw [if_pos (by omega)]
      simp only [Prod.mk.injEq, and_true]
      omega
theorem pf_bound : ∀ (l : List UInt8) (v : Nat × Nat), v.1 < 10 ^ v.2 → (pf l v).1 < 10 ^ (pf l v).2 ∧ (pf l v).2 ≤ v.2 + l.length
  | [], v, h => ⟨h, by simp [pf]⟩
  | b :: l, v, h => by
    simp only [pf]
    split
    · have := pf_bound l (v.1 * 10 + (b.toNat - 48), v.2 + 1) (by simp only [Nat.pow_succ]; omega)
      refine ⟨this.1, ?_⟩
      have := this.2
      simp only [List.length_cons] at this ⊢
      omega
    · have := pf_bound l v h
      refine ⟨this.1, ?_⟩
      have := this.2
      simp only [List.length_cons]
      omega
theorem pow_le11 {k : Nat} (h : k ≤ 11) : (10 : Nat) ^ k ≤ 100000000000 := Nat.le_trans (Nat.pow_le_pow_right (by decide) h) (by decide)
def sgn (s : List UInt8) (n : Nat) : Int := if s.head? = some 45 then -(n : Int) else n
theorem pi_loop : ∀ (N : Nat) (pre rest : List UInt8) (n k : Nat), (pre ++ rest).length ≤ 1048576 → rest.length < N → pre.length ≤ 11 → n < 10 ^ k → k ≤ pre.length →
    spec_ParseInt_l1 N (pre ++ rest) n k pre.length = spec_ParseInt_j2 (pre ++ rest) (sgn (pre ++ rest) (pf (rest.take (11 - pre.length)) (n, k)).1) (pf (rest.take (11 - pre.length)) (n, k)).2
  | 0, _, _, _, _, _, h, _, _, _ => by omega
  | N + 1, pre, rest, n, k, h1, h2, h3, h4, h5 => by
    unfold spec_ParseInt_l1
    have fin : (guardP (((decide (((pre ++ rest).length : Int) > (0 : Int))) = true → (0 ≤ (0 : Int) ∧ (0 : Int) < (pre ++ rest).length))) <|
      bif (decide (((pre ++ rest).length : Int) > (0 : Int))) && ((((pre ++ rest).getD (0 : Int).toNat 0).toNat : Int) == (45 : Int)) then
        spec_ParseInt_j2 (pre ++ rest) (IntKind.i64.wrap (0 - (n : Int))) k
      else
        spec_ParseInt_j2 (pre ++ rest) n k) = spec_ParseInt_j2 (pre ++ rest) (sgn (pre ++ rest) n) k := by
      have hb := pow_le11 (k := k) (by omega)
      rw [guardP_pos (fun h => by simp at h ⊢; omega), i64_ok (by omega) (by omega)]
      unfold sgn
      cases hs : pre ++ rest with
      | nil => rfl
      | cons b l =>
        simp only [List.length_cons, List.head?_cons, Option.some.injEq]
        by_cases hc : b = 45
        · subst hc
          rw [if_pos rfl, bif_true (by simp)]
          congr 1; omega
        · rw [if_neg hc, bif_false (by
            simp only [Bool.and_eq_false_iff]
            right
            simp only [Int.toNat_zero, List.getD_cons_zero, beq_eq_false_iff_ne, ne_eq]
            intro e
            apply hc
            apply UInt8.toNat_inj.1
            have e : (b.toNat : Int) = 45 := e
            show b.toNat = 45
            omega)]
    cases rest with
    | nil =>
      rw [bif_false (by simp)]
      simp only [List.take_nil, pf]
      exact fin
    | cons b rest =>
      by_cases hp : pre.length < 11
      · simp only [List.length_append, List.length_cons] at h1 h2
        rw [bif_true (by simp; omega), guardP_pos (by simp; omega)]
        simp only [getD_app]
        rw [guardP_pos (fun _ => by simp; omega)]
        have e := app_one pre b rest
        have hb := pow_le11 (k := k) (by omega)
        have htk : (b :: rest).take (11 - pre.length) = b :: rest.take (11 - (pre.length + 1)) := by
          rw [show 11 - pre.length = (11 - (pre.length + 1)) + 1 by omega, List.take_succ_cons]
        rw [htk]
        simp only [pf]
        have hlt : b.toNat < 256 := b.toNat_lt
        by_cases hd : 48 ≤ b.toNat ∧ b.toNat ≤ 57
        · rw [bif_true (by simp; omega), guardP_pos (by simp; omega), if_pos hd]
          unfold spec_ParseInt_j1
          have u8 : IntKind.u8.wrap (((b.toNat : Int)) - 48) = ((b.toNat - 48 : Nat) : Int) := by
            rw [u8_ok _ (by omega) (by omega)]; omega
          have w1 : IntKind.i64.wrap ((n : Int) * 10) = (n : Int) * 10 := i64_ok (by omega) (by omega)
          have w2 : IntKind.i64.wrap ((b.toNat - 48 : Nat) : Int) = ((b.toNat - 48 : Nat) : Int) := i64_ok (by omega) (by omega)
          rw [u8, w1, w2, i64_ok (by omega) (by omega), i64_ok (n := (k : Int) + 1) (by omega) (by omega), i64_succ (m := (pre ++ b :: rest).length) (by simp) (by simp; omega)]
          have := pi_loop N (pre ++ [b]) rest (n * 10 + (b.toNat - 48)) (k + 1) (by simp; omega) (by omega) (by simp; omega) (by rw [Nat.pow_succ]; omega) (by simp; omega)
          rw [← e] at this
          simp only [List.length_append, List.length_cons, List.length_nil, Nat.zero_add] at this ⊢
          rw [← this]
          congr 1 <;> push_cast <;> omega
        · rw [bif_false (by simp; omega), if_neg hd]
          unfold spec_ParseInt_j1
          rw [i64_succ (m := (pre ++ b :: rest).length) (by simp) (by simp; omega)]
          have := pi_loop N (pre ++ [b]) rest n k (by simp; omega) (by omega) (by simp; omega) h4 (by simp; omega)
          rw [← e] at this
          simp only [List.length_append, List.length_cons, List.length_nil, Nat.zero_add] at this ⊢
          exact this
      · rw [bif_false (by simp; omega), show 11 - pre.length = 0 by omega]
        simp only [List.take_zero, pf]
        exact fin
theorem pint (s : List UInt8) (hs : s.length ≤ 1048576) :
    (∃ n : Int, -999999999 ≤ n ∧ n ≤ 999999999 ∧ s = Go.Lib.itoa n ∧ spec_ParseInt s = some (n, true, ()) ∧ impl_ParseInt s = some (n, true, ())) ∨
    ((∀ n : Int, -999999999 ≤ n → n ≤ 999999999 → s ≠ Go.Lib.itoa n) ∧ spec_ParseInt s = some (0, false, ()) ∧ impl_ParseInt s = some (0, false, ())) := by
  have hI : (∃ n : Int, -999999999 ≤ n ∧ n ≤ 999999999 ∧ s = Go.Lib.itoa n ∧ impl_ParseInt s = some (n, true, ())) ∨ ((∀ n : Int, -999999999 ≤ n → n ≤ 999999999 → s ≠ Go.Lib.itoa n) ∧ impl_ParseInt s = some (0, false, ())) := by
    unfold impl_ParseInt
    by_cases hl : s.length > 10
    · rw [bif_true (dec_true (by omega))]
      refine .inr ⟨fun n h0 h1 e => ?_, rfl⟩
      have := itoa_short h0 h1
      rw [← e] at this; omega
    · rw [bif_false (dec_false (by omega))]
      simp only [strconv_Atoi]
      rw [guardP_pos (by omega), Option.bind_some]
      cases ha : Go.Lib.atoi s with
      | none =>
        refine .inr ⟨fun n h0 h1 e => ?_, ?_⟩
        · rw [e, atoi_itoa] at ha; cases ha
        · simp
      | some n =>
        have hb := Go.Lib.atoi_bound ha (by omega)
        simp only [Option.getD_some, Option.isSome_some, Bool.not_true, cond_false, strconv_Itoa]
        rw [guardP_pos (by omega), Option.bind_some]
        by_cases he : Go.Lib.itoa n = s
        · simp only [he, beq_self_eq_true, Bool.not_true, Bool.or_false, Bool.false_or, cond_false, impl_within, Option.bind_some]
          by_cases hr : -999999999 ≤ n ∧ n ≤ 999999999
          · refine .inl ⟨n, hr.1, hr.2, he.symm, ?_⟩
            rw [bif_false (by simp; exact hr)]
          · refine .inr ⟨fun m h0 h1 e => ?_, ?_⟩
            · rw [e] at he; have := itoa_inj he; subst this; exact hr ⟨h0, h1⟩
            · rw [bif_true (by simp; omega)]
        · have : (Go.Lib.itoa n == s) = false := by simpa using he
          simp only [this, Bool.not_false, Bool.or_true, Bool.true_or, cond_true, Option.bind_some]
          refine .inr ⟨fun m h0 h1 e => ?_, trivial⟩
          rw [e, atoi_itoa] at ha
          cases ha
          exact he e.symm
  have hpf := pi_loop (((s.length : Int) - 0).toNat + 1) [] s 0 0 (by simpa using hs) (by omega) (by simp) (by simp) (by simp)
  simp only [List.nil_append, List.length_nil, Nat.sub_zero, Int.natCast_zero] at hpf
  have hS : spec_ParseInt s = spec_ParseInt_j2 s (sgn s (pf (s.take 11) (0, 0)).1) (pf (s.take 11) (0, 0)).2 := by
    unfold spec_ParseInt spec_ParseInt_l1_fuel; exact hpf
  obtain ⟨hb1, hb2⟩ := pf_bound (s.take 11) (0, 0) (by simp)
  have hk : (pf (s.take 11) (0, 0)).2 ≤ 11 := by have : (s.take 11).length ≤ 11 := by simp; omega
                                                 omega
  have hb3 := pow_le11 hk
  -- a numeral is read as its number
  have hnum : ∀ n : Int, -999999999 ≤ n → n ≤ 999999999 → s = Go.Lib.itoa n → sgn s (pf (s.take 11) (0, 0)).1 = n ∧ (pf (s.take 11) (0, 0)).2 ≤ 9 := by
    intro n h0 h1 e
    have hsh := itoa_short h0 h1
    rw [← e] at hsh
    rw [List.take_of_length_le (by omega)]
    unfold Go.Lib.itoa at e
    split at e
    · rename_i hn
      rw [e]
      simp only [pf]
      rw [if_neg (by decide), pf_digits]
      refine ⟨?_, nDig9 (by omega)⟩
      simp only [sgn, List.head?_cons, if_true]
      omega
    · rename_i hn
      rw [e, pf_digits]
      refine ⟨?_, nDig9 (by omega)⟩
      unfold sgn
      rw [if_neg]
      · simp only; omega
      · intro hh
        have := decDigits_dig n.toNat 45 (List.mem_of_mem_head? hh)
        simp at this
  generalize (pf (s.take 11) (0, 0)).1 = u at hS hb1 hnum
  generalize (pf (s.take 11) (0, 0)).2 = k at hS hb1 hb2 hk hb3 hnum
  have hrange : -100000000000 ≤ sgn s u ∧ sgn s u ≤ 100000000000 := by unfold sgn; split <;> omega
  unfold spec_ParseInt_j2 at hS
  simp only [fmtInt (sgn s u) (by omega) (by omega), bif_some, Option.bind_some] at hS
  rcases hI with ⟨n, h0, h1, e, hi⟩ | ⟨hno, hi⟩
  · obtain ⟨g1, g2⟩ := hnum n h0 h1 e
    refine .inl ⟨n, h0, h1, e, ?_, hi⟩
    rw [hS, g1]
    have hsh := itoa_short h0 h1
    rw [← e] at hsh
    have : (decide ((k : Int) > 9) || decide ((s.length : Int) > 10)) = false := by simp; omega
    simp only [this, cond_false, ← e, beq_self_eq_true, Bool.not_true, Bool.or_false]
  · refine .inr ⟨hno, ?_, hi⟩
    rw [hS]
    by_cases hc : (decide ((k : Int) > 9) || decide ((s.length : Int) > 10)) = true
    · simp only [hc, cond_true, Bool.true_or]
    · have hc' : (decide ((k : Int) > 9) || decide ((s.length : Int) > 10)) = false := by simpa using hc
      simp only [hc', cond_false, Bool.false_or]
      rw [bif_true]
      simp only [Bool.not_eq_true', beq_eq_false_iff_ne, ne_eq]
      intro e
      simp only [Bool.or_eq_false_iff, decide_eq_false_iff_not] at hc'
      have hk9 : k ≤ 9 := by omega
      have : (10 : Nat) ^ k ≤ 1000000000 := Nat.le_trans (Nat.pow_le_pow_right (by decide) hk9) (by decide)
      exact hno (sgn s u) (by unfold sgn; split <;> omega) (by unfold sgn; split <;> omega) e.symm
/-! texts cut at a sign -/
def cutC (c : UInt8) : List UInt8 → List UInt8 × List UInt8 × Bool
  | [] => ([], [], false)
  | b :: l => if b = c then ([], l, true) else (b :: (cutC c l).1, (cutC c l).2.1, (cutC c l).2.2)
def splitC (c : UInt8) : List UInt8 → List (List UInt8)
  | [] => [[]]
  | b :: l => if b = c then [] :: splitC c l else match splitC c l with
    | [] => [[b]]
    | w :: ws => (b :: w) :: ws
theorem splitC_ne (c : UInt8) : ∀ l, splitC c l ≠ []
  | [] => by simp [splitC]
  | b :: l => by
    unfold splitC
    split
    · simp
    · split <;> simp
theorem splitC_at (c : UInt8) : ∀ (a r : List UInt8), c ∉ a → splitC c (a ++ c :: r) = a :: splitC c r
  | [], r, _ => by simp [splitC]
  | b :: a, r, h => by
    have hb : b ≠ c := fun e => h (by simp [e])
    have ih := splitC_at c a r (fun hm => h (by simp [hm]))
    simp only [List.cons_append, splitC, hb, if_false, ih]
theorem splitC_one (c : UInt8) : ∀ (a : List UInt8), c ∉ a → splitC c a = [a]
  | [], _ => by simp [splitC]
  | b :: a, h => by
    have hb : b ≠ c := fun e => h (by simp [e])
    have ih := splitC_one c a (fun hm => h (by simp [hm]))
    simp only [splitC, hb, if_false, ih]
theorem cutC_at (c : UInt8) : ∀ (a r : List UInt8), c ∉ a → cutC c (a ++ c :: r) = (a, r, true)
  | [], r, _ => by simp [cutC]
  | b :: a, r, h => by
    have hb : b ≠ c := fun e => h (by simp [e])
    have ih := cutC_at c a r (fun hm => h (by simp [hm]))
    simp only [List.cons_append, cutC, hb, if_false, ih]
theorem cutC_one (c : UInt8) : ∀ (a : List UInt8), c ∉ a → cutC c a = (a, [], false)
  | [], _ => by simp [cutC]
  | b :: a, h => by
    have hb : b ≠ c := fun e => h (by simp [e])
    have ih := cutC_one c a (fun hm => h (by simp [hm]))
    simp only [cutC, hb, if_false, ih]
theorem cutC_len (c : UInt8) : ∀ l : List UInt8, (cutC c l).1.length ≤ l.length ∧ (cutC c l).2.1.length ≤ l.length
  | [] => by simp [cutC]
  | b :: l => by
    have := cutC_len c l
    unfold cutC
    split
    · simp
    · simp only [List.length_cons]; omega
/-- a text is without the sign, or it is cut -/
theorem cut_or (c : UInt8) : ∀ l : List UInt8, c ∉ l ∨ ∃ a r, l = a ++ c :: r ∧ c ∉ a
  | [] => .inl (by simp)
  | b :: l => by
    by_cases h : b = c
    · exact .inr ⟨[], l, by simp [h], by simp⟩
    · rcases cut_or c l with h' | ⟨a, r, e, h'⟩
      · exact .inl (by simp [h', Ne.symm h])
      · exact .inr ⟨b :: a, r, by simp [e], by simp [h', Ne.symm h]⟩
theorem index_none (c : UInt8) : ∀ l : List UInt8, c ∉ l → Go.Lib.index l [c] = -1
  | [], _ => rfl
  | b :: l, h => by
    have hb : ¬ c = b := fun e => h (by simp [e])
    have ih := index_none c l (fun hm => h (by simp [hm]))
    unfold Go.Lib.index
    rw [ih]
    simp [List.isPrefixOf, hb]
theorem index_some (c : UInt8) : ∀ (a r : List UInt8), c ∉ a → Go.Lib.index (a ++ c :: r) [c] = a.length
  | [], r, _ => by simp [Go.Lib.index, List.isPrefixOf]
  | b :: a, r, h => by
    have hb : ¬ c = b := fun e => h (by simp [e])
    have ih := index_some c a r (fun hm => h (by simp [hm]))
    rw [List.cons_append]
    unfold Go.Lib.index
    rw [ih]
    simp only [List.isPrefixOf, beq_eq_false_iff_ne.2 hb, Bool.false_and, Bool.false_eq_true, if_false]
    rw [if_neg (by simp)]
    simp
theorem cut_eq (c : UInt8) (l : List UInt8) : Go.Lib.cut l [c] = cutC c l := by
  unfold Go.Lib.cut
  rcases cut_or c l with h | ⟨a, r, rfl, h⟩
  · rw [index_none c l h, cutC_one c l h]; rfl
  · rw [index_some c a r h, cutC_at c a r h, if_pos (by omega)]
    simp
theorem split_eq (c : UInt8) : ∀ (n : Nat) (l : List UInt8), l.length ≤ n → Go.Lib.splitK [c] 0 (Go.Lib.count l [c]) l = splitC c l := by
  intro n
  induction n with
  | zero =>
    intro l h
    have : l = [] := List.eq_nil_of_length_eq_zero (by omega)
    subst this; rfl
  | succ n ih =>
    intro l h
    rcases cut_or c l with h' | ⟨a, r, rfl, h'⟩
    · rw [Go.Lib.count_miss (index_none c l h'), splitC_one c l h']; rfl
    · have hi := index_some c a r h'
      rw [Go.Lib.count_hit (i := a.length) (by simp) hi, splitC_at c a r h', Nat.add_comm, Go.Lib.splitK, hi]
      simp only [List.length_append, List.length_cons] at h
      have e1 : (a ++ c :: r).drop ((a.length : Int).toNat + [c].length) = r := by simp
      have e2 : (a ++ c :: r).drop (a.length + [c].length) = r := by simp
      have e3 : (a ++ c :: r).take ((a.length : Int).toNat + 0) = a := by simp
      rw [e1, e2, e3, ih r (by omega), if_neg (by simp)]
theorem splitC_nosep (c : UInt8) : ∀ l : List UInt8, ∀ w ∈ splitC c l, c ∉ w
  | [], w, h => by simp [splitC] at h; subst h; simp
  | b :: l, w, h => by
    unfold splitC at h
    split at h
    · rcases List.mem_cons.1 h with rfl | h
      · simp
      · exact splitC_nosep c l w h
    · rename_i hb
      split at h
      · simp only [List.mem_singleton] at h; subst h; simp [Ne.symm hb]
      · rename_i w0 ws hw
        rcases List.mem_cons.1 h with rfl | h
        · have := splitC_nosep c l w0 (by rw [hw]; simp)
          simp [this, Ne.symm hb]
        · exact splitC_nosep c l w (by rw [hw]; simp [h])
theorem splitC_len (c : UInt8) : ∀ l : List UInt8, (splitC c l).length ≤ l.length + 1 ∧ ∀ w ∈ splitC c l, w.length ≤ l.length
  | [] => by simp [splitC]
  | b :: l => by
    obtain ⟨h1, h2⟩ := splitC_len c l
    unfold splitC
    split
    · refine ⟨by simp; omega, fun w hw => ?_⟩
      rcases List.mem_cons.1 hw with rfl | hw
      · simp
      · have := h2 w hw; simp; omega
    · split
      · simp
      · rename_i w ws hw
        rw [hw] at h1 h2
        refine ⟨by simp at h1 ⊢; omega, fun w' hw' => ?_⟩
        rcases List.mem_cons.1 hw' with rfl | hw'
        · have := h2 w (by simp); simp; omega
        · have := h2 w' (by simp [hw']); simp; omega
/-! the reference's cutting -/
def addPart (p : List UInt8) : List (List UInt8) → List (List UInt8)
  | [] => [p]
  | w :: ws => (p ++ w) :: ws
theorem addPart_nil {l : List (List UInt8)} (h : l ≠ []) : addPart [] l = l := by cases l <;> simp_all [addPart]
theorem cut_loop (c : UInt8) : ∀ (N : Nat) (pre rest : List UInt8) (out : List (List UInt8)) (part : List UInt8), (pre ++ rest).length ≤ 1048576 → rest.length < N → out.length ≤ pre.length → part.length ≤ pre.length →
    spec_l13Cut_l1 N (pre ++ rest) (c.toNat : Int) out part pre.length = some (out ++ addPart part (splitC c rest), ())
  | 0, _, _, _, _, _, h, _, _ => by omega
  | N + 1, pre, [], out, part, h1, h2, h3, h4 => by
    unfold spec_l13Cut_l1
    simp only [List.length_append, List.length_nil] at h1
    rw [bif_false (by simp), guardP_pos (by unfold capN; simp; omega)]
    simp [splitC, addPart]
  | N + 1, pre, b :: rest, out, part, h1, h2, h3, h4 => by
    unfold spec_l13Cut_l1
    simp only [List.length_append, List.length_cons] at h1 h2
    rw [bif_true (by simp; omega), guardP_pos (by simp; omega)]
    simp only [getD_app]
    have e := app_one pre b rest
    by_cases hb : b = c
    · subst hb
      rw [bif_true (by simp), guardP_pos (by unfold capN; simp; omega)]
      unfold spec_l13Cut_j1
      rw [i64_succ (m := (pre ++ b :: rest).length) (by simp) (by simp; omega)]
      have := cut_loop b N (pre ++ [b]) rest (out ++ [part]) [] (by simp; omega) (by omega) (by simp; omega) (by simp)
      rw [← e] at this
      simp only [List.length_append, List.length_cons, List.length_nil, Nat.zero_add] at this ⊢
      rw [this, addPart_nil (splitC_ne b rest)]
      simp [splitC, addPart]
    · have hne : ((b.toNat : Int) == (c.toNat : Int)) = false := by
        rw [beq_eq_false_iff_ne]
        intro e'
        exact hb (UInt8.toNat_inj.1 (by omega))
      rw [bif_false hne, i64_succ (m := (pre ++ b :: rest).length) (by simp) (by simp; omega), guardP_pos (by simp; omega)]
      have ht2 : ((pre ++ b :: rest).drop (pre.length : Int).toNat).take (((pre.length + 1 : Nat) : Int).toNat - (pre.length : Int).toNat) = [b] := by
        rw [show ((pre.length : Int)).toNat = pre.length by omega, show (((pre.length + 1 : Nat) : Int)).toNat - pre.length = 1 by omega, List.drop_left]
        rfl
      simp only [ht2]
      rw [guardP_pos (by unfold capS; simp; omega)]
      unfold spec_l13Cut_j1
      rw [i64_succ (m := (pre ++ b :: rest).length) (by simp) (by simp; omega)]
      have := cut_loop c N (pre ++ [b]) rest out (part ++ [b]) (by simp; omega) (by omega) (by simp; omega) (by simp; omega)
      rw [← e] at this
      simp only [List.length_append, List.length_cons, List.length_nil, Nat.zero_add] at this ⊢
      rw [this]
      congr 3
      simp only [splitC, hb, if_false]
      cases h : splitC c rest with
      | nil => exact absurd h (splitC_ne c rest)
      | cons w ws => simp [addPart]
theorem l13cut (c : UInt8) (s : List UInt8) (hs : s.length ≤ 1048576) : spec_l13Cut s (c.toNat : Int) = some (splitC c s, ()) := by
  have := cut_loop c (((s.length : Int) - 0).toNat + 1) [] s [] [] (by simpa using hs) (by omega) (by simp) (by simp)
  unfold spec_l13Cut spec_l13Cut_l1_fuel
  simp only [List.nil_append, List.length_nil, Int.natCast_zero, addPart_nil (splitC_ne c s)] at this
  exact this
theorem itoa_nosp (c : UInt8) (hc : c = 32 ∨ c = 10) (n : Int) : c ∉ Go.Lib.itoa n := by
  have hd : ∀ u, c ∉ Go.Lib.decDigits u := fun u h => by
    have := decDigits_dig u c h
    rcases hc with rfl | rfl <;> simp at this
  unfold Go.Lib.itoa
  split
  · simp only [List.mem_cons, not_or]
    refine ⟨?_, hd _⟩
    rcases hc with rfl | rfl <;> decide
  · exact hd _
/-! events -/
theorem word_eq (k : Int) : spec_EventWord k = impl_EventWord k := by
  by_cases h : 1 ≤ k ∧ k ≤ 12
  · have : k = 1 ∨ k = 2 ∨ k = 3 ∨ k = 4 ∨ k = 5 ∨ k = 6 ∨ k = 7 ∨ k = 8 ∨ k = 9 ∨ k = 10 ∨ k = 11 ∨ k = 12 := by omega
    unfold spec_EventWord spec_l1In
    simp only [Option.bind_some]
    rcases this with rfl | rfl | rfl | rfl | rfl | rfl | rfl | rfl | rfl | rfl | rfl | rfl
    all_goals
      rw [bif_false (by decide)]
      rw [guardP_pos (by decide)]
      rfl
  · have e1 : (decide (k ≥ 1) && decide (k ≤ 12)) = false := by rw [Bool.and_eq_false_iff, decide_eq_false_iff_not, decide_eq_false_iff_not]; omega
    unfold spec_EventWord spec_l1In impl_EventWord
    simp only [Option.bind_some, e1]
    rfl
theorem all_loop {p : UInt8 → Bool} {fin : List UInt8 → Bool} {L : Nat → List UInt8 → Int → Option (Bool × Unit)}
    (hL : ∀ N s (i : Nat), i < s.length → s.length ≤ 1048576 → L (N + 1) s (i : Int) = bif p (s.getD i 0) then L N s ((i + 1 : Nat) : Int) else some (false, ()))
    (hE : ∀ N (s : List UInt8), s.length ≤ 1048576 → L (N + 1) s (s.length : Int) = some (fin s, ())) : ∀ (N : Nat) (s : List UInt8) (i : Nat), s.length ≤ 1048576 → i ≤ s.length → s.length - i < N → L N s (i : Int) = some ((s.drop i).all p && fin s, ())
  | 0, _, _, _, _, h => by omega
  | N + 1, s, i, hs, hi, hN => by
    by_cases h : i < s.length
    · rw [hL N s i h hs, drop_cons (d := (0 : UInt8)) h, List.all_cons]
      cases p (s.getD i 0)
      · rfl
      · rw [cond_true, all_loop hL hE N s (i + 1) hs h (by omega), Bool.true_and]
    · have : i = s.length := by omega
      subst this
      rw [hE N s hs, List.drop_length]; rfl
def inB (lo hi : Int) (b : UInt8) : Bool := !(decide ((b.toNat : Int) < lo) || decide ((b.toNat : Int) > hi))
def len40 (s : List UInt8) : Bool := decide ((s.length : Int) ≥ 1) && decide ((s.length : Int) ≤ 40)
theorem not_or (a b : Bool) {α : Type} (x y : α) : (bif a || b then x else y) = (bif !(a || b) then y else x) := by cases a <;> cases b <;> rfl
theorem letters_spec (s : List UInt8) (h : s.length ≤ 1048576) : spec_l23Letters s = some (s.all (inB 97 122) && len40 s, ()) := by
  unfold spec_l23Letters
  refine all_loop (L := spec_l23Letters_l1) (fin := len40) ?_ ?_ _ s 0 h (by omega) (by unfold spec_l23Letters_l1_fuel; omega)
  · intro N s i hi hs
    conv => lhs; unfold spec_l23Letters_l1
    have e : (i : Int).toNat = i := rfl
    rw [bif_true (dec_true (by omega)), guardP_pos (by omega)]
    simp only []
    rw [guardP_pos (fun _ => by omega), i64_succ hi (by omega), e, not_or]
    rfl
  · intro N s hs
    unfold spec_l23Letters_l1
    rw [bif_false (dec_false (by omega))]
    rfl
theorem print_spec (s : List UInt8) (h : s.length ≤ 1048576) : spec_l23Printable s = some (s.all (inB 32 126) && len40 s, ()) := by
  unfold spec_l23Printable
  refine all_loop (L := spec_l23Printable_l1) (fin := len40) ?_ ?_ _ s 0 h (by omega) (by unfold spec_l23Printable_l1_fuel; omega)
  · intro N s i hi hs
    conv => lhs; unfold spec_l23Printable_l1
    have e : (i : Int).toNat = i := rfl
    rw [bif_true (dec_true (by omega)), guardP_pos (by omega)]
    simp only []
    rw [guardP_pos (fun _ => by omega), i64_succ hi (by omega), e, not_or]
    rfl
  · intro N s hs
    unfold spec_l23Printable_l1
    rw [bif_false (dec_false (by omega))]
    rfl
theorem bytes_impl (s : List UInt8) (lo hi : Int) (h : s.length ≤ 1048576) : impl_areBytes s lo hi = some (s.all (inB lo hi) && len40 s, ()) := by
  unfold impl_areBytes
  refine all_loop (L := fun N s i => impl_areBytes_l1 N s lo hi i) (fin := len40) ?_ ?_ _ s 0 h (by omega) (by unfold impl_areBytes_l1_fuel; omega)
  · intro N s i hi hs
    conv => lhs; unfold impl_areBytes_l1
    have e : (i : Int).toNat = i := rfl
    rw [bif_true (dec_true (by omega)), guardP_pos (by omega)]
    simp only []
    rw [guardP_pos (fun _ => by omega), i64_succ hi (by omega), e, not_or]
    rfl
  · intro N s hs
    show impl_areBytes_l1 (N + 1) s lo hi (s.length : Int) = _
    unfold impl_areBytes_l1
    rw [bif_false (dec_false (by omega))]
    rfl
theorem fromHex_step (N k : Nat) (b : Int) (hk : k < 16) : spec_l1FromHex_l1 (N + 1) b (k : Int) = if hexd k = b then some ((k : Int), ()) else spec_l1FromHex_l1 N b ((k + 1 : Nat) : Int) := by
  conv => lhs; unfold spec_l1FromHex_l1
  have dig : spec_l1Digit (k : Int) = some (hexd k, ()) := by
    unfold spec_l1Digit hexd
    rw [guardP_pos (by simp only [List.length_cons, List.length_nil]; omega)]
    rfl
  rw [bif_true (dec_true (by omega)), dig]
  simp only [Option.bind_some]
  rw [i64_succ (m := 16) hk (by omega)]
  by_cases h : hexd k = b
  · rw [bif_true (by simp [h]), if_pos h]
  · rw [bif_false (by simp [h]), if_neg h]
theorem hexVal_eq (b : UInt8) : spec_l1FromHex (b.toNat : Int) = impl_hexValue (b.toNat : Int) := by
  have hb : b.toNat < 256 := b.toNat_lt
  generalize b.toNat = n at *
  unfold spec_l1FromHex
  have hf : spec_l1FromHex_l1_fuel (n : Int) 0 = 17 := rfl
  rw [hf]
  show spec_l1FromHex_l1 17 (n : Int) ((0 : Nat) : Int) = _
  have e : ∀ k, k < 16 → hexd k = if k < 10 then (48 + k : Int) else (87 + k : Int) := by decide
  have hE : spec_l1FromHex_l1 1 (n : Int) ((16 : Nat) : Int) = some (-1, ()) := rfl
  unfold impl_hexValue
  by_cases h1 : 48 ≤ n ∧ n ≤ 57
  · rw [bif_true (by simp; omega)]
    have u : IntKind.i64.wrap (IntKind.u8.wrap ((n : Int) - 48)) = (n : Int) - 48 := by rw [u8_ok _ (by omega) (by omega), i64_ok (by omega) (by omega)]
    rw [u]
    have : n = 48 ∨ n = 49 ∨ n = 50 ∨ n = 51 ∨ n = 52 ∨ n = 53 ∨ n = 54 ∨ n = 55 ∨ n = 56 ∨ n = 57 := by omega
    rcases this with rfl | rfl | rfl | rfl | rfl | rfl | rfl | rfl | rfl | rfl
    all_goals
      repeat (rw [fromHex_step _ _ _ (by decide)]; first | (rw [if_pos (by decide)]; rfl) | rw [if_neg (by decide)])
  · rw [bif_false (by rw [Bool.and_eq_false_iff, decide_eq_false_iff_not, decide_eq_false_iff_not]; omega)]
    by_cases h2 : 97 ≤ n ∧ n ≤ 102
    · rw [bif_true (by simp; omega)]
      have u : IntKind.i64.wrap (IntKind.i64.wrap (IntKind.u8.wrap ((n : Int) - 97)) + 10) = (n : Int) - 87 := by rw [u8_ok _ (by omega) (by omega), show IntKind.i64.wrap ((n : Int) - 97) = (n : Int) - 97 from i64_ok (by omega) (by omega), i64_ok (by omega) (by omega)]; omega
      rw [u]
      have : n = 97 ∨ n = 98 ∨ n = 99 ∨ n = 100 ∨ n = 101 ∨ n = 102 := by omega
      rcases this with rfl | rfl | rfl | rfl | rfl | rfl
      all_goals
        repeat (rw [fromHex_step _ _ _ (by decide)]; first | (rw [if_pos (by decide)]; rfl) | rw [if_neg (by decide)])
    · rw [bif_false (by rw [Bool.and_eq_false_iff, decide_eq_false_iff_not, decide_eq_false_iff_not]; omega)]
      repeat (rw [fromHex_step _ _ _ (by decide), if_neg (by rw [e _ (by decide)]; split <;> omega)])
      exact hE
theorem hexVal_ge (b : UInt8) : ∃ v : Int, impl_hexValue (b.toNat : Int) = some (v, ()) ∧ -1 ≤ v ∧ v ≤ 15 := by
  have hb : b.toNat < 256 := b.toNat_lt
  generalize b.toNat = n at *
  unfold impl_hexValue
  by_cases h1 : 48 ≤ n ∧ n ≤ 57
  · rw [bif_true (by simp; omega), u8_ok _ (by omega) (by omega), i64_ok (by omega) (by omega)]
    exact ⟨_, rfl, by omega, by omega⟩
  · rw [bif_false (by rw [Bool.and_eq_false_iff, decide_eq_false_iff_not, decide_eq_false_iff_not]; omega)]
    by_cases h2 : 97 ≤ n ∧ n ≤ 102
    · rw [bif_true (by simp; omega), u8_ok _ (by omega) (by omega), show IntKind.i64.wrap ((n : Int) - 97) = (n : Int) - 97 from i64_ok (by omega) (by omega), i64_ok (by omega) (by omega)]
      exact ⟨_, rfl, by omega, by omega⟩
    · rw [bif_false (by rw [Bool.and_eq_false_iff, decide_eq_false_iff_not, decide_eq_false_iff_not]; omega)]
      exact ⟨_, rfl, by omega, by omega⟩
theorem dec_loop : ∀ (N : Nat) (s : List UInt8) (out : List Int) (i : Nat), s.length ≤ 1048576 → s.length % 2 = 0 → i % 2 = 0 → i ≤ s.length → out.length ≤ i → s.length - i < N →
    ∃ d ok, spec_DecodeHex_l1 N s out (i : Int) = some (d, ok, ()) ∧ impl_DecodeHex_l1 N s out (i : Int) = some (d, ok, ())
  | 0, _, _, _, _, _, _, _, _, h => by omega
  | N + 1, s, out, i, hs, h2, hi2, hi, ho, hN => by
    unfold spec_DecodeHex_l1 impl_DecodeHex_l1
    by_cases h : i < s.length
    · have e : (i : Int).toNat = i := rfl
      have e1 : IntKind.i64.wrap ((i : Int) + 1) = ((i + 1 : Nat) : Int) := i64_succ h (by omega)
      have e2 : ((i + 1 : Nat) : Int).toNat = i + 1 := rfl
      have e3 : IntKind.i64.wrap ((i : Int) + 2) = ((i + 2 : Nat) : Int) := by rw [i64_ok (by omega) (by omega)]; omega
      rw [bif_true (dec_true (by omega)), bif_true (dec_true (by omega)), e1, e2, e3, e, hexVal_eq, hexVal_eq]
      obtain ⟨v, hv, v0, v1⟩ := hexVal_ge (s.getD i 0)
      obtain ⟨u, hu, u0, u1⟩ := hexVal_ge (s.getD (i + 1) 0)
      rw [hv, hu]
      simp only [Option.bind_some]
      have q1 : ∀ (ρ : Type) (m : Option ρ), guardP (0 ≤ (i : Int) ∧ (i : Int) < (s.length : Int)) m = m := fun ρ m => guardP_pos (by omega)
      have q2 : ∀ (ρ : Type) (m : Option ρ), guardP (0 ≤ ((i + 1 : Nat) : Int) ∧ ((i + 1 : Nat) : Int) < (s.length : Int)) m = m := fun ρ m => guardP_pos (by omega)
      have q3 : ∀ (ρ : Type) (x : Int) (m : Option ρ), guardP (out.length + [x].length ≤ capN) m = m := fun ρ x m => guardP_pos (by simp only [List.length_cons, List.length_nil, capN]; omega)
      simp only [q1, q2, q3]
      by_cases hn : v < 0 ∨ u < 0
      · rw [bif_true (by simp; omega), bif_true (by simp; omega)]
        exact ⟨_, _, rfl, rfl⟩
      · rw [bif_false (by simp; omega), bif_false (by simp; omega)]
        exact dec_loop N s _ (i + 2) hs h2 (by omega) (by omega) (by simp only [List.length_append, List.length_cons, List.length_nil]; omega) (by omega)
    · rw [bif_false (dec_false (by omega)), bif_false (dec_false (by omega))]
      exact ⟨_, _, rfl, rfl⟩
theorem decodeHex_eq (s : List UInt8) (h : s.length ≤ 1048576) : ∃ d ok, spec_DecodeHex s = some (d, ok, ()) ∧ impl_DecodeHex s = some (d, ok, ()) := by
  unfold spec_DecodeHex impl_DecodeHex
  rw [guardP_pos (by decide), guardP_pos (by decide)]
  have e : Int.tmod (s.length : Int) 2 = ((s.length % 2 : Nat) : Int) := by rw [Int.tmod_eq_emod_of_nonneg (by omega)]; omega
  rw [e]
  by_cases h1 : s.length % 2 = 1
  · rw [h1, bif_true (by rfl), bif_true (by rfl)]
    exact ⟨_, _, rfl, rfl⟩
  · have h0 : s.length % 2 = 0 := by omega
    rw [h0, bif_false (by rfl), bif_false (by rfl)]
    exact dec_loop _ s [] 0 h h0 (by omega) (by omega) (by simp) (by unfold spec_DecodeHex_l1_fuel; omega)
def okE (x : Int) : Bool := decide (x ≥ 0) && decide (x ≤ 999999)
theorem okE_pos {x : Int} (h : okE x = true) : 0 ≤ x ∧ x ≤ 999999 := by
  unfold okE at h
  simp only [Bool.and_eq_true, decide_eq_true_eq] at h
  exact ⟨h.1, h.2⟩
/-- the two judge an event alike -/
theorem isEvent (e : TEvent) (hl : e.2.2.2.1.length ≤ 1048576) : ∃ b, spec_IsEvent e = some (b, ()) ∧ impl_IsEvent e = some (b, ()) ∧ (b = true → (1 ≤ e.1 ∧ e.1 ≤ 12) ∧ (0 ≤ e.2.1 ∧ e.2.1 ≤ 999999) ∧ (0 ≤ e.2.2.1 ∧ e.2.2.1 ≤ 999999)) := by
  obtain ⟨k, id, n, text, z⟩ := e
  simp only at hl ⊢
  unfold spec_IsEvent impl_IsEvent
  simp only [word_eq]
  by_cases hk : 1 ≤ k ∧ k ≤ 12
  · obtain ⟨d, ok, hd1, hd2⟩ := decodeHex_eq text hl
    have hs : ∀ x, spec_l1In x 0 999999 = some (okE x, ()) := fun _ => rfl
    have hi : ∀ x, impl_within x 0 999999 = some (okE x, ()) := fun _ => rfl
    have hs4 : ∀ x, spec_l1In x 1 400 = some (decide (x ≥ 1) && decide (x ≤ 400), ()) := fun _ => rfl
    have hi4 : ∀ x, impl_within x 1 400 = some (decide (x ≥ 1) && decide (x ≤ 400), ()) := fun _ => rfl
    have := hk
    have : k = 1 ∨ k = 2 ∨ k = 3 ∨ k = 4 ∨ k = 5 ∨ k = 6 ∨ k = 7 ∨ k = 8 ∨ k = 9 ∨ k = 10 ∨ k = 11 ∨ k = 12 := by omega
    have key : ∀ b1 b2 : Option (Bool × Unit), (∃ b, b1 = some (b, ()) ∧ b2 = some (b, ()) ∧ (b = true → okE id = true ∧ okE n = true)) → ∃ b, b1 = some (b, ()) ∧ b2 = some (b, ()) ∧ (b = true → (1 ≤ k ∧ k ≤ 12) ∧ (0 ≤ id ∧ id ≤ 999999) ∧ (0 ≤ n ∧ n ≤ 999999)) :=
      fun b1 b2 ⟨b, g1, g2, g3⟩ => ⟨b, g1, g2, fun h => ⟨hk, okE_pos (g3 h).1, okE_pos (g3 h).2⟩⟩
    apply key
    have hne : ((bif decide (1 ≤ k) && decide (k ≤ 12) then wordsL.getD k.toNat [] else []) == ([] : List UInt8)) = false := by
      rcases this with rfl | rfl | rfl | rfl | rfl | rfl | rfl | rfl | rfl | rfl | rfl | rfl <;> rfl
    have e1 : decide ((0 : Int) = id) = (id == 0) := by rw [Bool.eq_iff_iff]; simp only [decide_eq_true_eq, beq_iff_eq]; exact ⟨Eq.symm, Eq.symm⟩
    have e2 : decide ((0 : Int) = n) = (n == 0) := by rw [Bool.eq_iff_iff]; simp only [decide_eq_true_eq, beq_iff_eq]; exact ⟨Eq.symm, Eq.symm⟩
    have e3 : (([] : List UInt8) == text) = (text == []) := by rw [Bool.eq_iff_iff]; simp only [beq_iff_eq]; exact ⟨Eq.symm, Eq.symm⟩
    rcases this with rfl | rfl | rfl | rfl | rfl | rfl | rfl | rfl | rfl | rfl | rfl | rfl
    all_goals
      simp only [impl_EventWord, impl_uses, impl_uses_j1, impl_uses_j2, impl_uses_j3, spec_l23Form, spec_l23Form_j1, spec_l23Form_j2, spec_l23Form_j3, impl_isText, Int.reduceBEq, cond_true, cond_false, Option.bind_some, hs, hi, letters_spec text hl, print_spec text hl, bytes_impl text _ _ hl, hd1, hd2, hs4, hi4]
      simp only [eqV, hne, e1, e2, e3, eq_self, decide_true, beq_self_eq_true, Bool.true_and, Bool.and_true, Bool.not_false, cond_true, cond_false, Option.bind_some, Bool.false_or]
      generalize (id == (0 : Int)) = b1
      generalize (n == (0 : Int)) = b2
      generalize (text == ([] : List UInt8)) = b3
      generalize okE id = b4
      generalize okE n = b5
      generalize (text == ([98, 105, 100, 105] : List UInt8) || text == ([117, 110, 105] : List UInt8)) = c1
      generalize (text.all (inB 97 122) && len40 text) = c2
      generalize (text.all (inB 32 126) && len40 text) = c3
      generalize (decide ((d.length : Int) ≥ 1) && decide ((d.length : Int) ≤ 400)) = c4
      cases b1 <;> cases b2 <;> cases b3 <;> cases b4 <;> cases b5 <;> first | exact ⟨_, rfl, rfl, fun h => by first | exact ⟨rfl, rfl⟩ | cases h⟩ | (cases c1 <;> exact ⟨_, rfl, rfl, fun h => by first | exact ⟨rfl, rfl⟩ | cases h⟩) | (cases c2 <;> exact ⟨_, rfl, rfl, fun h => by first | exact ⟨rfl, rfl⟩ | cases h⟩) | (cases c3 <;> exact ⟨_, rfl, rfl, fun h => by first | exact ⟨rfl, rfl⟩ | cases h⟩) | (cases c4 <;> cases ok <;> exact ⟨_, rfl, rfl, fun h => by first | exact ⟨rfl, rfl⟩ | cases h⟩)
  · have e2 : (decide (1 ≤ k) && decide (k ≤ 12)) = false := by rw [Bool.and_eq_false_iff, decide_eq_false_iff_not, decide_eq_false_iff_not]; omega
    have hu : ∃ a b c, impl_uses k = some (a, b, c, ()) := by
      unfold impl_uses impl_uses_j1 impl_uses_j2 impl_uses_j3
      cases k == 1 <;> cases k == 11 <;> cases k == 2 <;> cases k == 7 <;> cases k == 3 <;> cases k == 4 <;> cases k == 5 <;> cases k == 6 <;> exact ⟨_, _, _, rfl⟩
    obtain ⟨a, b, c, hu⟩ := hu
    simp only [impl_EventWord, e2, hu, cond_false, Option.bind_some]
    exact ⟨false, rfl, rfl, fun h => by cases h⟩
theorem event_text (e : TEvent) (hl : e.2.2.2.1.length ≤ 1048576) : ∃ r, spec_FormatEvent e = some (r, ()) ∧ impl_FormatEvent e = some (r, ()) ∧ r.length ≤ 1049000 := by
  obtain ⟨b, h1, h2, h3⟩ := isEvent e hl
  unfold spec_FormatEvent impl_FormatEvent
  simp only [h1, h2, Option.bind_some, word_eq]
  cases b
  · exact ⟨[], rfl, rfl, by simp⟩
  · obtain ⟨hk, hid, hn⟩ := h3 rfl
    obtain ⟨k, id, n, text, z⟩ := e
    simp only at hl hk hid hn ⊢
    have s1 := fmtInt id (by omega) (by omega)
    have i1 := implInt id (by omega) (by omega)
    have l1 := itoa_len id (by omega) (by omega)
    have s2 := fmtInt n (by omega) (by omega)
    have i2 := implInt n (by omega) (by omega)
    have l2 := itoa_len n (by omega) (by omega)
    generalize Go.Lib.itoa id = a at *
    generalize Go.Lib.itoa n = c at *
    have hw : ∃ w, impl_EventWord k = some (w, ()) ∧ w.length ≤ 20 := by
      have : k = 1 ∨ k = 2 ∨ k = 3 ∨ k = 4 ∨ k = 5 ∨ k = 6 ∨ k = 7 ∨ k = 8 ∨ k = 9 ∨ k = 10 ∨ k = 11 ∨ k = 12 := by omega
      rcases this with rfl | rfl | rfl | rfl | rfl | rfl | rfl | rfl | rfl | rfl | rfl | rfl <;> exact ⟨_, rfl, by decide⟩
    obtain ⟨w, hw, hwl⟩ := hw
    simp only [hw]
    have : k = 1 ∨ k = 2 ∨ k = 3 ∨ k = 4 ∨ k = 5 ∨ k = 6 ∨ k = 7 ∨ k = 8 ∨ k = 9 ∨ k = 10 ∨ k = 11 ∨ k = 12 := by omega
    rcases this with rfl | rfl | rfl | rfl | rfl | rfl | rfl | rfl | rfl | rfl | rfl | rfl
    all_goals
      simp only [impl_uses, impl_uses_j1, impl_uses_j2, impl_uses_j3, spec_FormatEvent_j1, spec_FormatEvent_j2, spec_FormatEvent_j3, impl_FormatEvent_j1, impl_FormatEvent_j2, Int.reduceBEq, Bool.not_true, cond_true, cond_false, Option.bind_some, s1, s2, i1, i2]
      repeat rw [guardP_pos (by simp only [List.length_append, List.length_cons, List.length_nil, capS]; omega)]
      refine ⟨_, rfl, ?_, ?_⟩
      · simp
      · simp only [List.length_append, List.length_cons, List.length_nil]; omega
noncomputable def etxt (f : TEvent) : List UInt8 := match spec_FormatEvent f with | some (r, _) => r | none => []
theorem etxt_spec (f : TEvent) (h : f.2.2.2.1.length ≤ 1048576) : spec_FormatEvent f = some (etxt f, ()) ∧ impl_FormatEvent f = some (etxt f, ()) ∧ (etxt f).length ≤ 1049000 := by
  obtain ⟨r, h1, h2, h3⟩ := event_text f h
  have e : etxt f = r := by unfold etxt; rw [h1]
  rw [e]
  exact ⟨h1, h2, h3⟩
/-! events out of texts -/
noncomputable def evOK (e : TEvent) : Bool := match spec_IsEvent e with | some (b, _) => b | none => false
theorem evOK_spec (e : TEvent) (hl : e.2.2.2.1.length ≤ 1048576) : spec_IsEvent e = some (evOK e, ()) ∧ impl_IsEvent e = some (evOK e, ()) ∧ (evOK e = true → (1 ≤ e.1 ∧ e.1 ≤ 12) ∧ (0 ≤ e.2.1 ∧ e.2.1 ≤ 999999) ∧ (0 ≤ e.2.2.1 ∧ e.2.2.1 ≤ 999999)) := by
  obtain ⟨b, h1, h2, h3⟩ := isEvent e hl
  have e : evOK e = b := by unfold evOK; rw [h1]
  rw [e]
  exact ⟨h1, h2, h3⟩
def wordE (k : Int) : List UInt8 := bif decide (1 ≤ k) && decide (k ≤ 12) then wordsL.getD k.toNat [] else []
def formE (e : TEvent) : TEvent :=
  if e.1 = 1 ∨ e.1 = 11 then (e.1, 0, 0, e.2.2.2.1, ())
  else if e.1 = 2 ∨ e.1 = 7 then (e.1, e.2.1, 0, e.2.2.2.1, ())
  else if e.1 = 3 then (e.1, e.2.1, 0, [], ())
  else if e.1 = 4 ∨ e.1 = 5 ∨ e.1 = 6 then (e.1, e.2.1, e.2.2.1, [], ())
  else (e.1, 0, e.2.2.1, [], ())
def bodyE (e : TEvent) : List UInt8 :=
  if e.1 = 1 ∨ e.1 = 11 then e.2.2.2.1
  else if e.1 = 2 ∨ e.1 = 7 then Go.Lib.itoa e.2.1 ++ 32 :: e.2.2.2.1
  else if e.1 = 3 then Go.Lib.itoa e.2.1
  else if e.1 = 4 ∨ e.1 = 5 ∨ e.1 = 6 then Go.Lib.itoa e.2.1 ++ 32 :: Go.Lib.itoa e.2.2.1
  else Go.Lib.itoa e.2.2.1
theorem form_spec (e : TEvent) : spec_l23Form e = some (formE e, ()) := by
  obtain ⟨k, id, n, text, z⟩ := e
  unfold spec_l23Form spec_l23Form_j1 spec_l23Form_j2 spec_l23Form_j3 formE
  simp only
  by_cases h1 : k = 1
  · subst h1; rfl
  by_cases h11 : k = 11
  · subst h11; rfl
  by_cases h2 : k = 2
  · subst h2; rfl
  by_cases h7 : k = 7
  · subst h7; rfl
  by_cases h3 : k = 3
  · subst h3; rfl
  by_cases h4 : k = 4
  · subst h4; rfl
  by_cases h5 : k = 5
  · subst h5; rfl
  by_cases h6 : k = 6
  · subst h6; rfl
  have nb : ∀ c : Int, k ≠ c → (k == c) = false := fun c h => by simp [h]
  simp [nb _ h1, nb _ h11, nb _ h2, nb _ h7, nb _ h3, nb _ h4, nb _ h5, nb _ h6, h1, h11, h2, h7, h3, h4, h5, h6]
theorem evOK_form {e : TEvent} (hl : e.2.2.2.1.length ≤ 1048576) (h : evOK e = true) : formE e = e := by
  have h1 := (evOK_spec e hl).1
  unfold spec_IsEvent at h1
  rw [word_eq, form_spec, h] at h1
  cases hc : eqV tyEvent (formE e) e with
  | true =>
    obtain ⟨k, id, n, text, z⟩ := e
    generalize hf : formE (k, id, n, text, z) = f at hc
    obtain ⟨k', id', n', text', z'⟩ := f
    simp [eqV] at hc
    obtain ⟨rfl, rfl, rfl, rfl⟩ := hc
    rfl
  | false =>
    rw [show impl_EventWord e.1 = some (wordE e.1, ()) from rfl] at h1
    simp only [Option.bind_some] at h1
    exfalso
    cases hw : wordE e.1 == ([] : List UInt8) <;> simp [hw, hc] at h1
theorem etxt_no {e : TEvent} (hl : e.2.2.2.1.length ≤ 1048576) (h : evOK e = false) : etxt e = [] := by
  have := (etxt_spec e hl).1
  unfold spec_FormatEvent at this
  rw [(evOK_spec e hl).1, h] at this
  simpa using this.symm
theorem wordE_ne {k : Int} (h : 1 ≤ k ∧ k ≤ 12) : wordE k ≠ [] ∧ (32 : UInt8) ∉ wordE k ∧ (10 : UInt8) ∉ wordE k ∧ (wordE k).length ≤ 20 := by
  have : k = 1 ∨ k = 2 ∨ k = 3 ∨ k = 4 ∨ k = 5 ∨ k = 6 ∨ k = 7 ∨ k = 8 ∨ k = 9 ∨ k = 10 ∨ k = 11 ∨ k = 12 := by omega
  rcases this with rfl | rfl | rfl | rfl | rfl | rfl | rfl | rfl | rfl | rfl | rfl | rfl <;> decide
theorem etxt_yes {e : TEvent} (hl : e.2.2.2.1.length ≤ 1048576) (h : evOK e = true) : etxt e = wordE e.1 ++ 32 :: bodyE e := by
  have hs := (etxt_spec e hl).1
  obtain ⟨h1, -, h3⟩ := evOK_spec e hl
  obtain ⟨hk, hid, hn⟩ := h3 h
  unfold spec_FormatEvent at hs
  rw [h1, h, word_eq, show impl_EventWord e.1 = some (wordE e.1, ()) from rfl] at hs
  obtain ⟨k, id, n, text, z⟩ := e
  simp only [Bool.not_true, cond_false, Option.bind_some] at hs hl hk hid hn ⊢
  have s1 := fmtInt id (by omega) (by omega)
  have l1 := itoa_len id (by omega) (by omega)
  have s2 := fmtInt n (by omega) (by omega)
  have l2 := itoa_len n (by omega) (by omega)
  have hw := (wordE_ne hk).2.2.2
  unfold bodyE
  unfold spec_FormatEvent_j1 spec_FormatEvent_j2 spec_FormatEvent_j3 at hs
  simp only [s1, s2, Option.bind_some] at hs
  simp only
  generalize wordE k = w at *
  generalize Go.Lib.itoa id = a at *
  generalize Go.Lib.itoa n = c at *
  have g : ∀ (x y : List UInt8) (m : Option (List UInt8 × Unit)), x.length + y.length ≤ 2000000 → guardP (x.length + y.length ≤ capS) m = m := fun x y m hxy => guardP_pos (by unfold capS; omega)
  have : k = 1 ∨ k = 2 ∨ k = 3 ∨ k = 4 ∨ k = 5 ∨ k = 6 ∨ k = 7 ∨ k = 8 ∨ k = 9 ∨ k = 10 ∨ k = 11 ∨ k = 12 := by omega
  rcases this with rfl | rfl | rfl | rfl | rfl | rfl | rfl | rfl | rfl | rfl | rfl | rfl
  all_goals
    simp only [Int.reduceBEq, cond_true, cond_false] at hs
    repeat (rw [g _ _ _ (by simp only [List.length_append, List.length_cons, List.length_nil]; omega)] at hs)
    simp only [Option.some.injEq, Prod.mk.injEq, and_true] at hs
    rw [← hs]
    simp
open Classical in
noncomputable def pin (s : List UInt8) : Option Int := if h : ∃ n : Int, -999999999 ≤ n ∧ n ≤ 999999999 ∧ s = Go.Lib.itoa n then some h.choose else none
theorem pin_some {s : List UInt8} {n : Int} (h : pin s = some n) : -999999999 ≤ n ∧ n ≤ 999999999 ∧ s = Go.Lib.itoa n := by
  unfold pin at h
  split at h
  · rename_i hh
    have := hh.choose_spec
    simp only [Option.some.injEq] at h
    rw [h] at this; exact this
  · cases h
theorem pin_itoa {n : Int} (h0 : -999999999 ≤ n) (h1 : n ≤ 999999999) : pin (Go.Lib.itoa n) = some n := by
  unfold pin
  have hh : ∃ m : Int, -999999999 ≤ m ∧ m ≤ 999999999 ∧ Go.Lib.itoa n = Go.Lib.itoa m := ⟨n, h0, h1, rfl⟩
  rw [dif_pos hh]
  congr 1
  exact (itoa_inj hh.choose_spec.2.2).symm
theorem pintN (s : List UInt8) (hs : s.length ≤ 1048576) : spec_ParseInt s = some ((pin s).getD 0, (pin s).isSome, ()) ∧ impl_ParseInt s = some ((pin s).getD 0, (pin s).isSome, ()) := by
  rcases pint s hs with ⟨n, h0, h1, e, h2, h3⟩ | ⟨hn, h2, h3⟩
  · have : pin s = some n := by rw [e]; exact pin_itoa h0 h1
    rw [this]; exact ⟨h2, h3⟩
  · have : pin s = none := by
      cases h : pin s with
      | none => rfl
      | some n => obtain ⟨a, b, c⟩ := pin_some h; exact absurd c (hn n a b)
    rw [this]; exact ⟨h2, h3⟩
noncomputable def numN (s : List UInt8) : Int := (pin s).getD (-1)
theorem l23num (s : List UInt8) (hs : s.length ≤ 1048576) : spec_l23Num s = some (numN s, ()) := by
  unfold spec_l23Num numN
  rw [(pintN s hs).1]
  cases pin s <;> rfl
theorem word_loop : ∀ (N : Nat) (pre rest : List UInt8), (pre ++ rest).length ≤ 1048576 → rest.length < N → (32 : UInt8) ∉ pre →
    spec_l23Word_l1 N (pre ++ rest) (pre.length : Int) = some ((cutC 32 (pre ++ rest)).1, (cutC 32 (pre ++ rest)).2.1, ())
  | 0, _, _, _, h, _ => by omega
  | N + 1, pre, [], h1, h2, h3 => by
    unfold spec_l23Word_l1
    rw [bif_false (by simp)]
    rw [List.append_nil, cutC_one 32 pre h3]
  | N + 1, pre, b :: rest, h1, h2, h3 => by
    unfold spec_l23Word_l1
    simp only [List.length_append, List.length_cons] at h1 h2
    rw [bif_true (by simp; omega), guardP_pos (by simp; omega)]
    simp only [getD_app]
    have e := app_one pre b rest
    by_cases hb : b = 32
    · subst hb
      rw [bif_true (by rfl)]
      have e1 : IntKind.i64.wrap ((pre.length : Int) + 1) = ((pre.length + 1 : Nat) : Int) := i64_succ (m := 1048576) (by omega) (by omega)
      have hl : ((pre ++ 32 :: rest).length : Int) = (pre.length : Int) + rest.length + 1 := by simp; omega
      rw [e1, guardP_pos (by simp; omega), guardP_pos (by simp; omega), guardP_pos (by simp; omega), guardP_pos (by simp; omega), bothK_self, cutC_at 32 pre rest h3]
      have t1 : ((pre ++ 32 :: rest).drop (0 : Int).toNat).take ((pre.length : Int).toNat - (0 : Int).toNat) = pre := by simp
      have t2 : ((pre ++ 32 :: rest).drop ((pre.length + 1 : Nat) : Int).toNat).take ((((pre ++ 32 :: rest).length : Nat) : Int).toNat - ((pre.length + 1 : Nat) : Int).toNat) = rest := by
        rw [List.take_of_length_le]
        · simp
        · simp; omega
      rw [t1, t2]
    · have hne : ((b.toNat : Int) == (32 : Int)) = false := by
        rw [beq_eq_false_iff_ne]
        intro e'
        have e2 : b.toNat = 32 := by omega
        exact hb (UInt8.toNat_inj.1 e2)
      rw [bif_false hne, i64_succ (m := (pre ++ b :: rest).length) (by simp) (by simp; omega)]
      have := word_loop N (pre ++ [b]) rest (by simp; omega) (by omega) (by simp [h3, Ne.symm hb])
      rw [← e] at this
      simp only [List.length_append, List.length_cons, List.length_nil, Nat.zero_add] at this ⊢
      exact this
theorem l23word (s : List UInt8) (hs : s.length ≤ 1048576) : spec_l23Word s = some ((cutC 32 s).1, (cutC 32 s).2.1, ()) := by
  have := word_loop (spec_l23Word_l1_fuel s 0) [] s (by simpa using hs) (by unfold spec_l23Word_l1_fuel; omega) (by simp)
  unfold spec_l23Word
  simpa using this
def kfE : Nat → List UInt8 → Int → Int
  | 0, _, c => c
  | m + 1, w, c => kfE m w (if wordE (13 - (m + 1 : Nat)) = w then 13 - (m + 1 : Nat) else c)
def kindE (w : List UInt8) : Int := kfE 12 w 0
theorem kindE_word {k : Int} (h : 1 ≤ k ∧ k ≤ 12) : kindE (wordE k) = k := by
  have : k = 1 ∨ k = 2 ∨ k = 3 ∨ k = 4 ∨ k = 5 ∨ k = 6 ∨ k = 7 ∨ k = 8 ∨ k = 9 ∨ k = 10 ∨ k = 11 ∨ k = 12 := by omega
  rcases this with rfl | rfl | rfl | rfl | rfl | rfl | rfl | rfl | rfl | rfl | rfl | rfl <;> decide
def zE : TEvent := ((0 : Int), ((0 : Int), ((0 : Int), (([] : List UInt8), ()))))
noncomputable def chkE (s : List UInt8) (e : TEvent) : TEvent × Bool × Unit := if s ≠ [] ∧ etxt e = s then (e, true, ()) else (zE, false, ())
theorem j2E (s : List UInt8) (t2 e : TEvent) (hl : e.2.2.2.1.length ≤ 1048576) : spec_ParseEvent_j2 s t2 e = some (chkE s e) := by
  unfold spec_ParseEvent_j2 chkE
  rw [(etxt_spec e hl).1, Option.bind_some]
  generalize etxt e = t
  by_cases h : s ≠ [] ∧ t = s
  · rw [if_pos h, bif_false (by simp [h.1, h.2])]
  · rw [if_neg h, bif_true (by
      simp only [Bool.or_eq_true, Bool.not_eq_true', beq_eq_false_iff_ne, beq_iff_eq]
      by_cases h1 : s = []
      · exact .inr h1
      · exact .inl fun e => h ⟨h1, e⟩)]
    rfl
theorem j2EI (s : List UInt8) (t2 e : TEvent) (hl : e.2.2.2.1.length ≤ 1048576) : impl_ParseEvent_j2 s t2 e = some (chkE s e) := by
  unfold impl_ParseEvent_j2 chkE
  rw [(evOK_spec e hl).2.1, Option.bind_some]
  cases hok : evOK e
  · have := etxt_no hl hok
    rw [if_neg (by rw [this]; exact fun h => h.1 h.2.symm)]
    rfl
  · have ht := etxt_yes hl hok
    simp only [Bool.not_true, cond_false, Bool.false_or]
    rw [(etxt_spec e hl).2.1, Option.bind_some]
    by_cases h : s ≠ [] ∧ etxt e = s
    · rw [if_pos h, bif_false (by simp [h.2])]
    · rw [if_neg h, bif_true (by
        simp only [Bool.not_eq_true', beq_eq_false_iff_ne]
        intro e1
        refine h ⟨?_, e1⟩
        rw [← e1, ht]
        simp)]
      rfl
/-- the event that the reference reads -/
noncomputable def eS (s : List UInt8) : TEvent :=
  let k := kindE (cutC 32 s).1
  let r := (cutC 32 s).2.1
  let a := (cutC 32 r).1
  let b := (cutC 32 r).2.1
  if k = 1 ∨ k = 11 then (k, 0, 0, r, ())
  else if k = 2 ∨ k = 7 then (k, numN a, 0, b, ())
  else if k = 3 then (k, numN r, 0, [], ())
  else if k = 4 ∨ k = 5 ∨ k = 6 then (k, numN a, numN b, [], ())
  else (k, 0, numN r, [], ())
theorem spec_tail (s r : List UInt8) (t2 : TEvent) (k : Int) (hs : r.length ≤ 1048576) (N : Nat) (w : List UInt8) :
    spec_ParseEvent_l1 (N + 1) s t2 w r (k, 0, 0, [], ()) 13 = some (chkE s
      (let a := (cutC 32 r).1
       let b := (cutC 32 r).2.1
       if k = 1 ∨ k = 11 then (k, 0, 0, r, ())
       else if k = 2 ∨ k = 7 then (k, numN a, 0, b, ())
       else if k = 3 then (k, numN r, 0, [], ())
       else if k = 4 ∨ k = 5 ∨ k = 6 then (k, numN a, numN b, [], ())
       else (k, 0, numN r, [], ()))) := by
  obtain ⟨c1, c2⟩ := cutC_len 32 r
  have n1 := l23num r hs
  have n2 := l23num (cutC 32 r).1 (by omega)
  have n3 := l23num (cutC 32 r).2.1 (by omega)
  unfold spec_ParseEvent_l1
  rw [bif_false (by decide), l23word r hs, Option.bind_some]
  generalize (cutC 32 r).1 = a at *
  generalize (cutC 32 r).2.1 = b at *
  unfold spec_ParseEvent_j3 spec_ParseEvent_j4 spec_ParseEvent_j5
  simp only [n1, n2, n3, Option.bind_some]
  by_cases h1 : k = 1
  · subst h1; exact j2E _ zE _ (by simpa using hs)
  by_cases h11 : k = 11
  · subst h11; exact j2E _ zE _ (by simpa using hs)
  by_cases h2 : k = 2
  · subst h2; exact j2E _ zE _ (by simp only; omega)
  by_cases h7 : k = 7
  · subst h7; exact j2E _ zE _ (by simp only; omega)
  by_cases h3 : k = 3
  · subst h3; exact j2E _ zE _ (by simp)
  by_cases h4 : k = 4
  · subst h4; exact j2E _ zE _ (by simp)
  by_cases h5 : k = 5
  · subst h5; exact j2E _ zE _ (by simp)
  by_cases h6 : k = 6
  · subst h6; exact j2E _ zE _ (by simp)
  have nb : ∀ c : Int, k ≠ c → (k == c) = false := fun c h => by simp [h]
  simp only [nb _ h1, nb _ h11, nb _ h2, nb _ h7, nb _ h3, nb _ h4, nb _ h5, nb _ h6, h1, h11, h2, h7, h3, h4, h5, h6, or_self, if_false, cond_false]
  exact j2E _ zE _ (by simp)
theorem pe_loop (s r : List UInt8) (t2 : TEvent) (w : List UInt8) : ∀ (m N : Nat) (c : Int), m < N → m ≤ 12 →
    spec_ParseEvent_l1 N s t2 w r (c, 0, 0, [], ()) ((13 - m : Nat) : Int) = spec_ParseEvent_l1 (N - m) s t2 w r (kfE m w c, 0, 0, [], ()) 13
  | 0, N, c, _, _ => by rfl
  | m + 1, 0, _, h, _ => by omega
  | m + 1, N + 1, c, h, h2 => by
    conv => lhs; unfold spec_ParseEvent_l1
    rw [bif_true (dec_true (by omega)), word_eq, show impl_EventWord ((13 - (m + 1) : Nat) : Int) = some (wordE ((13 - (m + 1) : Nat) : Int), ()) from rfl, Option.bind_some]
    simp only [spec_ParseEvent_j1]
    have ek : ((13 - (m + 1) : Nat) : Int) = 13 - (m + 1 : Nat) := by omega
    rw [i64_ok (by omega) (by omega), show ((13 - (m + 1) : Nat) : Int) + 1 = ((13 - m : Nat) : Int) by omega, show N + 1 - (m + 1) = N - m by omega]
    simp only [kfE]
    rw [ek]
    by_cases hc : wordE (13 - (m + 1 : Nat)) = w
    · rw [bif_true (by simpa using hc), if_pos hc]
      exact pe_loop s r t2 w m N _ (by omega) (by omega)
    · rw [bif_false (by simpa using hc), if_neg hc]
      exact pe_loop s r t2 w m N _ (by omega) (by omega)
theorem spec_pe (s : List UInt8) (hs : s.length ≤ 1048576) : spec_ParseEvent s = some (chkE s (eS s)) := by
  obtain ⟨c1, c2⟩ := cutC_len 32 s
  unfold spec_ParseEvent
  rw [l23word s hs, Option.bind_some]
  have := pe_loop s (cutC 32 s).2.1 zE (cutC 32 s).1 12 13 0 (by omega) (by omega)
  refine Eq.trans this ?_
  exact spec_tail s (cutC 32 s).2.1 zE _ (by omega) 0 (cutC 32 s).1
noncomputable def stepE {β : Type} (use : Bool) (r : List UInt8) (K : Int → List UInt8 → Option β) : Option β :=
  if use then (match pin (cutC 32 r).1 with | none => none | some n => K n (cutC 32 r).2.1) else K 0 r
def usesE (k : Int) : Bool × Bool × Bool :=
  if k = 1 ∨ k = 11 then (false, false, true)
  else if k = 2 ∨ k = 7 then (true, false, true)
  else if k = 3 then (true, false, false)
  else if k = 4 ∨ k = 5 ∨ k = 6 then (true, true, false)
  else (false, true, false)
theorem uses_eq (k : Int) : impl_uses k = some ((usesE k).1, (usesE k).2.1, (usesE k).2.2, ()) := by
  unfold impl_uses impl_uses_j1 impl_uses_j2 impl_uses_j3 usesE
  by_cases h1 : k = 1
  · subst h1; rfl
  by_cases h11 : k = 11
  · subst h11; rfl
  by_cases h2 : k = 2
  · subst h2; rfl
  by_cases h7 : k = 7
  · subst h7; rfl
  by_cases h3 : k = 3
  · subst h3; rfl
  by_cases h4 : k = 4
  · subst h4; rfl
  by_cases h5 : k = 5
  · subst h5; rfl
  by_cases h6 : k = 6
  · subst h6; rfl
  have nb : ∀ c : Int, k ≠ c → (k == c) = false := fun c h => by simp [h]
  simp [nb _ h1, nb _ h11, nb _ h2, nb _ h7, nb _ h3, nb _ h4, nb _ h5, nb _ h6, h1, h11, h2, h7, h3, h4, h5, h6]
/-- the event that the implementation reads, where it comes so far -/
noncomputable def eI (s : List UInt8) : Option TEvent :=
  let k := kindE (cutC 32 s).1
  let u := usesE k
  stepE u.1 (cutC 32 s).2.1 fun id r => stepE u.2.1 r fun n r => some (k, id, n, (if u.2.2 then r else []), ())
noncomputable def resE (s : List UInt8) (o : Option TEvent) : TEvent × Bool × Unit := match o with
  | none => (zE, false, ())
  | some f => chkE s f
theorem cut1 (r : List UInt8) (h : r.length ≤ 1048576) : strings_Cut r [32] = some ((cutC 32 r).1, (cutC 32 r).2.1, (cutC 32 r).2.2, ()) := by
  unfold strings_Cut
  rw [cut_eq, guardP_pos (by omega)]
theorem impl_tail (s r : List UInt8) (t2 : TEvent) (k : Int) (hs : r.length ≤ 1048576) (N : Nat) (w : List UInt8) :
    impl_ParseEvent_l1 (N + 1) s t2 w r (k, 0, 0, [], ()) 13 = some (resE s (stepE (usesE k).1 r fun id r => stepE (usesE k).2.1 r fun n r => some (k, id, n, (if (usesE k).2.2 then r else []), ()))) := by
  obtain ⟨c1, c2⟩ := cutC_len 32 r
  obtain ⟨c3, c4⟩ := cutC_len 32 (cutC 32 r).2.1
  have n2 := (pintN (cutC 32 r).1 (by omega)).2
  have n3 := (pintN (cutC 32 (cutC 32 r).2.1).1 (by omega)).2
  unfold impl_ParseEvent_l1
  rw [bif_false (by decide)]
  simp only [uses_eq, Option.bind_some, cut1 r hs, cut1 (cutC 32 r).2.1 (by omega), n2, n3]
  generalize usesE k = u
  obtain ⟨ui, un, ut⟩ := u
  unfold stepE
  have e1 : ∀ (x y : Option (TEvent × Bool × Unit)), (bif (true && !ui) || (false && !un) then x else y) = bif ui then y else x := fun x y => by cases ui <;> rfl
  have e2 : ∀ (x y : Option (TEvent × Bool × Unit)), (bif (false && !ui) || (true && !un) then x else y) = bif un then y else x := fun x y => by cases un <;> rfl
  simp only [e1, e2]
  cases ui
  · cases un
    · cases ut
      · exact j2EI _ zE _ (by simp)
      · exact j2EI _ zE _ (by simpa using hs)
    · simp only [cond_false, cond_true, if_true, Bool.false_eq_true, if_false]
      cases pin (cutC 32 r).1 with
      | none => rfl
      | some n =>
        cases ut
        · exact j2EI _ zE _ (by simp)
        · exact j2EI _ zE _ (by simp only; omega)
  · simp only [cond_true, if_true]
    cases pin (cutC 32 r).1 with
    | none => rfl
    | some n =>
      cases un
      · cases ut
        · exact j2EI _ zE _ (by simp)
        · exact j2EI _ zE _ (by simp only; omega)
      · simp only [cond_true, if_true, Option.isSome_some, Bool.not_true, cond_false]
        cases pin (cutC 32 (cutC 32 r).2.1).1 with
        | none => rfl
        | some m =>
          cases ut
          · exact j2EI _ zE _ (by simp)
          · exact j2EI _ zE _ (by simp only; omega)
theorem pei_loop (s r : List UInt8) (t2 : TEvent) (w : List UInt8) : ∀ (m N : Nat) (c : Int), m < N → m ≤ 12 →
    impl_ParseEvent_l1 N s t2 w r (c, 0, 0, [], ()) ((13 - m : Nat) : Int) = impl_ParseEvent_l1 (N - m) s t2 w r (kfE m w c, 0, 0, [], ()) 13
  | 0, N, c, _, _ => by rfl
  | m + 1, 0, _, h, _ => by omega
  | m + 1, N + 1, c, h, h2 => by
    conv => lhs; unfold impl_ParseEvent_l1
    rw [bif_true (dec_true (by omega)), show impl_EventWord ((13 - (m + 1) : Nat) : Int) = some (wordE ((13 - (m + 1) : Nat) : Int), ()) from rfl, Option.bind_some]
    simp only [impl_ParseEvent_j1]
    have ek : ((13 - (m + 1) : Nat) : Int) = 13 - (m + 1 : Nat) := by omega
    rw [i64_ok (by omega) (by omega), show ((13 - (m + 1) : Nat) : Int) + 1 = ((13 - m : Nat) : Int) by omega, show N + 1 - (m + 1) = N - m by omega]
    simp only [kfE]
    rw [ek]
    by_cases hc : wordE (13 - (m + 1 : Nat)) = w
    · rw [bif_true (by simpa using hc), if_pos hc]
      exact pei_loop s r t2 w m N _ (by omega) (by omega)
    · rw [bif_false (by simpa using hc), if_neg hc]
      exact pei_loop s r t2 w m N _ (by omega) (by omega)
theorem impl_pe (s : List UInt8) (hs : s.length ≤ 1048576) : impl_ParseEvent s = some (resE s (eI s)) := by
  obtain ⟨c1, c2⟩ := cutC_len 32 s
  unfold impl_ParseEvent
  rw [cut1 s hs, Option.bind_some]
  have := pei_loop s (cutC 32 s).2.1 zE (cutC 32 s).1 12 13 0 (by omega) (by omega)
  refine Eq.trans this ?_
  exact impl_tail s (cutC 32 s).2.1 zE _ (by omega) 0 (cutC 32 s).1
theorem parse_etxt {e : TEvent} (hl : e.2.2.2.1.length ≤ 1048576) (h : evOK e = true) : eS (etxt e) = e ∧ eI (etxt e) = some e ∧ etxt e ≠ [] := by
  have hf := evOK_form hl h
  have ht := etxt_yes hl h
  obtain ⟨hk, hid, hn⟩ := (evOK_spec e hl).2.2 h
  rw [ht]
  obtain ⟨hw1, hw2, -, -⟩ := wordE_ne hk
  refine ⟨?_, ?_, by simp⟩
  all_goals
    obtain ⟨k, id, n, text, z⟩ := e
    simp only at hk hid hn hw1 hw2
    have p1 := pin_itoa (n := id) (by omega) (by omega)
    have p2 := pin_itoa (n := n) (by omega) (by omega)
    have i1 := itoa_nosp 32 (.inl rfl) id
    have i2 := itoa_nosp 32 (.inl rfl) n
    unfold formE at hf
    unfold bodyE
    simp only at hf
    first | unfold eS | unfold eI
    simp only [cutC_at 32 _ _ hw2, kindE_word hk]
    have hc : k = 1 ∨ k = 2 ∨ k = 3 ∨ k = 4 ∨ k = 5 ∨ k = 6 ∨ k = 7 ∨ k = 8 ∨ k = 9 ∨ k = 10 ∨ k = 11 ∨ k = 12 := by omega
    rcases hc with rfl | rfl | rfl | rfl | rfl | rfl | rfl | rfl | rfl | rfl | rfl | rfl
    all_goals
      simp at hf
      simp [hf, usesE, stepE, numN, p1, p2, cutC_at 32 _ _ i1, cutC_one 32 _ i1, cutC_one 32 _ i2] <;> omega
theorem stepE_some {β : Type} {use : Bool} {r : List UInt8} {K : Int → List UInt8 → Option β} {e : β} (h : stepE use r K = some e) : ∃ n r', r'.length ≤ r.length ∧ K n r' = some e := by
  have := (cutC_len 32 r).2
  unfold stepE at h
  split at h
  · split at h
    · cases h
    · exact ⟨_, _, this, h⟩
  · exact ⟨_, _, Nat.le_refl _, h⟩
theorem pe_same (s : List UInt8) (hs : s.length ≤ 1048576) : resE s (eI s) = chkE s (eS s) := by
  have lS : (eS s).2.2.2.1.length ≤ 1048576 := by
    obtain ⟨c1, c2⟩ := cutC_len 32 s
    obtain ⟨c3, c4⟩ := cutC_len 32 (cutC 32 s).2.1
    unfold eS
    simp only
    repeat' split
    all_goals simp only [List.length_nil]; omega
  have lI : ∀ e, eI s = some e → e.2.2.2.1.length ≤ 1048576 := by
    intro e he
    obtain ⟨c1, c2⟩ := cutC_len 32 s
    unfold eI at he
    obtain ⟨id, r, h1, he⟩ := stepE_some he
    obtain ⟨n, r2, h2, he⟩ := stepE_some he
    simp only [Option.some.injEq] at he
    subst he
    simp only
    split
    · omega
    · simp
  have ok : ∀ e : TEvent, e.2.2.2.1.length ≤ 1048576 → s ≠ [] → etxt e = s → evOK e = true := fun e hl h1 h2 => by
    cases h : evOK e with
    | true => rfl
    | false => exact absurd ((etxt_no hl h).symm.trans h2).symm h1
  by_cases h : s ≠ [] ∧ etxt (eS s) = s
  · have hp := (parse_etxt lS (ok _ lS h.1 h.2)).2.1
    rw [h.2] at hp
    rw [hp]; rfl
  · have hr : chkE s (eS s) = (zE, false, ()) := if_neg h
    rw [hr]
    cases hf : eI s with
    | none => rfl
    | some g =>
      show chkE s g = _
      have lg := lI g hf
      by_cases hg : s ≠ [] ∧ etxt g = s
      · have hp := (parse_etxt lg (ok _ lg hg.1 hg.2)).1
        rw [hg.2] at hp
        exact absurd ⟨hg.1, by rw [hp, hg.2]⟩ h
      · exact if_neg hg
noncomputable def pev (s : List UInt8) : TEvent × Bool × Unit := chkE s (eS s)
theorem pe_both (s : List UInt8) (hs : s.length ≤ 1048576) : spec_ParseEvent s = some (pev s) ∧ impl_ParseEvent s = some (pev s) :=
  ⟨spec_pe s hs, by rw [impl_pe s hs, pe_same s hs]; rfl⟩
theorem mark_text_loop : ∀ (N : Nat) (k : Int) (out : List UInt8), 0 ≤ k → k < N → k + out.length ≤ 1000000000 → ∃ r, laws_markText_l1 N k out = some (r, ())
  | 0, k, _, h0, h1, _ => by omega
  | N + 1, k, out, h0, h1, h2 => by
    unfold laws_markText_l1
    by_cases h : k > 0
    · have hd : Int.tdiv k 10 = k / 10 := Int.tdiv_eq_ediv_of_nonneg h0
      rw [bif_true (dec_true h), guardP_pos (by decide)]
      simp only []
      rw [guardP_pos (by unfold capS bytesOf; simp; omega), guardP_pos (by decide), hd, i64_ok (by omega) (by omega)]
      exact mark_text_loop N (k / 10) _ (by omega) (by omega) (by unfold bytesOf; simp; omega)
    · rw [bif_false (dec_false h), guardP_pos (by unfold capS; simp; omega)]
      exact ⟨_, rfl⟩
theorem mark_text (k : Int) (h1 : k ≤ 900000000) : ∃ r, laws_markText k = some (r, ()) := by
  unfold laws_markText
  by_cases h : k ≤ 0
  · rw [bif_true (dec_true h)]; exact ⟨_, rfl⟩
  · rw [bif_false (dec_false h)]
    exact mark_text_loop _ k [] (by omega) (by unfold laws_markText_l1_fuel; omega) (by simp; omega)
/-! lists of events out of texts -/
noncomputable def decE : List TEvent → List (List UInt8) → List TEvent × Bool × Unit
  | _, [] => ([], false, ())
  | out, [l] => if l = [] then (out, true, ()) else ([], false, ())
  | out, l :: l2 :: r => if (pev l).2.1 = true then decE (out ++ [(pev l).1]) (l2 :: r) else ([], false, ())
theorem decE_len : ∀ (r : List (List UInt8)) (out : List TEvent), (decE out r).1.length ≤ out.length + r.length
  | [], out => by simp [decE]
  | [l], out => by unfold decE; split <;> simp
  | l :: l2 :: r, out => by
    unfold decE
    split
    · have := decE_len (l2 :: r) (out ++ [(pev l).1])
      simp only [List.length_append, List.length_cons, List.length_nil] at this ⊢; omega
    · simp
theorem dec_spec : ∀ (N : Nat) (pre rest : List (List UInt8)) (out : List TEvent), (pre ++ rest).length ≤ 1048577 → (∀ x ∈ rest, x.length ≤ 1048576) → rest ≠ [] → rest.length < N + 1 → out.length ≤ pre.length →
    spec_DecodeEvents_l1 N out (pre ++ rest) (pre.length : Int) = some (decE out rest)
  | 0, _, [], _, _, _, h, _, _ => absurd rfl h
  | 0, _, _ :: _, _, _, _, _, h, _ => by simp at h
  | N + 1, pre, [], _, _, _, h, _, _ => absurd rfl h
  | N + 1, pre, [l], out, h1, h2, _, h3, h4 => by
    simp only [List.length_append, List.length_cons, List.length_nil] at h1
    unfold spec_DecodeEvents_l1
    have e1 : IntKind.i64.wrap ((pre.length : Int) + 1) = ((pre.length + 1 : Nat) : Int) := i64_succ (m := 1048578) (by omega) (by omega)
    have hl : ((pre ++ [l]).length : Int) = (pre.length : Int) + 1 := by simp
    rw [e1, bif_false (dec_false (by omega)), hl, i64_ok (by omega) (by omega)]
    simp only []
    have e2 : (pre.length : Int) + 1 - 1 = (pre.length : Int) := by omega
    rw [e2, guardP_pos (by omega)]
    rw [show (pre ++ [l]).getD (pre.length : Int).toNat [] = l from getD_app pre l [] []]
    unfold decE
    by_cases h : l = []
    · rw [if_pos h, bif_false (by simp [h])]
    · rw [if_neg h, bif_true (by simp [h])]
  | N + 1, pre, l :: l2 :: r, out, h1, h2, _, h3, h4 => by
    simp only [List.length_append, List.length_cons] at h1 h3
    unfold spec_DecodeEvents_l1
    have e1 : IntKind.i64.wrap ((pre.length : Int) + 1) = ((pre.length + 1 : Nat) : Int) := i64_succ (m := 1048578) (by omega) (by omega)
    have hl : ((pre ++ l :: l2 :: r).length : Int) = (pre.length : Int) + r.length + 2 := by simp; omega
    rw [e1, bif_true (dec_true (by omega)), guardP_pos (by omega)]
    rw [show (pre ++ l :: l2 :: r).getD (pre.length : Int).toNat [] = l from getD_app pre l (l2 :: r) [], (pe_both l (h2 l (by simp))).1, Option.bind_some]
    simp only [decE]
    cases hp : (pev l).2.1
    · rfl
    · simp only [Bool.not_true, cond_false, if_true]
      rw [guardP_pos (by unfold capN; simp; omega), app_one pre l (l2 :: r)]
      have e3 : ((pre.length + 1 : Nat) : Int) = ((pre ++ [l]).length : Int) := by simp
      rw [e3]
      exact dec_spec N (pre ++ [l]) (l2 :: r) (out ++ [(pev l).1]) (by simp; omega) (fun x hx => h2 x (by simp [List.mem_cons.1 hx])) (by simp) (by simp; omega) (by simp; omega)
theorem dec_impl (lines : List (List UInt8)) : ∀ (N : Nat) (pre rest : List (List UInt8)) (out : List TEvent), lines = pre ++ rest → lines.length ≤ 1048577 → (∀ x ∈ rest, x.length ≤ 1048576) → rest ≠ [] → rest.length < N + 1 → out.length ≤ pre.length →
    impl_DecodeEvents_l1 N lines out ((lines.length - 1 : Nat) : Int) (lines.take (lines.length - 1)) ((lines.length - 1 : Nat) : Int) (pre.length : Int) = some (decE out rest)
  | 0, _, [], _, _, _, _, h, _, _ => absurd rfl h
  | 0, _, _ :: _, _, _, _, _, _, h, _ => by simp at h
  | N + 1, pre, [], _, _, _, _, h, _, _ => absurd rfl h
  | N + 1, pre, [l], out, h0, h1, h2, _, h3, h4 => by
    have hl : lines.length = pre.length + 1 := by rw [h0]; simp
    unfold impl_DecodeEvents_l1
    rw [bif_false (dec_false (by omega)), guardP_pos (by omega)]
    have hg : lines.getD ((lines.length - 1 : Nat) : Int).toNat [] = l := by
      rw [show lines.length - 1 = pre.length by omega, h0]; exact getD_app pre l [] []
    rw [hg]
    unfold decE
    by_cases h : l = []
    · rw [if_pos h, bif_false (by simp [h])]
    · rw [if_neg h, bif_true (by simp [h])]
  | N + 1, pre, l :: l2 :: r, out, h0, h1, h2, _, h3, h4 => by
    have hl : lines.length = pre.length + r.length + 2 := by rw [h0]; simp; omega
    simp only [List.length_cons] at h3
    unfold impl_DecodeEvents_l1
    rw [bif_true (dec_true (by omega)), guardP_pos (by rw [List.length_take]; omega)]
    have hg : (lines.take (lines.length - 1)).getD (pre.length : Int).toNat [] = l := by
      rw [show (pre.length : Int).toNat = pre.length from rfl, List.getD_eq_getElem?_getD, List.getElem?_take_of_lt (by omega), h0, List.getElem?_append_right (Nat.le_refl _)]
      simp
    rw [hg, (pe_both l (h2 l (by simp))).2, Option.bind_some]
    simp only [decE]
    cases hp : (pev l).2.1
    · rfl
    · simp only [Bool.not_true, cond_false, if_true]
      have e1 : IntKind.i64.wrap ((pre.length : Int) + 1) = ((pre.length + 1 : Nat) : Int) := i64_succ (m := 1048578) (by omega) (by omega)
      rw [guardP_pos (by unfold capN; simp; omega), e1]
      have e3 : ((pre.length + 1 : Nat) : Int) = ((pre ++ [l]).length : Int) := by simp
      rw [e3]
      exact dec_impl lines N (pre ++ [l]) (l2 :: r) (out ++ [(pev l).1]) (by rw [h0]; simp) h1 (fun x hx => h2 x (by simp [List.mem_cons.1 hx])) (by simp) (by simp; omega) (by simp; omega)
theorem dec_both (s : List UInt8) (hs : s.length ≤ 1048576) : spec_DecodeEvents s = some (decE [] (splitC 10 s)) ∧ impl_DecodeEvents s = some (decE [] (splitC 10 s)) := by
  obtain ⟨l1, l2⟩ := splitC_len 10 s
  have hne := splitC_ne 10 s
  have hpos := List.length_pos_iff.2 hne
  constructor
  · unfold spec_DecodeEvents
    have hc := l13cut 10 s hs
    rw [show (((10 : UInt8).toNat : Int)) = 10 from rfl] at hc
    rw [hc, Option.bind_some]
    have h1 : IntKind.i64.wrap ((0 : Int) + 1) = 1 := rfl
    exact dec_spec _ [] (splitC 10 s) [] (by simp only [List.nil_append]; omega) (fun x hx => Nat.le_trans (l2 x hx) hs) hne (by unfold spec_DecodeEvents_l1_fuel; simp only [h1]; omega) (by simp)
  · unfold impl_DecodeEvents strings_Split
    rw [guardP_pos ⟨by omega, by simp⟩, split_eq 10 s.length s (Nat.le_refl _), Option.bind_some]
    generalize splitC 10 s = w at *
    have e1 : IntKind.i64.wrap ((w.length : Int) - 1) = ((w.length - 1 : Nat) : Int) := by rw [i64_ok (by omega) (by omega)]; omega
    simp only [e1]
    rw [guardP_pos (by omega)]
    have e2 : (w.drop (0 : Int).toNat).take (((w.length - 1 : Nat) : Int).toNat - (0 : Int).toNat) = w.take (w.length - 1) := by simp
    have e3 : (w.take (w.length - 1)).length = w.length - 1 := by rw [List.length_take]; omega
    rw [e2, e3]
    exact dec_impl w _ [] w [] rfl (by omega) (fun x hx => Nat.le_trans (l2 x hx) hs) hne (by unfold impl_DecodeEvents_l1_fuel; omega) (by simp)
/-! marks of events -/
noncomputable def mtV (k : Int) : List UInt8 := match laws_markText k with | some (r, _) => r | none => []
theorem mtV_eq (k : Int) (h : k ≤ 900000000) : laws_markText k = some (mtV k, ()) := by
  obtain ⟨r, hr⟩ := mark_text k h
  unfold mtV; rw [hr]
noncomputable def evs (k : Int) : Nat → List TEvent
  | 0 => []
  | n + 1 => (k, k + 1, k + 1 + 1, mtV (k + 1 + 1 + 1), ()) :: evs (k + 1 + 1 + 1 + 1) n
theorem evs_len : ∀ (n : Nat) (k : Int), (evs k n).length = n
  | 0, _ => rfl
  | n + 1, k => by simp [evs, evs_len n]
theorem set_app {α : Type} (pre : List α) (x v : α) (rest : List α) : (pre ++ x :: rest).set (pre.length : Int).toNat v = pre ++ v :: rest := by
  rw [show (pre.length : Int).toNat = pre.length from rfl, List.set_append_right _ _ (Nat.le_refl _)]
  simp
theorem w_one (x : Int) (h0 : 0 ≤ x) (h1 : x ≤ 900000000) : IntKind.i64.wrap (x + 1) = x + 1 := i64_ok (by omega) (by omega)
theorem mark_evs : ∀ (m N : Nat) (pre rest : List TEvent) (k : Int), rest.length = m → m < N → (pre ++ rest).length ≤ 2000000 → 0 ≤ k → k + 4 * m ≤ 100000000 →
    laws_markEventS_l1 N (pre ++ rest) k (pre.length : Int) = some ((k + 4 * m, ()), pre ++ evs k m)
  | m, 0, _, _, _, _, h, _, _, _ => by omega
  | 0, N + 1, pre, rest, k, hr, _, hl, h0, h1 => by
    have : rest = [] := List.eq_nil_of_length_eq_zero hr
    subst this
    unfold laws_markEventS_l1
    rw [bif_false (dec_false (by simp))]
    simp [evs]
  | m + 1, N + 1, pre, [], k, hr, _, _, _, _ => by simp at hr
  | m + 1, N + 1, pre, x :: rest, k, hr, hN, hl, h0, h1 => by
    have hlen : ∀ y : TEvent, ((pre ++ y :: rest).length : Int) = pre.length + rest.length + 1 := fun y => by simp; omega
    have hl' : (pre ++ x :: rest).length = pre.length + rest.length + 1 := by simp; omega
    simp only [List.length_cons] at hr
    have gd : ∀ y : TEvent, (pre ++ y :: rest).getD (pre.length : Int).toNat zEvent = y := fun y => getD_app pre y rest zEvent
    unfold laws_markEventS_l1
    simp only [set_app, gd, w_one k (by omega) (by omega), w_one (k + 1) (by omega) (by omega), w_one (k + 1 + 1) (by omega) (by omega), w_one (k + 1 + 1 + 1) (by omega) (by omega)]
    rw [bif_true (dec_true (by rw [hlen]; omega)), guardP_pos (by rw [hlen]; omega), guardP_pos (by rw [hlen]; omega), guardP_pos (by rw [hlen]; omega), mtV_eq _ (by omega), Option.bind_some, guardP_pos (by rw [hlen]; omega), i64_succ (m := pre.length + 1) (by omega) (by rw [hl'] at hl; omega)]
    have e : ∀ y : TEvent, pre ++ y :: rest = (pre ++ [y]) ++ rest := fun y => app_one pre y rest
    have e2 : ∀ y : TEvent, ((pre.length + 1 : Nat) : Int) = (((pre ++ [y]).length : Nat) : Int) := fun y => by simp
    rw [e, e2, mark_evs m N _ rest _ (by omega) (by omega) (by simp; rw [hl'] at hl; omega) (by omega) (by omega)]
    simp only [evs, List.append_assoc, List.cons_append, List.nil_append]
    congr 3
    omega
theorem held_evs : ∀ (m N : Nat) (pre : List TEvent) (k : Int), m < N → (pre ++ evs k m).length ≤ 2000000 → 0 ≤ k → k + 4 * m ≤ 100000000 →
    laws_heldEventS_l1 N (pre ++ evs k m) k (pre.length : Int) = some (k + 4 * m, ())
  | m, 0, _, _, h, _, _, _ => by omega
  | 0, N + 1, pre, k, _, hl, h0, h1 => by
    unfold laws_heldEventS_l1
    rw [bif_false (dec_false (by simp [evs]))]
    simp
  | m + 1, N + 1, pre, k, hN, hl, h0, h1 => by
    have hlen : ((pre ++ evs k (m + 1)).length : Int) = pre.length + m + 1 := by simp [evs_len]; omega
    have hl' : (pre ++ evs k (m + 1)).length = pre.length + m + 1 := by simp [evs_len]; omega
    have gd : (pre ++ evs k (m + 1)).getD (pre.length : Int).toNat zEvent = (k, k + 1, k + 1 + 1, mtV (k + 1 + 1 + 1), ()) := getD_app pre _ _ zEvent
    unfold laws_heldEventS_l1
    simp only [gd, w_one k (by omega) (by omega), w_one (k + 1) (by omega) (by omega), w_one (k + 1 + 1) (by omega) (by omega), w_one (k + 1 + 1 + 1) (by omega) (by omega)]
    rw [bif_true (dec_true (by rw [hlen]; omega)), guardP_pos (by rw [hlen]; omega), bif_false (by simp), guardP_pos (by rw [hlen]; omega), bif_false (by simp), guardP_pos (by rw [hlen]; omega), bif_false (by simp), guardP_pos (by rw [hlen]; omega), mtV_eq _ (by omega), Option.bind_some, bif_false (by simp), i64_succ (m := pre.length + 1) (by omega) (by rw [hl'] at hl; omega)]
    have e : pre ++ evs k (m + 1) = (pre ++ [(k, k + 1, k + 1 + 1, mtV (k + 1 + 1 + 1), ())]) ++ evs (k + 1 + 1 + 1 + 1) m := by simp [evs]
    have e2 : ∀ y : TEvent, ((pre.length + 1 : Nat) : Int) = (((pre ++ [y]).length : Nat) : Int) := fun y => by simp
    rw [e, e2 (k, k + 1, k + 1 + 1, mtV (k + 1 + 1 + 1), ()), held_evs m N _ _ (by omega) (by rw [← e]; exact hl) (by omega) (by omega)]
    congr 2
    omega
theorem markE (l : List TEvent) (h : l.length ≤ 1100000) : laws_markEventS l 1 = some ((1 + 4 * (l.length : Int), ()), evs 1 l.length) := by
  unfold laws_markEventS
  exact mark_evs l.length _ [] l 1 rfl (by unfold laws_markEventS_l1_fuel; omega) (by simp only [List.nil_append]; omega) (by omega) (by omega)
theorem heldE (n : Nat) (h : n ≤ 1100000) : laws_heldEventS (evs 1 n) 1 = some (1 + 4 * (n : Int), ()) := by
  unfold laws_heldEventS
  exact held_evs n _ [] 1 (by unfold laws_heldEventS_l1_fuel; rw [evs_len]; omega) (by simp [evs_len]; omega) (by omega) (by omega)
theorem eqEvent_refl (x : TEvent) : laws_eqEvent x x = some (true, ()) := by
  unfold laws_eqEvent; simp
theorem eqEvents_refl (l : List TEvent) (h : l.length ≤ 1100000) : laws_eqEventS l l = some (true, ()) := by
  have key : ∀ (N : Nat) (i : Nat), l.length - i < N → i ≤ l.length → laws_eqEventS_l1 N l l (i : Int) = some (true, ()) := by
    intro N
    induction N with
    | zero => intro i h _; omega
    | succ N ih =>
      intro i hN hi
      unfold laws_eqEventS_l1
      by_cases hc : i < l.length
      · rw [bif_true (dec_true (by omega)), guardP_pos (by omega), guardP_pos (by omega), eqEvent_refl, Option.bind_some, i64_succ hc (by omega)]
        exact ih (i + 1) (by omega) (by omega)
      · rw [bif_false (dec_false (by omega))]
  unfold laws_eqEventS
  rw [bif_false (by simp)]
  exact key _ 0 (by unfold laws_eqEventS_l1_fuel; omega) (by omega)
theorem law_true : ∀ xs : dens [.str], wfA [.str] xs → laws_FnExactDecodeEvents xs.1 = some (true, ()) := by
  intro ⟨s, u⟩ _
  unfold laws_FnExactDecodeEvents
  by_cases h : s.length ≤ 1048576
  · obtain ⟨h1, h2⟩ := dec_both s h
    have hl := (splitC_len 10 s).1
    have hd := decE_len (splitC 10 s) []
    simp only [List.length_nil, Nat.zero_add] at hd
    rw [bif_false (by simp; omega), h1, h2]
    generalize decE [] (splitC 10 s) = r at *
    have g1 := markE r.1 (by omega)
    have g2 := heldE r.1.length (by omega)
    simp only [Option.bind_some, eqEvents_refl r.1 (by omega), g1, g2]
    rw [show decide ((1 : Int) + 4 * (r.1.length : Int) < 0) = false from dec_false (by omega)]
    simp
  · rw [bif_true (by simp; omega)]

theorem fnExactDecodeEvents_own : ownKnob Tryd.prog.godebug = none := by kernel_rfl
theorem fnExactDecodeEvents_door (os : Os) (args : Array Value) : laidMetH Tryd.prog Rows.fnExactDecodeEventsRow.laid ((World.laidAll Tryd.prog os Rows.fnExactDecodeEventsRow.laid).forCall (fun _ _ => 0) ⟨#[], args, []⟩).memory := by
  rw [MakeChecks.laidMetH_plain _ _ _ (by kernel_rfl)]; exact laidMet_laidAll _ (by kernel_rfl) (by kernel_rfl)
theorem fnExactDecodeEvents_tab {W : World} (h : laidMetH Tryd.prog Rows.fnExactDecodeEventsRow.laid W) (hs : W.ShapedOpen Tryd.prog) : glob.G W := by
  rw [MakeChecks.laidMetH_plain _ _ _ (by kernel_rfl)] at h
  obtain ⟨m0, t0⟩ := cell_of_shapedOpen_int (P := Tryd.prog) (g := 1) (t := 3) (zero := #[.int .i64 0]) hs (of_decide_eq_true (by kernel_rfl)) (by kernel_rfl) rfl (by kernel_rfl) (by kernel_rfl) Tryd.underlying3
  have t1 : W.var? Tryd.prog "loop.example/g01633/impl.eventWords" = some (wordsL.map fun z => Value.string ⟨⟨z⟩⟩).toArray :=
    strs_of_head (g := 0) (t := 76) (e := 9) (n := 13) (rest := Rows.fnExactDecodeEventsRow.laid.drop 7) (by kernel_rfl) (by kernel_rfl) (by kernel_rfl) (by kernel_rfl) (by kernel_rfl) (by kernel_rfl) (show laidMet Tryd.prog (("loop.example/g01633/impl.eventWords", strTab wordsL) :: Rows.fnExactDecodeEventsRow.laid.drop 7) W from h.tail.tail.tail.tail.tail.tail)
  have t2 : Go.Lib.TabIs Tryd.prog W "internal/strconv.uint64pow10" .u64 Go.Lib.pow10Tab :=
    Go.Lib.tabIs_of_head (g := 6) (t := 127) (e := 101) (n := 20) (rest := Rows.fnExactDecodeEventsRow.laid.drop 3) (by kernel_rfl) (by kernel_rfl) (by kernel_rfl) (by kernel_rfl) (by kernel_rfl) (by kernel_rfl) (show laidMet Tryd.prog (("internal/strconv.uint64pow10", Go.Lib.tabData .u64 Go.Lib.pow10Tab) :: Rows.fnExactDecodeEventsRow.laid.drop 3) W from h.tail.tail)
  have star : "*" ++ "errors.errorString" = "*errors.errorString" := by decide
  obtain ⟨_, _, t3, _⟩ := laid_sentinel (g := 2) (ti := 68) (tp := 123) (te := 125) (ts := 9) (nm := "*errors.errorString") (r := Rows.fnExactDecodeEventsRow.laid.drop 6) (show laidMet Tryd.prog (("strconv.ErrSyntax", Rows.laid_strconv_ErrSyntax) :: Rows.fnExactDecodeEventsRow.laid.drop 6) W from h.tail.tail.tail.tail.tail) (by kernel_rfl) (by kernel_rfl) Tryd.underlying68
    (fun u hu => typeName_ptr_named (nm := "errors.errorString") (by rw [star]; kernel_rfl) (by kernel_rfl) (by decide) u (by rw [star]; exact hu)) Tryd.underlying123 Tryd.underlying125 rfl rfl Tryd.underlying9 (by kernel_rfl) (by kernel_rfl)
  intro p hp
  simp only [List.mem_cons, List.not_mem_nil, or_false] at hp
  rcases hp with rfl | rfl | rfl | rfl
  · exact var?_of_cell (by kernel_rfl) t0
  · exact ⟨_, t1, rfl⟩
  · exact ⟨_, t2, rfl⟩
  · exact ⟨_, t3, _, _, rfl⟩
set_option maxRecDepth 100000 in
theorem fnExactDecodeEvents_lifted (os : Os) (started : os.Started) (H : Type) (enc : TypeId × Value → H) :
    ReturnsInHanded {} Tryd.checked os 3 .any (fun w args => (Rows.fnExactDecodeEventsSpec.pre enc Tryd.prog Tryd.f3 [] false w args ∧ laidMetH Tryd.prog Rows.fnExactDecodeEventsRow.laid w) ∧ sizedMet enc Tryd.prog Tryd.f3 (OpenSpec.ofChange Rows.fnExactDecodeEventsSpec) false w args)
      (Rows.fnExactDecodeEventsSpec.post enc Tryd.prog Tryd.f3 false true false false) := by
  refine returnsInHanded_of_change_and_shaped (C := Tryd.checked) (X := fun w _ => laidMetH Tryd.prog Rows.fnExactDecodeEventsRow.laid w) (fun _ _ _ hh h => h.of_heap hh) fnExactDecodeEvents_own started (by kernel_rfl) Tryd.func3
    (ChangeSpec.witness_shaped (enc := enc) (C := Tryd.checked) (os := os) (X := fun w _ => laidMetH Tryd.prog Rows.fnExactDecodeEventsRow.laid w) false (World.laidAll Tryd.prog os Rows.fnExactDecodeEventsRow.laid) #[.string .empty] 8 (World.laidAll_os _ _ _) (World.shaped_of_ZipB (by kernel_rfl) (by kernel_rfl)) (by kernel_rfl) (by kernel_rfl) (by kernel_rfl) (fnExactDecodeEvents_door os _)) ?_
  intro W base args ds gs before hval hW hL hsh
  exact law_contractV ok_laws_FnExactDecodeEvents law_true (fun H ds gs h h2 => by
    match ds, gs, h, h2 with
    | [d0], [g0], _, _ => rfl) (by kernel_rfl) (by kernel_rfl) (by kernel_rfl) rfl Tryd.underlying4 W base args ds gs before hval (fnExactDecodeEvents_tab hL hsh) hW
theorem fnExactDecodeEvents_said : Rows.FnExactDecodeEventsSaid :=
  OpenClaim.holds_of_wide 3 Tryd.f3 rfl rfl rfl rfl rfl rfl rfl ⟨rfl, rfl, rfl, rfl, rfl⟩ rfl rfl rfl rfl rfl (by kernel_rfl) Tryd.func3 (by kernel_rfl)
    (of_decide_eq_true (by kernel_rfl)) (by unfold Func.isWrapper; first | (rw [if_pos (by decide +kernel)]; kernel_rfl) | (rw [if_neg (by decide +kernel)]; exact ⟨rfl, rfl⟩))
    (fun os started H enc _ => fnExactDecodeEvents_lifted os started H enc)
/-- The law returns true for all arguments; the tables that the program text lays are tied. -/
theorem fnExactDecodeEvents_proved : Rows.FnExactDecodeEventsCardSaid :=
  Claim7.holds_tied_plain_at .later [] Rows.fnExactDecodeEventsCard.laidKinds true Rows.fnExactDecodeEventsCard.stood.harness Rows.fnExactDecodeEventsCard.stood.looks
    fnExactDecodeEvents_said (fun _ h => by cases h) (by kernel_rfl) (fun _ h => by cases h) fnExactDecodeEvents_row_tie rfl ⟨rfl, rfl⟩ (by kernel_rfl) rfl
    (fun f fn hf hfn => by
      obtain rfl : f = 3 := Option.some.inj ((show Tryd.prog.funcNamed Rows.fnExactDecodeEventsRow.func = some 3 by kernel_rfl).symm.trans hf) |>.symm
      obtain rfl : fn = Tryd.f3 := (Option.some.inj (Tryd.func3.symm.trans hfn)).symm
      exact ⟨by kernel_rfl, fun j t ht => by
        rw [Tryd.params3] at ht
        have hm : t ∈ [9] := by simpa using Array.mem_of_getElem? ht
        have hall : ([9].all fun u => !Tryd.prog.wantsStandIn u) = true := by kernel_rfl
        exact (show Tryd.prog.wantsStandIn t = false by simpa using List.all_eq_true.1 hall t hm)⟩)
    (by kernel_rfl)
#print axioms fnExactDecodeEvents_proved
end Go.Proofs.YtbcdobkgmgngmaaDoor

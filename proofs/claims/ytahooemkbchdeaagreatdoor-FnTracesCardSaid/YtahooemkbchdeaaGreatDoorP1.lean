/- FnTraces: the plain law, part 1. No condition. -/
import Derived.Test.YtahooemkbchdeaaGreatDoorM2
namespace Go.Proofs.YtahooemkbchdeaaGreatDoor
open Go.Am
set_option maxRecDepth 100000
set_option linter.unusedVariables false
theorem Qum {α : Type} (pre : List α) (x : α) (rest : List α) : pre ++ x :: rest = pre ++ [x] ++ rest := by simp
theorem J7 {α : Type} (pre : List α) (x : α) (rest : List α) (d : α) : (pre ++ x :: rest).getD ((pre.length : Int).toNat) d = x := by
 rw [show (pre.length : Int).toNat = pre.length from rfl, List.getD_eq_getElem?_getD, List.getElem?_append_right (Nat.le_refl _)]
 simp
def Z15 (k : Nat) : Int := ((([48, 49, 50, 51, 52, 53, 54, 55, 56, 57, 97, 98, 99, 100, 101, 102] : List UInt8).getD k 0).toNat : Int)
def hx (b : UInt8) : List Int := [Z15 (b.toNat / 16), Z15 (b.toNat % 16)]
theorem J6 {α : Type} {d : α} {l : List α} {i : Nat} (h : i < l.length) : l.drop i = l.getD i d :: l.drop (i + 1) := by
 rw [List.drop_eq_getElem_cons h, List.getD_eq_getElem?_getD, List.getElem?_eq_getElem h]; rfl
theorem Qe0 (n : Int) (h0 : 0 ≤ n) (h1 : n < 256) : IntKind.u8.wrap n = n := by
 have : n % 2 ^ 8 = n := Int.emod_eq_of_lt h0 (by omega)
 simp only [IntKind.wrap, IntKind.bits, IntKind.signed, this]
 simp
def Qo2 (u : Nat) : List UInt8 := if u = 0 then [] else Go.Lib.decDigits u
theorem Qvw {u : Nat} (h : u ≠ 0) : Qo2 u = Qo2 (u / 10) ++ [UInt8.ofNat (48 + u % 10)] := by
 unfold Qo2
 rw [if_neg h, Go.Lib.decDigits]
 by_cases h10 : u < 10
 ·rw [dif_pos h10, if_pos (by omega), List.nil_append, Nat.mod_eq_of_lt h10]
 ·rw [dif_neg h10, if_neg (by omega)]
theorem Q04 {K1 : (Int × List UInt8 × Bool × Unit) → Option (List UInt8 × Unit)} {n : Int} {out : List UInt8} {neg : Bool} {d : Nat} (hd : d < 10) (hl : 1 + out.length ≤ Z5) :
  Za6 K1 n out neg (d : Int) = K1 (IntKind.i64.wrap (Int.tdiv n 10), UInt8.ofNat (48 + d) :: out, neg, ()) := by
 unfold Za6
 have h1 : Z6 [IntKind.u8.wrap (IntKind.i64.wrap ((48 : Int) + (d : Int)))] = [UInt8.ofNat (48 + d)] := by
  rw [Zx (by omega) (by omega), Qe0 _ (by omega) (by omega)]
  simp only [Z6, List.map_cons, List.map_nil]
  congr 2
 simp only [h1]
 rw [Zc (by simpa using hl), Zc (by decide)]
 rfl
theorem Qra : ∀ (k u N : Nat) (n : Int) (out : List UInt8) (neg : Bool), u < 10 ^ k → k < N → u ≤ 9223372036854775808 → (n = (u : Int) ∨ n = -(u : Int)) → out.length + k ≤ 1000 → (n = 9223372036854775808 → False) →
  Jf N n out neg = some ((bif neg then 45 :: (Qo2 u ++ out) else Qo2 u ++ out), ())
 | k, u, 0, n, out, neg, h1, h2, _, _, _, _ => by omega
 | k, u, N + 1, n, out, neg, h1, h2, h3, h4, h5, h6 => by
  unfold Jf
  by_cases hu : u = 0
  ·have hn : n = 0 := by omega
   rw [Zh (by simp [hn])]
   rw [Zc (by simp only [Z5, List.length_cons, List.length_nil]; omega)]
   have : Qo2 u = [] := by rw [hu]; rfl
   rw [this]
   cases neg <;> rfl
  ·have hn : n ≠ 0 := by omega
   rw [Zj (by simp [hn]), Zc (by decide)]
   cases k with
   | zero => simp at h1; omega
   | succ k =>
    have hd : u / 10 < 10 ^ k := by
     rw [Nat.pow_succ] at h1
     omega
    have hm : u % 10 < 10 := Nat.mod_lt _ (by decide)
    have hq : IntKind.i64.wrap (Int.tdiv n 10) = ((u / 10 : Nat) : Int) ∨ IntKind.i64.wrap (Int.tdiv n 10) = -((u / 10 : Nat) : Int) := by
     rcases h4 with rfl | rfl
     ·left; rw [Int.tdiv_eq_ediv_of_nonneg (by omega), Zx (by omega) (by omega)]; omega
     ·right; rw [Int.neg_tdiv, Int.tdiv_eq_ediv_of_nonneg (by omega), Zx (by omega) (by omega)]; omega
    have go : Za6 (fun v => Jf N v.1 v.2.1 v.2.2.1) n out neg ((u % 10 : Nat) : Int) = some ((bif neg then 45 :: (Qo2 u ++ out) else Qo2 u ++ out), ()) := by
     rw [Q04 hm (by simp only [Z5]; omega)]
     show Jf N (IntKind.i64.wrap (Int.tdiv n 10)) (UInt8.ofNat (48 + u % 10) :: out) neg = _
     rw [Qra k (u / 10) N _ _ neg hd (by omega) (by omega) hq (by simp only [List.length_cons]; omega) (by intro h; rcases hq with hq | hq <;> omega)]
     rw [Qvw hu, List.append_assoc]
     rfl
    rcases h4 with rfl | rfl
    ·have e : Int.tmod (u : Int) 10 = ((u % 10 : Nat) : Int) := by rw [Int.tmod_eq_emod_of_nonneg (by omega)]; omega
     rw [e, Zh (Zl (by omega))]
     exact go
    ·have e : Int.tmod (-(u : Int)) 10 = -((u % 10 : Nat) : Int) := by rw [Int.neg_tmod, Int.tmod_eq_emod_of_nonneg (by omega)]; omega
     rw [e]
     by_cases hz : u % 10 = 0
     ·rw [Zh (Zl (by omega))]
      have : -((u % 10 : Nat) : Int) = ((u % 10 : Nat) : Int) := by omega
      rw [this]; exact go
     ·rw [Zj (Zk (by omega)), Zx (by omega) (by omega)]
      have : 0 - -((u % 10 : Nat) : Int) = ((u % 10 : Nat) : Int) := by omega
      rw [this]; exact go
theorem Zbu (n : Int) (h0 : -9223372036854775808 ≤ n) (h1 : n ≤ 9223372036854775807) : Z7 n = some (Go.Lib.itoa n, ()) := by
 unfold Z7
 by_cases hz : n = 0
 ·rw [Zj (by simp [hz]), hz]
  unfold Go.Lib.itoa
  rw [if_neg (by omega), Go.Lib.decDigits, dif_pos (by decide)]
  rfl
 ·rw [Zh (by simp [hz])]
  have hp : n.natAbs < 10 ^ 20 := by
   have : (9223372036854775809 : Nat) ≤ 10 ^ 20 := by decide
   omega
  rw [Qra 20 n.natAbs _ n [] _ hp (by unfold Zhn; omega) (by omega) (by omega) (by simp) (by omega)]
  unfold Go.Lib.itoa Qo2
  rw [if_neg (by omega), List.append_nil]
  by_cases hn : n < 0
  ·rw [Zk hn, if_pos hn]; rfl
  ·rw [Zl hn, if_neg hn]
   have : n.natAbs = n.toNat := by omega
   rw [this]; rfl
theorem Yk (n : Int) (h0 : -9223372036854775808 ≤ n) (h1 : n ≤ 9223372036854775807) : (Go.Lib.itoa n).length ≤ 21 := Go.Lib.itoa_length_le n h0 h1
theorem Zde (n : Int) (h0 : -9223372036854775808 ≤ n) (h1 : n ≤ 9223372036854775807) : Ql n = some (Go.Lib.itoa n, ()) := by
 unfold Ql Zn4
 rw [Zc ⟨h0, h1⟩]
 rfl
theorem Qrm : ∀ (N : Nat) (l : List UInt8) (out : List Int) (i : Nat), l.length ≤ 1048576 → out.length ≤ 2 * i → i ≤ l.length → l.length - i < N →
  Zef N l out (i : Int) = some (Z6 (out ++ (l.drop i).flatMap hx), ())
 | 0, _, _, _, _, _, _, h => by omega
 | N + 1, l, out, i, hl, ho, hi, hN => by
  unfold Zef
  by_cases h : i < l.length
  ·have e : (i : Int).toNat = i := rfl
   rw [Zj (Zk (by omega)), Zc (by omega), Zc (by decide), Zc (by omega), Zc (by decide), e]
   have hb : (l.getD i 0).toNat < 256 := (l.getD i 0).toNat_lt
   generalize hc : l.getD i 0 = c at *
   have e1 : IntKind.i64.wrap (Int.tdiv (IntKind.i64.wrap (c.toNat : Int)) 16) = ((c.toNat / 16 : Nat) : Int) := by
    rw [show IntKind.i64.wrap (c.toNat : Int) = (c.toNat : Int) from Zx (by omega) (by omega), Int.tdiv_eq_ediv_of_nonneg (by omega), Zx (by omega) (by omega)]; omega
   have e2 : Int.tmod (IntKind.i64.wrap (c.toNat : Int)) 16 = ((c.toNat % 16 : Nat) : Int) := by
    rw [show IntKind.i64.wrap (c.toNat : Int) = (c.toNat : Int) from Zx (by omega) (by omega), Int.tmod_eq_emod_of_nonneg (by omega)]; omega
   have dig : ∀ k : Nat, k < 16 → Zet (k : Int) = some (Z15 k, ()) := fun k hk => by
    unfold Zet Z15
    rw [Zc (by simp only [List.length_cons, List.length_nil]; omega)]
    rfl
   rw [e1, e2, dig _ (by omega), dig _ (by omega)]
   simp only [Option.bind_some]
   rw [Zc (by simp only [List.length_cons, List.length_nil, Qp]; omega), Zs h (by omega)]
   rw [Qrm N l _ (i + 1) hl (by simp only [List.length_append, List.length_cons, List.length_nil]; omega) h (by omega)]
   rw [J6 (d := (0 : UInt8)) h, hc, List.flatMap_cons, List.append_assoc]
   rfl
  ·have : i = l.length := by omega
   subst this
   rw [Zh (Zl (by omega)), List.drop_length]
   simp
theorem Qrl : ∀ (N : Nat) (l : List UInt8) (out : List Int) (i : Nat), l.length ≤ 1048576 → out.length ≤ 2 * i → i ≤ l.length → l.length - i < N →
  Zd5 N l out (i : Int) = some (Z6 (out ++ (l.drop i).flatMap hx), ())
 | 0, _, _, _, _, _, _, h => by omega
 | N + 1, l, out, i, hl, ho, hi, hN => by
  unfold Zd5
  by_cases h : i < l.length
  ·have e : (i : Int).toNat = i := rfl
   rw [Zj (Zk (by omega)), Zc (by omega), Zc (by decide), e]
   have hb : (l.getD i 0).toNat < 256 := (l.getD i 0).toNat_lt
   generalize hc : l.getD i 0 = c at *
   have e1 : IntKind.u8.wrap (Int.tdiv (c.toNat : Int) 16) = ((c.toNat / 16 : Nat) : Int) := by
    rw [Int.tdiv_eq_ediv_of_nonneg (by omega), Qe0 _ (by omega) (by omega)]; omega
   have e2 : Int.tmod (c.toNat : Int) 16 = ((c.toNat % 16 : Nat) : Int) := by
    rw [Int.tmod_eq_emod_of_nonneg (by omega)]; omega
   simp only [e1, e2]
   rw [Zc (by simp only [List.length_cons, List.length_nil]; omega), Zc (by omega), Zc (by decide), Zc (by simp only [List.length_cons, List.length_nil]; omega),
    Zc (by simp only [List.length_cons, List.length_nil, Qp]; omega), Zs h (by omega)]
   rw [Qrl N l _ (i + 1) hl (by simp only [List.length_append, List.length_cons, List.length_nil]; omega) h (by omega)]
   rw [J6 (d := (0 : UInt8)) h, hc, List.flatMap_cons, List.append_assoc]
   rfl
  ·have : i = l.length := by omega
   subst this
   rw [Zh (Zl (by omega)), List.drop_length]
   simp
def Zt5 (l : List UInt8) : List UInt8 := Z6 (l.flatMap hx)
theorem Qrk (l : List UInt8) : (Zt5 l).length = 2 * l.length := by
 unfold Zt5 Z6
 rw [List.length_map]
 induction l with
 | nil => rfl
 | cons c l ih => rw [List.flatMap_cons, List.length_append, ih]; simp only [hx, List.length_cons, List.length_nil]; omega
theorem Q2k (l : List UInt8) (h : l.length ≤ 1048576) : Zns l = some (Zt5 l, ()) := by
 unfold Zns
 exact Qrm _ l [] 0 h (by simp) (by omega) (by unfold Zhl; omega)
theorem Q26 (l : List UInt8) (h : l.length ≤ 1048576) : Zm3 l = some (Zt5 l, ()) := by
 unfold Zm3
 exact Qrl _ l [] 0 h (by simp) (by omega) (by unfold Zhd; omega)
theorem Zvo (N k : Nat) (b : Int) (hk : k < 16) : Jj (N + 1) b (k : Int) = if Z15 k = b then some ((k : Int), ()) else Jj N b ((k + 1 : Nat) : Int) := by
 conv => lhs; unfold Jj
 have dig : Zet (k : Int) = some (Z15 k, ()) := by
  unfold Zet Z15
  rw [Zc (by simp only [List.length_cons, List.length_nil]; omega)]
  rfl
 rw [Zj (Zk (by omega)), dig]
 simp only [Option.bind_some]
 rw [Zs (m := 16) hk (by omega)]
 by_cases h : Z15 k = b
 ·rw [Zj (by simp [h]), if_pos h]
 ·rw [Zh (by simp [h]), if_neg h]
theorem Qnq (b : UInt8) : Zj1 (b.toNat : Int) = Ze0 (b.toNat : Int) := by
 have hb : b.toNat < 256 := b.toNat_lt
 generalize b.toNat = n at *
 unfold Zj1
 have hf : Zhu (n : Int) 0 = 17 := rfl
 rw [hf]
 show Jj 17 (n : Int) ((0 : Nat) : Int) = _
 have e : ∀ k, k < 16 → Z15 k = if k < 10 then (48 + k : Int) else (87 + k : Int) := by decide
 have hE : Jj 1 (n : Int) ((16 : Nat) : Int) = some (-1, ()) := rfl
 unfold Ze0
 by_cases h1 : 48 ≤ n ∧ n ≤ 57
 ·rw [Zj (by simp; omega)]
  have u : IntKind.i64.wrap (IntKind.u8.wrap ((n : Int) - 48)) = (n : Int) - 48 := by rw [Qe0 _ (by omega) (by omega), Zx (by omega) (by omega)]
  rw [u]
  have : n = 48 ∨ n = 49 ∨ n = 50 ∨ n = 51 ∨ n = 52 ∨ n = 53 ∨ n = 54 ∨ n = 55 ∨ n = 56 ∨ n = 57 := by omega
  rcases this with rfl | rfl | rfl | rfl | rfl | rfl | rfl | rfl | rfl | rfl
  all_goals
   repeat (rw [Zvo _ _ _ (by decide)]; first | (rw [if_pos (by decide)]; rfl) | rw [if_neg (by decide)])
 ·rw [Zh (by rw [Bool.and_eq_false_iff, decide_eq_false_iff_not, decide_eq_false_iff_not]; omega)]
  by_cases h2 : 97 ≤ n ∧ n ≤ 102
  ·rw [Zj (by simp; omega)]
   have u : IntKind.i64.wrap (IntKind.i64.wrap (IntKind.u8.wrap ((n : Int) - 97)) + 10) = (n : Int) - 87 := by rw [Qe0 _ (by omega) (by omega), show IntKind.i64.wrap ((n : Int) - 97) = (n : Int) - 97 from Zx (by omega) (by omega), Zx (by omega) (by omega)]; omega
   rw [u]
   have : n = 97 ∨ n = 98 ∨ n = 99 ∨ n = 100 ∨ n = 101 ∨ n = 102 := by omega
   rcases this with rfl | rfl | rfl | rfl | rfl | rfl
   all_goals
    repeat (rw [Zvo _ _ _ (by decide)]; first | (rw [if_pos (by decide)]; rfl) | rw [if_neg (by decide)])
  ·rw [Zh (by rw [Bool.and_eq_false_iff, decide_eq_false_iff_not, decide_eq_false_iff_not]; omega)]
   repeat (rw [Zvo _ _ _ (by decide), if_neg (by rw [e _ (by decide)]; split <;> omega)])
   exact hE
theorem Qw6 {α : Type} {c : Bool} {x y : α} : (bif c then some x else some y) = some (bif c then x else y) := by cases c <;> rfl
theorem Qus (d : Nat) (h : d < 10) : Go.Lib.digitVal (UInt8.ofNat (48 + d)) = some d := by
 have : (UInt8.ofNat (48 + d)).toNat = 48 + d := by simp; omega
 simp only [Go.Lib.digitVal, this]
 rw [if_pos (by omega)]; congr 1; omega
theorem Qeg : ∀ (l r : List UInt8) (acc : Nat), Go.Lib.decFrom acc (l ++ r) = (Go.Lib.decFrom acc l).bind fun a => Go.Lib.decFrom a r
 | [], r, acc => rfl
 | b :: l, r, acc => by
  simp only [List.cons_append, Go.Lib.decFrom]
  cases Go.Lib.digitVal b with
  | none => rfl
  | some d => exact Qeg l r _
theorem Qin : ∀ (u : Nat), Go.Lib.decFrom 0 (Go.Lib.decDigits u) = some u := by
 intro u
 induction u using Nat.strongRecOn with
 | _ u ih =>
  rw [Go.Lib.decDigits]
  split
  ·rename_i h; simp only [Go.Lib.decFrom, Qus u h]; congr 1; omega
  ·rename_i h
   rw [Qeg, ih (u / 10) (by omega)]
   simp only [Option.bind_some, Go.Lib.decFrom, Qus (u % 10) (by omega)]
   congr 1; omega
theorem Ztf : ∀ (u : Nat), ∀ b ∈ Go.Lib.decDigits u, 48 ≤ b.toNat ∧ b.toNat ≤ 57 := by
 intro u
 induction u using Nat.strongRecOn with
 | _ u ih =>
  intro b hb
  rw [Go.Lib.decDigits] at hb
  split at hb
  ·rename_i h
   simp only [List.mem_singleton] at hb
   subst hb
   have : (UInt8.ofNat (48 + u)).toNat = 48 + u := by simp; omega
   omega
  ·rename_i h
   rcases List.mem_append.1 hb with hb | hb
   ·exact ih (u / 10) (by omega) b hb
   ·simp only [List.mem_singleton] at hb
    subst hb
    have : (UInt8.ofNat (48 + u % 10)).toNat = 48 + u % 10 := by simp; omega
    omega
theorem Z67 (u : Nat) : Go.Lib.decDigits u ≠ [] := by
 intro h
 have := Go.Lib.decDigits_length u
 rw [h] at this
 have := Go.Lib.nDigits_pos u
 simp at *
 omega
theorem Z3c (u : Nat) : Go.Lib.decNat (Go.Lib.decDigits u) = some u := by
 unfold Go.Lib.decNat
 rw [if_neg (by simpa using Z67 u)]
 exact Qin u
theorem Z05 (n : Int) : Go.Lib.atoi (Go.Lib.itoa n) = some n := by
 unfold Go.Lib.itoa
 split
 ·rename_i h
  simp only [Go.Lib.atoi, Z3c, Option.map_some]
  rw [if_pos (by decide)]
  congr 1; omega
 ·rename_i h
  cases hd : Go.Lib.decDigits n.toNat with
  | nil => exact absurd hd (Z67 _)
  | cons b r =>
   have hb := Ztf n.toNat b (by rw [hd]; simp)
   have h1 : ¬ (b == 45) = true := by intro e; have := eq_of_beq e; subst this; simp at hb
   have h2 : ¬ (b == 43) = true := by intro e; have := eq_of_beq e; subst this; simp at hb
   simp only [Go.Lib.atoi]
   rw [if_neg h1, if_neg h2, ← hd, Z3c]
   simp only [Option.map_some]
   congr 1; omega
theorem Qrr {a b : Int} (h : Go.Lib.itoa a = Go.Lib.itoa b) : a = b := by
 have := Z05 a
 rw [h, Z05] at this
 exact (Option.some.inj this).symm
theorem Qu8 {u : Nat} (h : u ≤ 999999999) : Go.Lib.nDigits u ≤ 9 := by
 rcases Nat.lt_or_ge 9 (Go.Lib.nDigits u) with h' | h'
 ·exfalso
  have key : ∀ k u, k < Go.Lib.nDigits u → k ≥ 1 → 10 ^ k ≤ u := by
   intro k
   induction k with
   | zero => intro u _ h; omega
   | succ k ih =>
    intro u hu _
    rcases Nat.lt_or_ge u 10 with h10 | h10
    ·rw [Go.Lib.nDigits_small h10] at hu; omega
    ·rw [Go.Lib.nDigits_big (by omega)] at hu
     by_cases hk : k = 0
     ·subst hk; simpa using h10
     ·have := ih (u / 10) (by omega) (by omega)
      rw [Nat.pow_succ]; omega
  have := key 9 u h' (by omega)
  omega
 ·exact h'
theorem Z4u {n : Int} (h0 : -999999999 ≤ n) (h1 : n ≤ 999999999) : (Go.Lib.itoa n).length ≤ 10 := by
 unfold Go.Lib.itoa
 split
 ·have := Qu8 (u := n.natAbs) (by omega)
  rw [List.length_cons, Go.Lib.decDigits_length]; omega
 ·have := Qu8 (u := n.toNat) (by omega)
  rw [Go.Lib.decDigits_length]; omega
def pf : List UInt8 → Nat × Nat → Nat × Nat
 | [], v => v
 | b :: l, v => pf l (if 48 ≤ b.toNat ∧ b.toNat ≤ 57 then (v.1 * 10 + (b.toNat - 48), v.2 + 1) else v)
theorem Qyh : ∀ (l r : List UInt8) (v : Nat × Nat), pf (l ++ r) v = pf r (pf l v)
 | [], _, _ => rfl
 | b :: l, r, v => by simp only [List.cons_append, pf]; exact Qyh l r _
theorem Qoa : ∀ (u : Nat), pf (Go.Lib.decDigits u) (0, 0) = (u, Go.Lib.nDigits u) := by
 intro u
 induction u using Nat.strongRecOn with
 | _ u ih =>
  rw [Go.Lib.decDigits]
  split
  ·rename_i h
   have : (UInt8.ofNat (48 + u)).toNat = 48 + u := by simp; omega
   simp only [pf, this]
   rw [if_pos (by omega), Go.Lib.nDigits_small h]
   simp
  ·rename_i h
   have : (UInt8.ofNat (48 + u % 10)).toNat = 48 + u % 10 := by simp; omega
   rw [Qyh, ih (u / 10) (by omega), Go.Lib.nDigits_big h]
   simp only [pf, this]
   rw [if_pos (by omega)]
   simp only [Prod.mk.injEq, and_true]
   omega
theorem Qk2 : ∀ (l : List UInt8) (v : Nat × Nat), v.1 < 10 ^ v.2 → (pf l v).1 < 10 ^ (pf l v).2 ∧ (pf l v).2 ≤ v.2 + l.length
 | [], v, h => ⟨h, by simp [pf]⟩
 | b :: l, v, h => by
  simp only [pf]
  split
  ·have := Qk2 l (v.1 * 10 + (b.toNat - 48), v.2 + 1) (by simp only [Nat.pow_succ]; omega)
   refine ⟨this.1, ?_⟩
   have := this.2
   simp only [List.length_cons] at this ⊢
   omega
  ·have := Qk2 l v h
   refine ⟨this.1, ?_⟩
   have := this.2
   simp only [List.length_cons]
   omega
theorem Qk3 {k : Nat} (h : k ≤ 11) : (10 : Nat) ^ k ≤ 100000000000 := Nat.le_trans (Nat.pow_le_pow_right (by decide) h) (by decide)
def sgn (s : List UInt8) (n : Nat) : Int := if s.head? = some 45 then -(n : Int) else n
theorem Qp3 : ∀ (N : Nat) (pre rest : List UInt8) (n k : Nat), (pre ++ rest).length ≤ 1048576 → rest.length < N → pre.length ≤ 11 → n < 10 ^ k → k ≤ pre.length →
  Zcc N (pre ++ rest) n k pre.length = K7 (pre ++ rest) (sgn (pre ++ rest) (pf (rest.take (11 - pre.length)) (n, k)).1) (pf (rest.take (11 - pre.length)) (n, k)).2
 | 0, _, _, _, _, _, h, _, _, _ => by omega
 | N + 1, pre, rest, n, k, h1, h2, h3, h4, h5 => by
  unfold Zcc
  have fin : (Zb (((decide (((pre ++ rest).length : Int) > (0 : Int))) = true → (0 ≤ (0 : Int) ∧ (0 : Int) < (pre ++ rest).length))) <|
   bif (decide (((pre ++ rest).length : Int) > (0 : Int))) && ((((pre ++ rest).getD (0 : Int).toNat 0).toNat : Int) == (45 : Int)) then
    K7 (pre ++ rest) (IntKind.i64.wrap (0 - (n : Int))) k
   else
    K7 (pre ++ rest) n k) = K7 (pre ++ rest) (sgn (pre ++ rest) n) k := by
   have hb := Qk3 (k := k) (by omega)
   rw [Zc (fun h => by simp at h ⊢; omega), Zx (by omega) (by omega)]
   unfold sgn
   cases hs : pre ++ rest with
   | nil => rfl
   | cons b l =>
    simp only [List.length_cons, List.head?_cons, Option.some.injEq]
    by_cases hc : b = 45
    ·subst hc
     rw [if_pos rfl, Zj (by simp)]
     congr 1; omega
    ·rw [if_neg hc, Zh (by
      simp only [Bool.and_eq_false_iff]
      right
      simp only [Int.toNat_zero, List.getD_cons_zero, beq_eq_false_iff_ne, ne_eq]
      intro e
      apply hc
      apply UInt8.toNat_inj.1
      have e : (b.toNat : Int) = 45 := e
      show b.toNat = 45
      omega)]
  cases rest with
  | nil =>
   rw [Zh (by simp)]
   simp only [List.take_nil, pf]
   exact fin
  | cons b rest =>
   by_cases hp : pre.length < 11
   ·simp only [List.length_append, List.length_cons] at h1 h2
    rw [Zj (by simp; omega), Zc (by simp; omega)]
    simp only [J7]
    rw [Zc (fun _ => by simp; omega)]
    have e := Qum pre b rest
    have hb := Qk3 (k := k) (by omega)
    have htk : (b :: rest).take (11 - pre.length) = b :: rest.take (11 - (pre.length + 1)) := by
     rw [show 11 - pre.length = (11 - (pre.length + 1)) + 1 by omega, List.take_succ_cons]
    rw [htk]
    simp only [pf]
    have hlt : b.toNat < 256 := b.toNat_lt
    by_cases hd : 48 ≤ b.toNat ∧ b.toNat ≤ 57
    ·rw [Zj (by simp; omega), Zc (by simp; omega), if_pos hd]
     unfold Zgl
     have u8 : IntKind.u8.wrap (((b.toNat : Int)) - 48) = ((b.toNat - 48 : Nat) : Int) := by
      rw [Qe0 _ (by omega) (by omega)]; omega
     have w1 : IntKind.i64.wrap ((n : Int) * 10) = (n : Int) * 10 := Zx (by omega) (by omega)
     have w2 : IntKind.i64.wrap ((b.toNat - 48 : Nat) : Int) = ((b.toNat - 48 : Nat) : Int) := Zx (by omega) (by omega)
     rw [u8, w1, w2, Zx (by omega) (by omega), Zx (n := (k : Int) + 1) (by omega) (by omega), Zs (m := (pre ++ b :: rest).length) (by simp) (by simp; omega)]
     have := Qp3 N (pre ++ [b]) rest (n * 10 + (b.toNat - 48)) (k + 1) (by simp; omega) (by omega) (by simp; omega) (by rw [Nat.pow_succ]; omega) (by simp; omega)
     rw [← e] at this
     simp only [List.length_append, List.length_cons, List.length_nil, Nat.zero_add] at this ⊢
     rw [← this]
     congr 1 <;> push_cast <;> omega
    ·rw [Zh (by simp; omega), if_neg hd]
     unfold Zgl
     rw [Zs (m := (pre ++ b :: rest).length) (by simp) (by simp; omega)]
     have := Qp3 N (pre ++ [b]) rest n k (by simp; omega) (by omega) (by simp; omega) h4 (by simp; omega)
     rw [← e] at this
     simp only [List.length_append, List.length_cons, List.length_nil, Nat.zero_add] at this ⊢
     exact this
   ·rw [Zh (by simp; omega), show 11 - pre.length = 0 by omega]
    simp only [List.take_zero, pf]
    exact fin
theorem Q27 (s : List UInt8) (hs : s.length ≤ 1048576) :
  (∃ n : Int, -999999999 ≤ n ∧ n ≤ 999999999 ∧ s = Go.Lib.itoa n ∧ Ze3 s = some (n, true, ()) ∧ Qu s = some (n, true, ())) ∨
  ((∀ n : Int, -999999999 ≤ n → n ≤ 999999999 → s ≠ Go.Lib.itoa n) ∧ Ze3 s = some (0, false, ()) ∧ Qu s = some (0, false, ())) := by
 have hI : (∃ n : Int, -999999999 ≤ n ∧ n ≤ 999999999 ∧ s = Go.Lib.itoa n ∧ Qu s = some (n, true, ())) ∨ ((∀ n : Int, -999999999 ≤ n → n ≤ 999999999 → s ≠ Go.Lib.itoa n) ∧ Qu s = some (0, false, ())) := by
  unfold Qu
  by_cases hl : s.length > 10
  ·rw [Zj (Zk (by omega))]
   refine .inr ⟨fun n h0 h1 e => ?_, rfl⟩
   have := Z4u h0 h1
   rw [← e] at this; omega
  ·rw [Zh (Zl (by omega))]
   simp only [Zwx]
   rw [Zc (by omega), Option.bind_some]
   cases ha : Go.Lib.atoi s with
   | none =>
    refine .inr ⟨fun n h0 h1 e => ?_, ?_⟩
    ·rw [e, Z05] at ha; cases ha
    ·simp
   | some n =>
    have hb := Go.Lib.atoi_bound ha (by omega)
    simp only [Option.getD_some, Option.isSome_some, Bool.not_true, cond_false, Zn4]
    rw [Zc (by omega), Option.bind_some]
    by_cases he : Go.Lib.itoa n = s
    ·simp only [he, beq_self_eq_true, Bool.not_true, Bool.or_false, Bool.false_or, cond_false, Z3, Option.bind_some]
     by_cases hr : -999999999 ≤ n ∧ n ≤ 999999999
     ·refine .inl ⟨n, hr.1, hr.2, he.symm, ?_⟩
      rw [Zh (by simp; exact hr)]
     ·refine .inr ⟨fun m h0 h1 e => ?_, ?_⟩
      ·rw [e] at he; have := Qrr he; subst this; exact hr ⟨h0, h1⟩
      ·rw [Zj (by simp; omega)]
    ·have : (Go.Lib.itoa n == s) = false := by simpa using he
     simp only [this, Bool.not_false, Bool.or_true, Bool.true_or, cond_true, Option.bind_some]
     refine .inr ⟨fun m h0 h1 e => ?_, trivial⟩
     rw [e, Z05] at ha
     cases ha
     exact he e.symm
 have hpf := Qp3 (((s.length : Int) - 0).toNat + 1) [] s 0 0 (by simpa using hs) (by omega) (by simp) (by simp) (by simp)
 simp only [List.nil_append, List.length_nil, Nat.sub_zero, Int.natCast_zero] at hpf
 have hS : Ze3 s = K7 s (sgn s (pf (s.take 11) (0, 0)).1) (pf (s.take 11) (0, 0)).2 := by
  unfold Ze3 Ziu; exact hpf
 obtain ⟨hb1, hb2⟩ := Qk2 (s.take 11) (0, 0) (by simp)
 have hk : (pf (s.take 11) (0, 0)).2 ≤ 11 := by
  have : (s.take 11).length ≤ 11 := by simp; omega
  omega
 have hb3 := Qk3 hk
 
 have hnum : ∀ n : Int, -999999999 ≤ n → n ≤ 999999999 → s = Go.Lib.itoa n → sgn s (pf (s.take 11) (0, 0)).1 = n ∧ (pf (s.take 11) (0, 0)).2 ≤ 9 := by
  intro n h0 h1 e
  have hsh := Z4u h0 h1
  rw [← e] at hsh
  rw [List.take_of_length_le (by omega)]
  unfold Go.Lib.itoa at e
  split at e
  ·rename_i hn
   rw [e]
   simp only [pf]
   rw [if_neg (by decide), Qoa]
   refine ⟨?_, Qu8 (by omega)⟩
   simp only [sgn, List.head?_cons, if_true]
   omega
  ·rename_i hn
   rw [e, Qoa]
   refine ⟨?_, Qu8 (by omega)⟩
   unfold sgn
   rw [if_neg]
   ·simp only; omega
   ·intro hh
    have := Ztf n.toNat 45 (List.mem_of_mem_head? hh)
    simp at this
 generalize (pf (s.take 11) (0, 0)).1 = u at hS hb1 hnum
 generalize (pf (s.take 11) (0, 0)).2 = k at hS hb1 hb2 hk hb3 hnum
 have hrange : -100000000000 ≤ sgn s u ∧ sgn s u ≤ 100000000000 := by unfold sgn; split <;> omega
 unfold K7 at hS
 simp only [Zbu (sgn s u) (by omega) (by omega), Qw6, Option.bind_some] at hS
 rcases hI with ⟨n, h0, h1, e, hi⟩ | ⟨hno, hi⟩
 ·obtain ⟨g1, g2⟩ := hnum n h0 h1 e
  refine .inl ⟨n, h0, h1, e, ?_, hi⟩
  rw [hS, g1]
  have hsh := Z4u h0 h1
  rw [← e] at hsh
  have : (decide ((k : Int) > 9) || decide ((s.length : Int) > 10)) = false := by simp; omega
  simp only [this, cond_false, ← e, beq_self_eq_true, Bool.not_true, Bool.or_false]
 ·refine .inr ⟨hno, ?_, hi⟩
  rw [hS]
  by_cases hc : (decide ((k : Int) > 9) || decide ((s.length : Int) > 10)) = true
  ·simp only [hc, cond_true, Bool.true_or]
  ·have hc' : (decide ((k : Int) > 9) || decide ((s.length : Int) > 10)) = false := by simpa using hc
   simp only [hc', cond_false, Bool.false_or]
   rw [Zj]
   simp only [Bool.not_eq_true', beq_eq_false_iff_ne, ne_eq]
   intro e
   simp only [Bool.or_eq_false_iff, decide_eq_false_iff_not] at hc'
   have hk9 : k ≤ 9 := by omega
   have : (10 : Nat) ^ k ≤ 1000000000 := Nat.le_trans (Nat.pow_le_pow_right (by decide) hk9) (by decide)
   exact hno (sgn s u) (by unfold sgn; split <;> omega) (by unfold sgn; split <;> omega) e.symm
def Q0z (c : UInt8) : List UInt8 → List UInt8 × List UInt8 × Bool
 | [] => ([], [], false)
 | b :: l => if b = c then ([], l, true) else (b :: (Q0z c l).1, (Q0z c l).2.1, (Q0z c l).2.2)
def Qr (c : UInt8) : List UInt8 → List (List UInt8)
 | [] => [[]]
 | b :: l => if b = c then [] :: Qr c l else match Qr c l with
  | [] => [[b]]
  | w :: ws => (b :: w) :: ws
theorem Zu9 (c : UInt8) : ∀ l, Qr c l ≠ []
 | [] => by simp [Qr]
 | b :: l => by
  unfold Qr
  split
  ·simp
  ·split <;> simp
theorem Qd1 (c : UInt8) : ∀ (a r : List UInt8), c ∉ a → Qr c (a ++ c :: r) = a :: Qr c r
 | [], r, _ => by simp [Qr]
 | b :: a, r, h => by
  have hb : b ≠ c := fun e => h (by simp [e])
  have ih := Qd1 c a r (fun hm => h (by simp [hm]))
  simp only [List.cons_append, Qr, hb, if_false, ih]
theorem Z6t (c : UInt8) : ∀ (a : List UInt8), c ∉ a → Qr c a = [a]
 | [], _ => by simp [Qr]
 | b :: a, h => by
  have hb : b ≠ c := fun e => h (by simp [e])
  have ih := Z6t c a (fun hm => h (by simp [hm]))
  simp only [Qr, hb, if_false, ih]
theorem Qxj (c : UInt8) : ∀ l : List UInt8, c ∉ l ∨ ∃ a r, l = a ++ c :: r ∧ c ∉ a
 | [] => .inl (by simp)
 | b :: l => by
  by_cases h : b = c
  ·exact .inr ⟨[], l, by simp [h], by simp⟩
  ·rcases Qxj c l with h' | ⟨a, r, e, h'⟩
   ·exact .inl (by simp [h', Ne.symm h])
   ·exact .inr ⟨b :: a, r, by simp [e], by simp [h', Ne.symm h]⟩
theorem Qj5 (c : UInt8) : ∀ l : List UInt8, c ∉ l → Go.Lib.index l [c] = -1
 | [], _ => rfl
 | b :: l, h => by
  have hb : ¬ c = b := fun e => h (by simp [e])
  have ih := Qj5 c l (fun hm => h (by simp [hm]))
  unfold Go.Lib.index
  rw [ih]
  simp [List.isPrefixOf, hb]
theorem Qj6 (c : UInt8) : ∀ (a r : List UInt8), c ∉ a → Go.Lib.index (a ++ c :: r) [c] = a.length
 | [], r, _ => by simp [Go.Lib.index, List.isPrefixOf]
 | b :: a, r, h => by
  have hb : ¬ c = b := fun e => h (by simp [e])
  have ih := Qj6 c a r (fun hm => h (by simp [hm]))
  rw [List.cons_append]
  unfold Go.Lib.index
  rw [ih]
  simp only [List.isPrefixOf, beq_eq_false_iff_ne.2 hb, Bool.false_and, Bool.false_eq_true, if_false]
  rw [if_neg (by simp)]
  simp
theorem Qym (c : UInt8) : ∀ (n : Nat) (l : List UInt8), l.length ≤ n → Go.Lib.splitK [c] 0 (Go.Lib.count l [c]) l = Qr c l := by
 intro n
 induction n with
 | zero =>
  intro l h
  have : l = [] := List.eq_nil_of_length_eq_zero (by omega)
  subst this; rfl
 | succ n ih =>
  intro l h
  rcases Qxj c l with h' | ⟨a, r, rfl, h'⟩
  ·rw [Go.Lib.count_miss (Qj5 c l h'), Z6t c l h']; rfl
  ·have hi := Qj6 c a r h'
   rw [Go.Lib.count_hit (i := a.length) (by simp) hi, Qd1 c a r h', Nat.add_comm, Go.Lib.splitK, hi]
   simp only [List.length_append, List.length_cons] at h
   have e1 : (a ++ c :: r).drop ((a.length : Int).toNat + [c].length) = r := by simp
   have e2 : (a ++ c :: r).drop (a.length + [c].length) = r := by simp
   have e3 : (a ++ c :: r).take ((a.length : Int).toNat + 0) = a := by simp
   rw [e1, e2, e3, ih r (by omega), if_neg (by simp)]
theorem Z6s (c : UInt8) : ∀ l : List UInt8, (Qr c l).length ≤ l.length + 1 ∧ ∀ w ∈ Qr c l, w.length ≤ l.length
 | [] => by simp [Qr]
 | b :: l => by
  obtain ⟨h1, h2⟩ := Z6s c l
  unfold Qr
  split
  ·refine ⟨by simp; omega, fun w hw => ?_⟩
   rcases List.mem_cons.1 hw with rfl | hw
   ·simp
   ·have := h2 w hw; simp; omega
  ·split
   ·simp
   ·rename_i w ws hw
    rw [hw] at h1 h2
    refine ⟨by simp at h1 ⊢; omega, fun w' hw' => ?_⟩
    rcases List.mem_cons.1 hw' with rfl | hw'
    ·have := h2 w (by simp); simp; omega
    ·have := h2 w' (by simp [hw']); simp; omega
def Z04 (p : List UInt8) : List (List UInt8) → List (List UInt8)
 | [] => [p]
 | w :: ws => (p ++ w) :: ws
theorem Qd8 {l : List (List UInt8)} (h : l ≠ []) : Z04 [] l = l := by cases l <;> simp_all [Z04]
theorem Qim (c : UInt8) : ∀ (N : Nat) (pre rest : List UInt8) (out : List (List UInt8)) (part : List UInt8), (pre ++ rest).length ≤ 1048576 → rest.length < N → out.length ≤ pre.length → part.length ≤ pre.length →
  Vw N (pre ++ rest) (c.toNat : Int) out part pre.length = some (out ++ Z04 part (Qr c rest), ())
 | 0, _, _, _, _, _, h, _, _ => by omega
 | N + 1, pre, [], out, part, h1, h2, h3, h4 => by
  unfold Vw
  simp only [List.length_append, List.length_nil] at h1
  rw [Zh (by simp), Zc (by unfold Qp; simp; omega)]
  simp [Qr, Z04]
 | N + 1, pre, b :: rest, out, part, h1, h2, h3, h4 => by
  unfold Vw
  simp only [List.length_append, List.length_cons] at h1 h2
  rw [Zj (by simp; omega), Zc (by simp; omega)]
  simp only [J7]
  have e := Qum pre b rest
  by_cases hb : b = c
  ·subst hb
   rw [Zj (by simp), Zc (by unfold Qp; simp; omega)]
   unfold Zc9
   rw [Zs (m := (pre ++ b :: rest).length) (by simp) (by simp; omega)]
   have := Qim b N (pre ++ [b]) rest (out ++ [part]) [] (by simp; omega) (by omega) (by simp; omega) (by simp)
   rw [← e] at this
   simp only [List.length_append, List.length_cons, List.length_nil, Nat.zero_add] at this ⊢
   rw [this, Qd8 (Zu9 b rest)]
   simp [Qr, Z04]
  ·have hne : ((b.toNat : Int) == (c.toNat : Int)) = false := by
    rw [beq_eq_false_iff_ne]
    intro e'
    exact hb (UInt8.toNat_inj.1 (by omega))
   rw [Zh hne, Zs (m := (pre ++ b :: rest).length) (by simp) (by simp; omega), Zc (by simp; omega)]
   have ht2 : ((pre ++ b :: rest).drop (pre.length : Int).toNat).take (((pre.length + 1 : Nat) : Int).toNat - (pre.length : Int).toNat) = [b] := by
    rw [show ((pre.length : Int)).toNat = pre.length by omega, show (((pre.length + 1 : Nat) : Int)).toNat - pre.length = 1 by omega, List.drop_left]
    rfl
   simp only [ht2]
   rw [Zc (by unfold Z5; simp; omega)]
   unfold Zc9
   rw [Zs (m := (pre ++ b :: rest).length) (by simp) (by simp; omega)]
   have := Qim c N (pre ++ [b]) rest out (part ++ [b]) (by simp; omega) (by omega) (by simp; omega) (by simp; omega)
   rw [← e] at this
   simp only [List.length_append, List.length_cons, List.length_nil, Nat.zero_add] at this ⊢
   rw [this]
   congr 3
   simp only [Qr, hb, if_false]
   cases h : Qr c rest with
   | nil => exact absurd h (Zu9 c rest)
   | cons w ws => simp [Z04]
theorem Q09 (c : UInt8) (s : List UInt8) (hs : s.length ≤ 1048576) : Zjw s (c.toNat : Int) = some (Qr c s, ()) := by
 have := Qim c (((s.length : Int) - 0).toNat + 1) [] s [] [] (by simpa using hs) (by omega) (by simp) (by simp)
 unfold Zjw Zfm
 simp only [List.nil_append, List.length_nil, Int.natCast_zero, Qd8 (Zu9 c s)] at this
 exact this
def hv (b : UInt8) : Int := if 48 ≤ b.toNat ∧ b.toNat ≤ 57 then (b.toNat : Int) - 48 else if 97 ≤ b.toNat ∧ b.toNat ≤ 102 then (b.toNat : Int) - 87 else -1
theorem Quz (b : UInt8) : Ze0 (b.toNat : Int) = some (hv b, ()) ∧ -1 ≤ hv b ∧ hv b ≤ 15 := by
 have hb : b.toNat < 256 := b.toNat_lt
 unfold hv
 generalize b.toNat = n at *
 unfold Ze0
 by_cases h1 : 48 ≤ n ∧ n ≤ 57
 ·rw [Zj (by simp; omega), Qe0 _ (by omega) (by omega), Zx (by omega) (by omega), if_pos h1]
  exact ⟨rfl, by omega, by omega⟩
 ·rw [Zh (by rw [Bool.and_eq_false_iff, decide_eq_false_iff_not, decide_eq_false_iff_not]; omega), if_neg h1]
  by_cases h2 : 97 ≤ n ∧ n ≤ 102
  ·rw [Zj (by simp; omega), Qe0 _ (by omega) (by omega), show IntKind.i64.wrap ((n : Int) - 97) = (n : Int) - 97 from Zx (by omega) (by omega), Zx (by omega) (by omega), if_pos h2]
   refine ⟨?_, by omega, by omega⟩
   congr 2; omega
  ·rw [Zh (by rw [Bool.and_eq_false_iff, decide_eq_false_iff_not, decide_eq_false_iff_not]; omega), if_neg h2]
   exact ⟨rfl, by omega, by omega⟩
def Zkp : List UInt8 → Option (List UInt8)
 | [] => some []
 | [_] => none
 | a :: b :: r => if hv a < 0 ∨ hv b < 0 then none else (Zkp r).map fun d => UInt8.ofNat (16 * (hv a).toNat + (hv b).toNat) :: d
theorem Qon : ∀ {s d : List UInt8}, Zkp s = some d → s.length = 2 * d.length
 | [], d, h => by simp [Zkp] at h; subst h; rfl
 | [_], d, h => by simp [Zkp] at h
 | a :: b :: r, d, h => by
  simp only [Zkp] at h
  split at h
  ·cases h
  ·simp only [Option.map_eq_some_iff] at h
   obtain ⟨d', h1, rfl⟩ := h
   have := Qon h1
   simp only [List.length_cons]; omega
theorem Qlq : ∀ (N : Nat) (pre rest : List UInt8) (out : List Int), (pre ++ rest).length ≤ 1048576 → rest.length % 2 = 0 → out.length ≤ pre.length → rest.length < N →
  Za5 N (pre ++ rest) out (pre.length : Int) = some (match Zkp rest with | some d => (Z6 out ++ d, true, ()) | none => ([], false, ())) ∧
  Zaz N (pre ++ rest) out (pre.length : Int) = some (match Zkp rest with | some d => (Z6 out ++ d, true, ()) | none => ([], false, ()))
 | 0, _, _, _, _, _, _, h => by omega
 | N + 1, pre, [], out, hs, h2, ho, hN => by
  unfold Za5 Zaz
  rw [Zh (by simp), Zh (by simp)]
  simp [Zkp]
 | N + 1, pre, [_], out, hs, h2, ho, hN => by simp at h2
 | N + 1, pre, a :: b :: rest, out, hs, h2, ho, hN => by
  unfold Za5 Zaz
  simp only [List.length_append, List.length_cons] at hs h2 hN
  have e : pre ++ a :: b :: rest = pre ++ [a, b] ++ rest := by simp
  have e1 : IntKind.i64.wrap ((pre.length : Int) + 1) = ((pre.length + 1 : Nat) : Int) := Zs (m := 1048576) (by omega) (by omega)
  have e3 : IntKind.i64.wrap ((pre.length : Int) + 2) = ((pre.length + 2 : Nat) : Int) := by rw [Zx (by omega) (by omega)]; omega
  have ga : (pre ++ a :: b :: rest).getD ((pre.length : Int).toNat) 0 = a := J7 pre a (b :: rest) 0
  have gb : (pre ++ a :: b :: rest).getD (((pre.length + 1 : Nat) : Int).toNat) 0 = b := by
   simp
  have hl : ((pre ++ a :: b :: rest).length : Int) = (pre.length : Int) + rest.length + 2 := by simp; omega
  rw [Zj (Zk (by omega)), Zj (Zk (by omega)), e1, e3, ga, gb, Qnq, Qnq]
  obtain ⟨hva, v0, v1⟩ := Quz a
  obtain ⟨hvb, u0, u1⟩ := Quz b
  rw [hva, hvb]
  simp only [Option.bind_some]
  have g1 : (0 : Int) ≤ (pre.length : Int) ∧ (pre.length : Int) < ((pre ++ a :: b :: rest).length : Int) := by omega
  have g2 : (0 : Int) ≤ ((pre.length + 1 : Nat) : Int) ∧ ((pre.length + 1 : Nat) : Int) < ((pre ++ a :: b :: rest).length : Int) := by omega
  simp only [Zc g1, Zc g2]
  by_cases hn : hv a < 0 ∨ hv b < 0
  ·rw [Zj (by simp; omega), Zj (by simp; omega)]
   simp [Zkp, hn]
  ·have hn' := hn
   rw [Zh (by simp; omega), Zh (by simp; omega)]
   have hc : IntKind.u8.wrap (IntKind.i64.wrap (IntKind.i64.wrap (16 * hv a) + hv b)) = ((16 * (hv a).toNat + (hv b).toNat : Nat) : Int) := by
    have w1 : IntKind.i64.wrap (16 * hv a) = 16 * hv a := Zx (by omega) (by omega)
    rw [w1, Zx (by omega) (by omega), Qe0 _ (by omega) (by omega)]; omega
   rw [hc, Zc (by simp [Qp]; omega), Zc (by simp [Qp]; omega)]
   obtain ⟨k1, k2⟩ := Qlq N (pre ++ [a, b]) rest (out ++ [((16 * (hv a).toNat + (hv b).toNat : Nat) : Int)]) (by simp; omega) (by omega) (by simp; omega) (by omega)
   rw [← e] at k1 k2
   simp only [List.length_append, List.length_cons, List.length_nil, Nat.zero_add] at k1 k2 ⊢
   rw [k1, k2]
   have hu : Zkp (a :: b :: rest) = (Zkp rest).map fun d => UInt8.ofNat (16 * (hv a).toNat + (hv b).toNat) :: d := by simp only [Zkp, hn, if_false]
   rw [hu]
   have hbo : Z6 (out ++ [((16 * (hv a).toNat + (hv b).toNat : Nat) : Int)]) = Z6 out ++ [UInt8.ofNat (16 * (hv a).toNat + (hv b).toNat)] := by
    generalize 16 * (hv a).toNat + (hv b).toNat = m
    simp [Z6]
   cases Zkp rest with
   | none => exact ⟨rfl, rfl⟩
   | some d => simp only [Option.map_some, hbo, List.append_assoc, List.singleton_append]; exact ⟨trivial, trivial⟩
def Ztx (s : List UInt8) : List UInt8 := (Zkp s).getD []
theorem Qoo : ∀ {s : List UInt8}, s.length % 2 = 1 → Zkp s = none
 | [], h => by simp at h
 | [_], _ => rfl
 | a :: b :: r, h => by
  have := Qoo (s := r) (by simp at h; omega)
  simp only [Zkp, this]; split <;> rfl
theorem Qlo (s : List UInt8) : (Ztx s).length ≤ s.length := by
 unfold Ztx
 cases h : Zkp s with
 | none => simp
 | some d => have := Qon h; simp; omega
theorem Qxk (s : List UInt8) (h : s.length ≤ 1048576) : Znr s = some (Ztx s, (Zkp s).isSome, ()) ∧ Js s = some (Ztx s, (Zkp s).isSome, ()) := by
 unfold Znr Js
 rw [Zc (by decide), Zc (by decide)]
 have e : Int.tmod (s.length : Int) 2 = ((s.length % 2 : Nat) : Int) := by rw [Int.tmod_eq_emod_of_nonneg (by omega)]; omega
 rw [e]
 by_cases h1 : s.length % 2 = 1
 ·rw [h1, Zj (by rfl), Zj (by rfl)]
  simp [Ztx, Qoo h1]
 ·have h0 : s.length % 2 = 0 := by omega
  rw [h0, Zh (by rfl), Zh (by rfl)]
  obtain ⟨k1, k2⟩ := Qlq (((s.length : Int) - 0).toNat + 1) [] s [] (by simpa using h) h0 (by simp) (by omega)
  simp only [List.nil_append, List.length_nil, Int.natCast_zero] at k1 k2
  unfold Zhk Zhc
  rw [k1, k2]
  unfold Ztx
  cases Zkp s with
  | none => exact ⟨rfl, rfl⟩
  | some d => simp [Z6]
theorem Qrn : ∀ k : Fin 16, hv (UInt8.ofNat (Z15 k.val).toNat) = (k.val : Int) := by decide
theorem Qno (b : UInt8) (l : List UInt8) : Zt5 (b :: l) = UInt8.ofNat (Z15 (b.toNat / 16)).toNat :: UInt8.ofNat (Z15 (b.toNat % 16)).toNat :: Zt5 l := by
 simp [Zt5, Z6, hx]
theorem Qlp : ∀ d : List UInt8, Zkp (Zt5 d) = some d
 | [] => rfl
 | b :: d => by
  have hb : b.toNat < 256 := b.toNat_lt
  rw [Qno]
  have h1 : hv (UInt8.ofNat (Z15 (b.toNat / 16)).toNat) = ((b.toNat / 16 : Nat) : Int) := Qrn ⟨b.toNat / 16, by omega⟩
  have h2 : hv (UInt8.ofNat (Z15 (b.toNat % 16)).toNat) = ((b.toNat % 16 : Nat) : Int) := Qrn ⟨b.toNat % 16, by omega⟩
  simp only [Zkp, h1, h2]
  rw [if_neg (by omega), Qlp d]
  simp only [Option.map_some, Int.toNat_natCast, Option.some.injEq, List.cons.injEq, and_true]
  apply UInt8.toNat_inj.1
  simp; omega
theorem Qnp (c : UInt8) (hc : c = 32 ∨ c = 10) : ∀ d : List UInt8, c ∉ Zt5 d
 | [] => by simp [Zt5, Z6]
 | b :: d => by
  have hb : b.toNat < 256 := b.toNat_lt
  have key : ∀ k : Fin 16, UInt8.ofNat (Z15 k.val).toNat ≠ 32 ∧ UInt8.ofNat (Z15 k.val).toNat ≠ 10 := by decide
  have k1 := key ⟨b.toNat / 16, by omega⟩
  have k2 := key ⟨b.toNat % 16, by omega⟩
  have ih := Qnp c hc d
  rw [Qno]
  simp only [List.mem_cons, not_or]
  rcases hc with rfl | rfl
  ·exact ⟨Ne.symm k1.1, Ne.symm k2.1, ih⟩
  ·exact ⟨Ne.symm k1.2, Ne.symm k2.2, ih⟩
theorem Qv5 (c : UInt8) (hc : c = 32 ∨ c = 10) (n : Int) : c ∉ Go.Lib.itoa n := by
 have hd : ∀ u, c ∉ Go.Lib.decDigits u := fun u h => by
  have := Ztf u c h
  rcases hc with rfl | rfl <;> simp at this
 unfold Go.Lib.itoa
 split
 ·simp only [List.mem_cons, not_or]
  refine ⟨?_, hd _⟩
  rcases hc with rfl | rfl <;> decide
 ·exact hd _
theorem Qv6 (xs : List (List UInt8)) (y sep : List UInt8) (h : xs ≠ []) : Go.Lib.join (xs ++ [y]) sep = Go.Lib.join xs sep ++ sep ++ y := by
 cases xs with
 | nil => exact absurd rfl h
 | cons x r =>
  rw [List.cons_append, Go.Lib.join_cons, Go.Lib.join_cons]
  simp [Go.Lib.joinTail]
theorem Qj8 (sep : List UInt8) (K : Nat) : ∀ (xs : List (List UInt8)), (∀ x ∈ xs, x.length ≤ K) → (Go.Lib.join xs sep).length ≤ (K + sep.length) * xs.length
 | [], _ => by simp [Go.Lib.join_nil]
 | x :: r, h => by
  rw [Go.Lib.join_cons, List.length_append, Go.Lib.joinTail_length]
  have h1 : x.length ≤ K := h x (by simp)
  have h2 : Go.Lib.lens r ≤ K * r.length := by
   have hr : ∀ z ∈ r, z.length ≤ K := fun z hz => h z (by simp [hz])
   clear h
   induction r with
   | nil => simp [Go.Lib.lens]
   | cons z r ih =>
    have := ih fun q hq => hr q (by simp [hq])
    have hz := hr z (by simp)
    simp only [Go.Lib.lens, List.map_cons, List.sum_cons, List.length_cons] at this ⊢
    rw [Nat.mul_succ]; omega
  rw [List.length_cons, Nat.add_mul, Nat.mul_succ, Nat.mul_succ]
  omega
theorem Qol {α : Type} {d : α} {l : List α} {i : Nat} (h : i < l.length) : l.take (i + 1) = l.take i ++ [l.getD i d] := by
 rw [List.take_add_one, List.getElem?_eq_getElem h, List.getD_eq_getElem?_getD, List.getElem?_eq_getElem h]; rfl
theorem Qlf {α : Type} {d : α} {txt : α → List UInt8} {sep : List UInt8} {ok : α → Prop} {K : Nat} (hK : ∀ x, ok x → (txt x).length ≤ K)
  {L : Nat → List α → List UInt8 → Int → Option (List UInt8 × Unit)} {fin : List UInt8 → Option (List UInt8 × Unit)}
  (hL : ∀ N l (s : List UInt8) (i : Nat), i < l.length → l.length ≤ 1048576 → ok (l.getD i d) → s.length ≤ (K + sep.length) * 1048576 →
   L (N + 1) l s (i : Int) = L N l ((if 0 < i then s ++ sep else s) ++ txt (l.getD i d)) ((i + 1 : Nat) : Int))
  (hE : ∀ N (l : List α) s, L (N + 1) l s (l.length : Int) = fin s) : ∀ (N : Nat) (l : List α) (s : List UInt8) (i : Nat), (∀ x ∈ l, ok x) → l.length ≤ 1048576 → i ≤ l.length → l.length - i < N →
   s = Go.Lib.join ((l.take i).map txt) sep → L N l s (i : Int) = fin (Go.Lib.join (l.map txt) sep)
 | 0, _, _, _, _, _, _, h, _ => by omega
 | N + 1, l, s, i, ho, hl, hi, hN, hs => by
  by_cases h : i < l.length
  ·have hx : ok (l.getD i d) := by
    rw [List.getD_eq_getElem?_getD, List.getElem?_eq_getElem h]
    exact ho _ (List.getElem_mem h)
   have hb : s.length ≤ (K + sep.length) * 1048576 := by
    rw [hs]
    refine Nat.le_trans (Qj8 sep K _ ?_) (Nat.mul_le_mul_left _ ?_)
    ·intro x hx
     obtain ⟨y, hy, rfl⟩ := List.mem_map.1 hx
     exact hK y (ho y (List.mem_of_mem_take hy))
    ·rw [List.length_map, List.length_take]; omega
   rw [hL N l s i h hl hx hb]
   refine Qlf hK hL hE N l _ (i + 1) ho hl h (by omega) ?_
   rw [Qol (d := d) h, List.map_append, List.map_cons, List.map_nil]
   by_cases h0 : 0 < i
   ·rw [if_pos h0, hs, Qv6]
    intro e
    have := congrArg List.length e
    rw [List.length_map, List.length_take, List.length_nil] at this
    omega
   ·have : i = 0 := by omega
    subst this
    rw [if_neg h0, hs]
    simp [Go.Lib.join_one, Go.Lib.join_nil]
  ·have : i = l.length := by omega
   subst this
   rw [hE, hs, List.take_length]
theorem Qc6 {α β : Type} {d : α} {txt : α → β} {ok : α → Prop} {ρ : Type}
  {L : Nat → List β → List α → Int → Int → Option ρ} {fin : List β → Option ρ}
  (hL : ∀ N out (l : List α) (i : Nat), i < l.length → l.length ≤ 1048576 → ok (l.getD i d) → out.length ≤ i → L (N + 1) out l (l.length : Int) (i : Int) = L N (out ++ [txt (l.getD i d)]) l (l.length : Int) ((i + 1 : Nat) : Int))
  (hE : ∀ N out (l : List α), L (N + 1) out l (l.length : Int) (l.length : Int) = fin out) : ∀ (N : Nat) (l : List α) (out : List β) (i : Nat), (∀ x ∈ l, ok x) → l.length ≤ 1048576 → i ≤ l.length → l.length - i < N →
   out = (l.take i).map txt → L N out l (l.length : Int) (i : Int) = fin (l.map txt)
 | 0, _, _, _, _, _, _, h, _ => by omega
 | N + 1, l, out, i, ho, hl, hi, hN, hs => by
  by_cases h : i < l.length
  ·have hx : ok (l.getD i d) := by
    rw [List.getD_eq_getElem?_getD, List.getElem?_eq_getElem h]
    exact ho _ (List.getElem_mem h)
   rw [hL N out l i h hl hx (by rw [hs, List.length_map, List.length_take]; omega)]
   refine Qc6 hL hE N l _ (i + 1) ho hl h (by omega) ?_
   rw [Qol (d := d) h, List.map_append, List.map_cons, List.map_nil, hs]
  ·have : i = l.length := by omega
   subst this
   rw [hE, hs, List.take_length]
def fq (x : Int) : Bool := decide (x ≥ (0 : Int)) && decide (x ≤ (4611686018427387903 : Int))
theorem Qwi (x : Int) : Qe x = some (fq x, ()) := rfl
theorem Qwh (x : Int) : Ye x = some (fq x, ()) := rfl
theorem Qeo : Zez = Jv := rfl
theorem Qw0 : Zhf = Qa := rfl
theorem Q0b : Qb2 = Zg9 := rfl
def Xk (f : Zg) : Bool :=
 bif f.1 == 4 then decide (f.2.2.1 = 0) && (f.2.2.2.1 == []) && (f.2.2.2.2.1 == false) && decide (f.2.2.2.2.2.2.1 = 0) && (f.2.2.2.2.2.2.2.2.1 == false)
 else bif f.1 == 5 then decide (f.2.2.1 = 0) && (f.2.2.2.1 == []) && (f.2.2.2.2.1 == false) && decide (f.2.2.2.2.2.2.1 = 0) && decide (f.2.2.2.2.2.2.2.1 = 0) && (f.2.2.2.2.2.2.2.2.1 == false)
 else bif f.1 == 8 then decide (f.2.2.2.2.2.1 = 0) && decide (f.2.2.2.2.2.2.1 = 0) && decide (f.2.2.2.2.2.2.2.1 = 0) && (f.2.2.2.2.2.2.2.2.1 == false)
 else bif f.1 == 17 || f.1 == 21 then decide (f.2.2.1 = 0) && (f.2.2.2.1 == []) && (f.2.2.2.2.1 == false) && decide (f.2.2.2.2.2.1 = 0) && decide (f.2.2.2.2.2.2.2.1 = 0) && (f.2.2.2.2.2.2.2.2.1 == false)
 else bif f.1 == 18 || f.1 == 22 then decide (f.2.1 = 0) && decide (f.2.2.1 = 0) && (f.2.2.2.1 == []) && (f.2.2.2.2.1 == false) && decide (f.2.2.2.2.2.1 = 0) && decide (f.2.2.2.2.2.2.2.1 = 0)
 else bif f.1 == 16 || f.1 == 20 then decide (f.2.1 = 0) && decide (f.2.2.1 = 0) && (f.2.2.2.1 == []) && (f.2.2.2.2.1 == false) && decide (f.2.2.2.2.2.1 = 0) && decide (f.2.2.2.2.2.2.2.1 = 0) && (f.2.2.2.2.2.2.2.2.1 == false)
 else false
def Ze8 (f : Zg) : Bool :=
 Xk f && fq f.2.1 && fq f.2.2.1 && fq f.2.2.2.2.2.1 && fq f.2.2.2.2.2.2.1 && fq f.2.2.2.2.2.2.2.1 && decide (f.2.2.2.1.length ≤ 400) && (bif f.1 == 18 || f.1 == 22 then decide (f.2.2.2.2.2.2.1 ≤ (1152921504606846976 : Int)) else decide (f.2.2.1 ≤ (4611686018427387903 : Int) - (f.2.2.2.1.length : Int)))
theorem Qr3 (k : Int) : ∃ s, Jv k = some (s, ()) ∧ ((s == ([] : List UInt8)) = !(k == 4 || k == 5 || k == 8 || k == 16 || k == 17 || k == 18 || k == 20 || k == 21 || k == 22)) := by
 unfold Jv
 cases h4 : k == 4 <;> cases h5 : k == 5 <;> cases h8 : k == 8 <;> cases h16 : k == 16 <;> cases h17 : k == 17 <;> cases h18 : k == 18 <;> cases h20 : k == 20 <;> cases h21 : k == 21 <;> cases h22 : k == 22 <;> exact ⟨_, rfl, rfl⟩
theorem Qop (f : Zg) : ∃ u, Zg9 f = some (u, ()) ∧ ((f.1 == 4 || f.1 == 5 || f.1 == 8 || f.1 == 16 || f.1 == 17 || f.1 == 18 || f.1 == 20 || f.1 == 21 || f.1 == 22) = true → eqV Zr u f = Xk f ∧ eqV Zr f u = Xk f) := by
 obtain ⟨k, st, off, data, fin, code, lim, final, uni, z⟩ := f
 by_cases h4 : k = 4
 ·subst h4; exact ⟨_, rfl, fun _ => by constructor <;> rw [Bool.eq_iff_iff] <;> simp [eqV, Xk] <;> grind⟩
 by_cases h5 : k = 5
 ·subst h5; exact ⟨_, rfl, fun _ => by constructor <;> rw [Bool.eq_iff_iff] <;> simp [eqV, Xk] <;> grind⟩
 by_cases h8 : k = 8
 ·subst h8; exact ⟨_, rfl, fun _ => by constructor <;> rw [Bool.eq_iff_iff] <;> simp [eqV, Xk] <;> grind⟩
 by_cases h17 : k = 17
 ·subst h17; exact ⟨_, rfl, fun _ => by constructor <;> rw [Bool.eq_iff_iff] <;> simp [eqV, Xk] <;> grind⟩
 by_cases h21 : k = 21
 ·subst h21; exact ⟨_, rfl, fun _ => by constructor <;> rw [Bool.eq_iff_iff] <;> simp [eqV, Xk] <;> grind⟩
 by_cases h18 : k = 18
 ·subst h18; exact ⟨_, rfl, fun _ => by constructor <;> rw [Bool.eq_iff_iff] <;> simp [eqV, Xk] <;> grind⟩
 by_cases h22 : k = 22
 ·subst h22; exact ⟨_, rfl, fun _ => by constructor <;> rw [Bool.eq_iff_iff] <;> simp [eqV, Xk] <;> grind⟩
 by_cases h16 : k = 16
 ·subst h16; exact ⟨_, rfl, fun _ => by constructor <;> rw [Bool.eq_iff_iff] <;> simp [eqV, Xk] <;> grind⟩
 by_cases h20 : k = 20
 ·subst h20; exact ⟨_, rfl, fun _ => by constructor <;> rw [Bool.eq_iff_iff] <;> simp [eqV, Xk] <;> grind⟩
 ·have e : ∀ c : Int, k ≠ c → (k == c) = false := fun c h => by simp [h]
  refine ⟨(k, 0, 0, [], false, 0, lim, 0, false, ()), ?_, fun hk => ?_⟩
  rotate_left
  ·simp only [e _ h4, e _ h5, e _ h8, e _ h17, e _ h21, e _ h18, e _ h22, e _ h16, e _ h20] at hk
   cases hk
  ·unfold Zg9 Qa Xi Zg1 Zg2
   simp only [e _ h4, e _ h5, e _ h8, e _ h17, e _ h21, e _ h18, e _ h22, cond_false, Option.bind_some]
theorem Qob {f : Zg} (h : Xk f = true) (h8 : f.1 ≠ 8) : f.2.2.1 = 0 ∧ f.2.2.2.1 = [] := by
 obtain ⟨k, st, off, data, fin, code, lim, final, uni, z⟩ := f
 unfold Xk at h
 simp only at h h8 ⊢
 have e8 : (k == 8) = false := by simp [h8]
 rw [e8] at h
 revert h
 cases k == 4 <;> cases k == 5 <;> cases (k == 17 || k == 21) <;> cases (k == 18 || k == 22) <;> cases (k == 16 || k == 20) <;> simp <;> grind
theorem Zr2 {f : Zg} (h : Xk f = true) : (f.1 == 4 || f.1 == 5 || f.1 == 8 || f.1 == 16 || f.1 == 17 || f.1 == 18 || f.1 == 20 || f.1 == 21 || f.1 == 22) = true := by
 obtain ⟨k, st, off, data, fin, code, lim, final, uni, z⟩ := f
 unfold Xk at h
 simp only at h ⊢
 revert h
 cases k == 4 <;> cases k == 5 <;> cases k == 8 <;> cases k == 17 <;> cases k == 21 <;> cases k == 18 <;> cases k == 22 <;> cases k == 16 <;> cases k == 20 <;> simp
theorem Zq2 (f : Zg) (hl : f.2.2.2.1.length ≤ 1048576) : Vt f = some (Ze8 f, ()) := by
 obtain ⟨s, hs, hn⟩ := Qr3 f.1
 obtain ⟨u, hu, hp⟩ := Qop f
 unfold Vt
 simp only [hs, hu, Qwi, Option.bind_some, hn]
 cases hk : (f.1 == 4 || f.1 == 5 || f.1 == 8 || f.1 == 16 || f.1 == 17 || f.1 == 18 || f.1 == 20 || f.1 == 21 || f.1 == 22)
 ·have hpf : Xk f = false := by
   cases h : Xk f
   ·rfl
   ·rw [Zr2 h] at hk; cases hk
  simp only [Bool.not_false, cond_true, Option.bind_some, Bool.true_or]
  unfold Ze8
  rw [hpf]; rfl
 ·simp only [Bool.not_true, cond_false, Option.bind_some, Bool.false_or, (hp hk).1]
  have hq : Ze8 f = (Xk f && fq f.2.1 && fq f.2.2.1 && fq f.2.2.2.2.2.1 && fq f.2.2.2.2.2.2.1 && fq f.2.2.2.2.2.2.2.1 && decide (f.2.2.2.1.length ≤ 400) && (bif f.1 == 18 || f.1 == 22 then decide (f.2.2.2.2.2.2.1 ≤ (1152921504606846976 : Int)) else decide (f.2.2.1 ≤ (4611686018427387903 : Int) - (f.2.2.2.1.length : Int)))) := rfl
  rw [hq, Zx (by omega) (by omega)]
  have hd : decide ((f.2.2.2.1.length : Int) > 400) = !(decide (f.2.2.2.1.length ≤ 400)) := by
   rw [Bool.eq_iff_iff]; simp; omega
  rw [hd]
  cases hpf : Xk f
  ·simp
  ·have hoff := Qob hpf
   cases fq f.2.1 <;> cases fq f.2.2.1 <;> cases fq f.2.2.2.2.2.1 <;> cases fq f.2.2.2.2.2.2.1 <;> cases fq f.2.2.2.2.2.2.2.1 <;> cases hlen : decide (f.2.2.2.1.length ≤ 400) <;> try rfl
   by_cases h8 : f.1 = 8
   ·simp [h8]
   ·have e8 : (f.1 == 8) = false := by simp [h8]
    obtain ⟨o1, o2⟩ := hoff h8
    unfold Zlw
    cases h18 : f.1 == 18 <;> cases h22 : f.1 == 22 <;> simp [e8, o1, o2]
theorem Z8i (f : Zg) (hl : f.2.2.2.1.length ≤ 1048576) : Zm4 f = some (Ze8 f, ()) := by
 obtain ⟨s, hs, hn⟩ := Qr3 f.1
 obtain ⟨u, hu, hp⟩ := Qop f
 unfold Zm4
 rw [Qeo, Q0b]
 simp only [hs, hu, Qwh, Option.bind_some, hn]
 cases hk : (f.1 == 4 || f.1 == 5 || f.1 == 8 || f.1 == 16 || f.1 == 17 || f.1 == 18 || f.1 == 20 || f.1 == 21 || f.1 == 22)
 ·have hpf : Xk f = false := by
   cases h : Xk f
   ·rfl
   ·rw [Zr2 h] at hk; cases hk
  simp only [Bool.not_false, cond_true, Option.bind_some, Bool.true_or]
  unfold Ze8
  rw [hpf]; rfl
 ·simp only [Bool.not_true, cond_false, Option.bind_some, Bool.false_or, (hp hk).2]
  have hq : Ze8 f = (Xk f && fq f.2.1 && fq f.2.2.1 && fq f.2.2.2.2.2.1 && fq f.2.2.2.2.2.2.1 && fq f.2.2.2.2.2.2.2.1 && decide (f.2.2.2.1.length ≤ 400) && (bif f.1 == 18 || f.1 == 22 then decide (f.2.2.2.2.2.2.1 ≤ (1152921504606846976 : Int)) else decide (f.2.2.1 ≤ (4611686018427387903 : Int) - (f.2.2.2.1.length : Int)))) := rfl
  rw [hq, Zx (by omega) (by omega)]
  have hd : decide ((f.2.2.2.1.length : Int) ≤ 400) = (decide (f.2.2.2.1.length ≤ 400)) := by
   rw [Bool.eq_iff_iff]; simp; omega
  rw [hd]
  cases hpf : Xk f
  ·simp
  ·have hoff := Qob hpf
   cases fq f.2.1 <;> cases fq f.2.2.1 <;> cases fq f.2.2.2.2.2.1 <;> cases fq f.2.2.2.2.2.2.1 <;> cases fq f.2.2.2.2.2.2.2.1 <;> try rfl
   by_cases h8 : f.1 = 8
   ·simp [h8]
   ·obtain ⟨o1, o2⟩ := hoff h8
    cases h18 : f.1 == 18 <;> cases h22 : f.1 == 22 <;> simp [o1, o2]
theorem Zma {x : Int} (h : fq x = true) : 0 ≤ x ∧ x ≤ 4611686018427387903 := by
 unfold fq at h
 simp only [Bool.and_eq_true, decide_eq_true_eq] at h
 exact ⟨h.1, h.2⟩
theorem Qlk (x : Int) : Ze6 x = some (decide (x ≥ 0) && decide (x ≤ 999999999), ()) := rfl
theorem Z4m (f : Zg) (hl : f.2.2.2.1.length ≤ 1048576) : ∃ r, Xr f = some (r, ()) ∧ J8 f = some (r, ()) ∧ r.length ≤ 2000 := by
 unfold Xr J8
 simp only [Zq2 f hl, Z8i f hl, Option.bind_some, Qlk]
 cases hok : Ze8 f
 ·exact ⟨[], rfl, rfl, by simp⟩
 ·have hok' := hok
  unfold Ze8 at hok'
  simp only [Bool.and_eq_true, decide_eq_true_eq] at hok'
  obtain ⟨⟨⟨⟨⟨⟨⟨hp, q1⟩, q2⟩, q3⟩, q4⟩, q5⟩, hlen⟩, _⟩ := hok'
  have q1 := Zma q1
  have q2 := Zma q2
  have q3 := Zma q3
  have q4 := Zma q4
  have q5 := Zma q5
  have hk := Zr2 hp
  unfold Zvy
  have d0 : ∀ x : Int, 0 ≤ x → (decide (x ≥ 0) && decide (x ≤ 999999999)) = decide (x ≤ 999999999) := fun x hx => by simp [hx]
  simp only [d0 _ q1.1, d0 _ q2.1, d0 _ q3.1, d0 _ q4.1, d0 _ q5.1, Bool.not_true, cond_false, Bool.false_or, Option.bind_some]
  cases h1 : decide (f.2.1 ≤ 999999999)
  ·exact ⟨[], rfl, rfl, by simp⟩
  cases h2 : decide (f.2.2.1 ≤ 999999999)
  ·exact ⟨[], rfl, rfl, by simp⟩
  cases h3 : decide (f.2.2.2.2.2.1 ≤ 999999999)
  ·exact ⟨[], rfl, rfl, by simp⟩
  cases h4 : decide (f.2.2.2.2.2.2.1 ≤ 999999999)
  ·exact ⟨[], rfl, rfl, by simp⟩
  cases h5 : decide (f.2.2.2.2.2.2.2.1 ≤ 999999999)
  ·exact ⟨[], rfl, rfl, by simp⟩
  obtain ⟨k, st, off, data, fin, code, lim, final, uni, z⟩ := f
  simp only at *
  have s1 := Zbu st (by omega) (by omega)
  have i1 := Zde st (by omega) (by omega)
  have l1 := Yk st (by omega) (by omega)
  have s2 := Zbu off (by omega) (by omega)
  have i2 := Zde off (by omega) (by omega)
  have l2 := Yk off (by omega) (by omega)
  have s3 := Zbu code (by omega) (by omega)
  have i3 := Zde code (by omega) (by omega)
  have l3 := Yk code (by omega) (by omega)
  have s4 := Zbu lim (by omega) (by omega)
  have i4 := Zde lim (by omega) (by omega)
  have l4 := Yk lim (by omega) (by omega)
  have s5 := Zbu final (by omega) (by omega)
  have i5 := Zde final (by omega) (by omega)
  have l5 := Yk final (by omega) (by omega)
  have sh := Q2k data hl
  have ih := Q26 data hl
  have lh := Qrk data
  generalize Go.Lib.itoa st = a at *
  generalize Go.Lib.itoa off = b at *
  generalize Go.Lib.itoa code = c at *
  generalize Go.Lib.itoa lim = d at *
  generalize Go.Lib.itoa final = e at *
  generalize Zt5 data = h at *
  have fin' : ∀ l : List (List UInt8), l.length ≤ 100 → (Go.Lib.join l [32]).length ≤ 100000 → Zbk l = some (Go.Lib.join l [32], ()) := fun l g1 g2 => by
   unfold Zbk Vy
   rw [Zc ⟨by omega, by omega⟩]; rfl
  simp only [Bool.or_eq_true, beq_iff_eq] at hk
  rcases hk with (((((((rfl | rfl) | rfl) | rfl) | rfl) | rfl) | rfl) | rfl) | rfl
  all_goals
   cases fin <;> cases uni <;>
   (
    simp only [Qeo, Qw0, Jv, Qa, Xi, V0, V1, Ze9, Ja, Zta, Ztb, Zuc, Int.reduceBEq, beq_self_eq_true,
     Bool.not_true, cond_false, cond_true, Bool.or_false, Bool.or_true, Bool.false_or, Bool.and_self, Option.bind_some, s1, s2, s3, s4, s5, sh, i1, i2, i3, i4, i5, ih]
    repeat rw [Zc (by simp only [List.length_append, List.length_cons, List.length_nil, Qp, Z5]; omega)]
    rw [fin' _ (by simp only [List.length_append, List.length_cons, List.length_nil]; omega) (by simp only [List.cons_append, List.nil_append, Go.Lib.join_cons, Go.Lib.joinTail, List.map_cons, List.map_nil, List.flatten_cons, List.flatten_nil, List.length_append, List.length_cons, List.length_nil]; omega)]
    refine ⟨_, rfl, ?_, ?_⟩
    ·simp [Go.Lib.join_cons, Go.Lib.joinTail]
    ·simp only [List.length_append, List.length_cons, List.length_nil]; omega)
def Q1 (k : Int) : List UInt8 :=
 if k = 4 then [114, 101, 115, 101, 116] else if k = 5 then [115, 116, 111, 112] else if k = 8 then [115, 116, 114, 101, 97, 109] else if k = 16 then [109, 97, 120, 100, 97, 116, 97]
 else if k = 17 then [109, 97, 120, 115, 116, 114, 101, 97, 109, 100, 97, 116, 97] else if k = 18 then [109, 97, 120, 115, 116, 114, 101, 97, 109, 115] else if k = 20 then [100, 97, 116, 97, 98, 108, 111, 99, 107, 101, 100]
 else if k = 21 then [115, 116, 114, 101, 97, 109, 100, 97, 116, 97, 98, 108, 111, 99, 107, 101, 100] else if k = 22 then [115, 116, 114, 101, 97, 109, 115, 98, 108, 111, 99, 107, 101, 100] else []
theorem Qka (k : Int) : Jv k = some (Q1 k, ()) := by
 unfold Jv Q1
 have key : ∀ (c : Int) (a b : List UInt8) (m : Option (List UInt8 × Unit)), m = some (b, ()) → (bif k == c then some (a, ()) else m) = some (if k = c then a else b, ()) := by
  intro c a b m hm
  by_cases h : k = c
  ·rw [Zj (by simp [h]), if_pos h]
  ·rw [Zh (by simp [h]), if_neg h, hm]
 exact key _ _ _ _ (key _ _ _ _ (key _ _ _ _ (key _ _ _ _ (key _ _ _ _ (key _ _ _ _ (key _ _ _ _ (key _ _ _ _ (key _ _ _ _ rfl))))))))
def Qdf (f : Zg) : Bool := decide (f.2.1 ≤ 999999999) && decide (f.2.2.1 ≤ 999999999) && decide (f.2.2.2.2.2.1 ≤ 999999999) && decide (f.2.2.2.2.2.2.1 ≤ 999999999) && decide (f.2.2.2.2.2.2.2.1 ≤ 999999999)
def ftx (f : Zg) : List UInt8 :=
 if f.1 = 4 then Q1 f.1 ++ 32 :: (Go.Lib.itoa f.2.1 ++ 32 :: (Go.Lib.itoa f.2.2.2.2.2.1 ++ 32 :: Go.Lib.itoa f.2.2.2.2.2.2.2.1))
 else if f.1 = 5 then Q1 f.1 ++ 32 :: (Go.Lib.itoa f.2.1 ++ 32 :: Go.Lib.itoa f.2.2.2.2.2.1)
 else if f.1 = 8 then Q1 f.1 ++ 32 :: (Go.Lib.itoa f.2.1 ++ 32 :: (Go.Lib.itoa f.2.2.1 ++ 32 :: ((120 :: Zt5 f.2.2.2.1) ++ if f.2.2.2.2.1 then [32, 102, 105, 110] else [])))
 else if f.1 = 17 ∨ f.1 = 21 then Q1 f.1 ++ 32 :: (Go.Lib.itoa f.2.1 ++ 32 :: Go.Lib.itoa f.2.2.2.2.2.2.1)
 else if f.1 = 18 ∨ f.1 = 22 then Q1 f.1 ++ 32 :: (Go.Lib.itoa f.2.2.2.2.2.2.1 ++ 32 :: if f.2.2.2.2.2.2.2.2.1 then [117, 110, 105] else [98, 105, 100, 105])
 else Q1 f.1 ++ 32 :: Go.Lib.itoa f.2.2.2.2.2.2.1
def Zpx (f : Zg) : List UInt8 := if Ze8 f = true ∧ Qdf f = true then ftx f else []
theorem Qwb (k : Int) : (Q1 k).length ≤ 17 := by
 unfold Q1; repeat' split
 all_goals simp
theorem Qby (f : Zg) (hl : f.2.2.2.1.length ≤ 1048576) : Xr f = some (Zpx f, ()) := by
 unfold Xr Zpx
 simp only [Zq2 f hl, Option.bind_some, Qlk, Qka]
 cases hok : Ze8 f
 ·simp
 ·have hok' := hok
  unfold Ze8 at hok'
  simp only [Bool.and_eq_true, decide_eq_true_eq] at hok'
  obtain ⟨⟨⟨⟨⟨⟨⟨hp, q1⟩, q2⟩, q3⟩, q4⟩, q5⟩, hlen⟩, _⟩ := hok'
  have q1 := Zma q1
  have q2 := Zma q2
  have q3 := Zma q3
  have q4 := Zma q4
  have q5 := Zma q5
  have hk := Zr2 hp
  have d0 : ∀ x : Int, 0 ≤ x → (decide (x ≥ 0) && decide (x ≤ 999999999)) = decide (x ≤ 999999999) := fun x hx => by simp [hx]
  unfold Qdf
  simp only [d0 _ q1.1, d0 _ q2.1, d0 _ q3.1, d0 _ q4.1, d0 _ q5.1, Bool.not_true, cond_false, Bool.false_or, Option.bind_some]
  cases h1 : decide (f.2.1 ≤ 999999999)
  ·simp
  cases h2 : decide (f.2.2.1 ≤ 999999999)
  ·simp
  cases h3 : decide (f.2.2.2.2.2.1 ≤ 999999999)
  ·simp
  cases h4 : decide (f.2.2.2.2.2.2.1 ≤ 999999999)
  ·simp
  cases h5 : decide (f.2.2.2.2.2.2.2.1 ≤ 999999999)
  ·simp
  obtain ⟨k, st, off, data, fin, code, lim, final, uni, z⟩ := f
  simp only at *
  have s1 := Zbu st (by omega) (by omega)
  have l1 := Yk st (by omega) (by omega)
  have s2 := Zbu off (by omega) (by omega)
  have l2 := Yk off (by omega) (by omega)
  have s3 := Zbu code (by omega) (by omega)
  have l3 := Yk code (by omega) (by omega)
  have s4 := Zbu lim (by omega) (by omega)
  have l4 := Yk lim (by omega) (by omega)
  have s5 := Zbu final (by omega) (by omega)
  have l5 := Yk final (by omega) (by omega)
  have sh := Q2k data hl
  have lh := Qrk data
  have ln := Qwb k
  unfold ftx
  simp only [Bool.not_true, Bool.or_false, cond_false, Option.bind_some, s1, s2, s3, s5, sh, Bool.and_self, and_self, if_true]
  generalize Go.Lib.itoa st = a at *
  generalize Go.Lib.itoa off = b at *
  generalize Go.Lib.itoa code = c at *
  generalize Go.Lib.itoa lim = d at *
  generalize Go.Lib.itoa final = e at *
  generalize Zt5 data = h at *
  generalize Q1 k = nm at *
  have g : ∀ (x y : List UInt8) (m : Option (List UInt8 × Unit)), x.length + y.length ≤ 100000 → Zb (x.length + y.length ≤ Z5) m = m := fun x y m hxy => Zc (by unfold Z5; omega)
  by_cases e4 : k = 4
  ·subst e4
   rw [Zj (by rfl), g _ _ _ (by simp; omega), g _ _ _ (by simp; omega), g _ _ _ (by simp; omega), g _ _ _ (by simp; omega), g _ _ _ (by simp; omega), g _ _ _ (by simp; omega)]
   simp
  rw [Zh (by simp [e4])]
  by_cases e5 : k = 5
  ·subst e5
   rw [Zj (by rfl), g _ _ _ (by simp; omega), g _ _ _ (by simp; omega), g _ _ _ (by simp; omega), g _ _ _ (by simp; omega)]
   simp
  rw [Zh (by simp [e5])]
  by_cases e8 : k = 8
  ·subst e8
   rw [Zj (by rfl), g _ _ _ (by simp; omega), g _ _ _ (by simp; omega), g _ _ _ (by simp; omega), g _ _ _ (by simp; omega), g _ _ _ (by simp; omega), g _ _ _ (by simp; omega)]
   have hf : Zta fin = some (if fin then [32, 102, 105, 110] else [], ()) := by cases fin <;> rfl
   rw [hf, Option.bind_some, g _ _ _ (by cases fin <;> simp <;> omega)]
   simp
  rw [Zh (by simp [e8])]
  have hj1 : ∀ t, (t = true → (k = 17 ∨ k = 21)) → (t = false → ¬ (k = 17 ∨ k = 21)) → V0 (k, st, off, data, fin, code, lim, final, uni, z) nm k t = some (if k = 17 ∨ k = 21 then nm ++ 32 :: (a ++ 32 :: d) else if k = 18 ∨ k = 22 then nm ++ 32 :: (d ++ 32 :: if uni = true then [117, 110, 105] else [98, 105, 100, 105]) else nm ++ 32 :: d, ()) := by
   intro t t1 t0
   unfold V0
   cases t
   ·simp only [cond_false]
    rw [if_neg (t0 rfl)]
    have hj2 : ∀ t, (t = true → (k = 18 ∨ k = 22)) → (t = false → ¬ (k = 18 ∨ k = 22)) → V1 (k, st, off, data, fin, code, lim, final, uni, z) nm t = some (if k = 18 ∨ k = 22 then nm ++ 32 :: (d ++ 32 :: if uni = true then [117, 110, 105] else [98, 105, 100, 105]) else nm ++ 32 :: d, ()) := by
     intro t u1 u0
     unfold V1
     have hu : Ztb uni = some (32 :: (if uni = true then [117, 110, 105] else [98, 105, 100, 105]), ()) := by cases uni <;> rfl
     cases t
     ·simp only [cond_false, s4, Option.bind_some]
      rw [if_neg (u0 rfl), g _ _ _ (by simp; omega), g _ _ _ (by simp; omega)]
      simp
     ·simp only [cond_true, s4, hu, Option.bind_some]
      rw [if_pos (u1 rfl), g _ _ _ (by simp; omega), g _ _ _ (by simp; omega), g _ _ _ (by cases uni <;> simp <;> omega)]
      simp
    by_cases e18 : k = 18
    ·rw [Zj (by simp [e18])]; exact hj2 _ (fun _ => .inl e18) (fun h => by simp [e18] at h)
    ·rw [Zh (by simp [e18])]; exact hj2 _ (fun h => .inr (by simpa using h)) (fun h => by simp at h; omega)
   ·simp only [cond_true, s1, s4, Option.bind_some]
    rw [if_pos (t1 rfl), g _ _ _ (by simp; omega), g _ _ _ (by simp; omega), g _ _ _ (by simp; omega), g _ _ _ (by simp; omega)]
    simp
  simp only [if_neg e4, if_neg e5, if_neg e8]
  by_cases e17 : k = 17
  ·rw [Zj (by simp [e17])]; exact hj1 _ (fun _ => .inl e17) (fun h => by simp [e17] at h)
  ·rw [Zh (by simp [e17])]; exact hj1 _ (fun h => .inr (by simpa using h)) (fun h => by simp at h; omega)
theorem Qnh (f : Zg) (hl : f.2.2.2.1.length ≤ 1048576) : J8 f = some (Zpx f, ()) ∧ (Zpx f).length ≤ 2000 := by
 obtain ⟨r, h1, h2, h3⟩ := Z4m f hl
 rw [Qby f hl] at h1
 have : Zpx f = r := by simpa using h1
 rw [this]; exact ⟨h2, h3⟩
open Classical in
noncomputable def pin (s : List UInt8) : Option Int := if h : ∃ n : Int, -999999999 ≤ n ∧ n ≤ 999999999 ∧ s = Go.Lib.itoa n then some h.choose else none
theorem Qyj {s : List UInt8} {n : Int} (h : pin s = some n) : -999999999 ≤ n ∧ n ≤ 999999999 ∧ s = Go.Lib.itoa n := by
 unfold pin at h
 split at h
 ·rename_i hh
  have := hh.choose_spec
  simp only [Option.some.injEq] at h
  rw [h] at this; exact this
 ·cases h
theorem Zup {n : Int} (h0 : -999999999 ≤ n) (h1 : n ≤ 999999999) : pin (Go.Lib.itoa n) = some n := by
 unfold pin
 have hh : ∃ m : Int, -999999999 ≤ m ∧ m ≤ 999999999 ∧ Go.Lib.itoa n = Go.Lib.itoa m := ⟨n, h0, h1, rfl⟩
 rw [dif_pos hh]
 congr 1
 exact (Qrr hh.choose_spec.2.2).symm
theorem Q0n (s : List UInt8) (hs : s.length ≤ 1048576) : Ze3 s = some ((pin s).getD 0, (pin s).isSome, ()) ∧ Qu s = some ((pin s).getD 0, (pin s).isSome, ()) := by
 rcases Q27 s hs with ⟨n, h0, h1, e, h2, h3⟩ | ⟨hn, h2, h3⟩
 ·have : pin s = some n := by rw [e]; exact Zup h0 h1
  rw [this]; exact ⟨h2, h3⟩
 ·have : pin s = none := by
   cases h : pin s with
   | none => rfl
   | some n => obtain ⟨a, b, c⟩ := Qyj h; exact absurd c (hn n a b)
  rw [this]; exact ⟨h2, h3⟩
noncomputable def Z40 (s : List UInt8) : Int := (pin s).getD (-1)
theorem Q1e (s : List UInt8) (hs : s.length ≤ 1048576) : Zs9 s = some (Z40 s, ()) := by
 unfold Zs9 Z40
 rw [(Q0n s hs).1]
 cases pin s <;> rfl
noncomputable def atN (w : List (List UInt8)) (i : Nat) : Int := if i < w.length then Z40 (w.getD i []) else -1
theorem Qnn {α : Type} {l : List α} {i : Nat} {d : α} (h : i < l.length) : l.getD i d ∈ l := by
 rw [List.getD_eq_getElem?_getD, List.getElem?_eq_getElem h]; exact List.getElem_mem h
theorem Qx3 (w : List (List UInt8)) (hw : ∀ x ∈ w, x.length ≤ 1048576) (i : Nat) : X6 w (i : Int) = some (atN w i, ()) := by
 unfold X6 atN
 by_cases h : i < w.length
 ·rw [Zh (Zl (by omega)), Zc (by omega), if_pos h, show ((i : Int)).toNat = i from rfl, Q1e _ (hw _ (Qnn h))]
  rfl
 ·rw [Zj (Zk (by omega)), if_neg h]
def Zko (w : List UInt8) : Int :=
 if w = Q1 4 then 4 else if w = Q1 5 then 5 else if w = Q1 8 then 8 else if w = Q1 16 then 16 else if w = Q1 17 then 17 else if w = Q1 18 then 18 else if w = Q1 20 then 20 else if w = Q1 21 then 21 else if w = Q1 22 then 22 else 0
theorem Z4x {k : Int} (h : Q1 k ≠ []) : Zko (Q1 k) = k := by
 unfold Q1 at h
 repeat' (split at h)
 all_goals first | (rename_i e; subst e; decide) | skip
 exact absurd rfl h
def kfm : Nat → List UInt8 → Int → Int
 | 0, _, c => c
 | m + 1, w, c => kfm m w (if Q1 (24 - (m + 1 : Nat)) = w ∧ w ≠ [] then 24 - (m + 1 : Nat) else c)
theorem Q08 (w : List UInt8) : kfm 23 w 0 = Zko w := by
 have key : ∀ k : Int, Q1 k = [114, 101, 115, 101, 116] ∨ Q1 k = [] ∨ True := fun _ => .inr (.inr trivial)
 by_cases h4 : w = Q1 4
 ·subst h4; decide
 by_cases h5 : w = Q1 5
 ·subst h5; decide
 by_cases h8 : w = Q1 8
 ·subst h8; decide
 by_cases h16 : w = Q1 16
 ·subst h16; decide
 by_cases h17 : w = Q1 17
 ·subst h17; decide
 by_cases h18 : w = Q1 18
 ·subst h18; decide
 by_cases h20 : w = Q1 20
 ·subst h20; decide
 by_cases h21 : w = Q1 21
 ·subst h21; decide
 by_cases h22 : w = Q1 22
 ·subst h22; decide
 have no : ∀ k : Int, ¬ (Q1 k = w ∧ w ≠ []) := by
  intro k ⟨e, hne⟩
  have := Z4x (k := k) (by rw [e]; exact hne)
  rw [e] at this
  unfold Zko at this
  simp only [h4, h5, h8, h16, h17, h18, h20, h21, h22, if_false] at this
  subst this
  exact hne (by rw [← e]; rfl)
 have st : ∀ m c, kfm m w c = c := by
  intro m
  induction m with
  | zero => intro c; rfl
  | succ m ih => intro c; simp only [kfm]; rw [if_neg (no _), ih]
 rw [st]
 unfold Zko
 simp only [h4, h5, h8, h16, h17, h18, h20, h21, h22, if_false]
noncomputable def Qyw (s : List UInt8) (t2 : Zg) (w : List (List UInt8)) (f : Zg) : Option (Zg × Bool × Unit) :=
 Option.bind (Qa f) fun t31 =>
 bif t31.1 then
  Option.bind (X6 w (1 : Int)) fun t33 =>
  Qs s t2 w (f.1, (t33.1, f.2.2))
 else
  Qs s t2 w f
theorem Qva (s : List UInt8) (t2 : Zg) (w : List (List UInt8)) (hw : 0 < w.length) : ∀ (m N : Nat) (f : Zg), m < N → m ≤ 23 →
  Ku N s t2 w f ((24 - m : Nat) : Int) = Qyw s t2 w (kfm m (w.getD 0 []) f.1, f.2)
 | m, 0, _, h, _ => by omega
 | 0, N + 1, f, h, _ => by
  unfold Ku
  rw [Zh (Zl (by omega))]
  rfl
 | m + 1, N + 1, f, h, h2 => by
  unfold Ku
  rw [Zj (Zk (by omega)), Zc (by omega), Qka]
  simp only [Option.bind_some, Zhs]
  have e0 : ((0 : Int)).toNat = 0 := rfl
  have ek : ((24 - (m + 1) : Nat) : Int) = 24 - (m + 1 : Nat) := by omega
  rw [Zc (fun _ => by omega), Zx (by omega) (by omega), show ((24 - (m + 1) : Nat) : Int) + 1 = ((24 - m : Nat) : Int) by omega]
  simp only [e0]
  have ih := fun f => Qva s t2 w hw m N f (by omega) (by omega)
  by_cases hc : Q1 ((24 - (m + 1) : Nat) : Int) = w.getD 0 [] ∧ w.getD 0 [] ≠ []
  ·have hx : (w.getD 0 [] == ([] : List UInt8)) = false := by rw [beq_eq_false_iff_ne]; exact hc.2
   rw [Zj (by rw [hc.1, hx, beq_self_eq_true]; rfl), ih]
   simp only [kfm]
   rw [ek] at hc ⊢
   rw [if_pos hc]
  ·rw [Zh (by
    rw [Bool.and_eq_false_iff]
    by_cases h1 : Q1 ((24 - (m + 1) : Nat) : Int) = w.getD 0 []
    ·right
     have : w.getD 0 [] = [] := Classical.byContradiction fun h' => hc ⟨h1, h'⟩
     rw [this]; rfl
    ·left; simpa using h1), ih]
   simp only [kfm]
   rw [ek] at hc
   rw [if_neg hc]
def zF : Zg := ((0 : Int), ((0 : Int), ((0 : Int), (([] : List UInt8), (false, ((0 : Int), ((0 : Int), ((0 : Int), (false, ())))))))))
noncomputable def chk (s : List UInt8) (f : Zg) : Zg × Bool × Unit := if s ≠ [] ∧ Zpx f = s then (f, true, ()) else (zF, false, ())
theorem j3S (s : List UInt8) (t2 f : Zg) (hf : f.2.2.2.1.length ≤ 1048576) : Yv s t2 f = some (chk s f) := by
 unfold Yv chk
 rw [Qby f hf]
 by_cases h : s = []
 ·subst h; rfl
 ·have : (s == []) = false := by simpa using h
  simp only [this, cond_false, Option.bind_some, Bool.false_or]
  by_cases h2 : Zpx f = s
  ·rw [Zh (by simp [h2]), if_pos ⟨h, h2⟩]
  ·rw [Zj (by simp [h2]), if_neg (fun e => h2 e.2)]; rfl
noncomputable def frS (w : List (List UInt8)) : Zg :=
 let k := Zko (w.getD 0 [])
 if k = 4 then (k, atN w 1, 0, [], false, atN w 2, 0, atN w 3, false, ())
 else if k = 5 then (k, atN w 1, 0, [], false, atN w 2, 0, 0, false, ())
 else if k = 8 then (k, atN w 1, atN w 2, (if 3 < w.length ∧ 0 < (w.getD 3 []).length then Ztx ((w.getD 3 []).drop 1) else []), decide (w.length = 5), 0, 0, 0, false, ())
 else if k = 17 ∨ k = 21 then (k, atN w 1, 0, [], false, 0, atN w 2, 0, false, ())
 else if k = 18 ∨ k = 22 then (k, 0, 0, [], false, 0, atN w 1, 0, decide (w.length = 3) && (w.getD 2 [] == [117, 110, 105]), ())
 else (k, 0, 0, [], false, 0, atN w 1, 0, false, ())
theorem Qen (w : List UInt8) : Zko w = 0 ∨ Zko w = 4 ∨ Zko w = 5 ∨ Zko w = 8 ∨ Zko w = 16 ∨ Zko w = 17 ∨ Zko w = 18 ∨ Zko w = 20 ∨ Zko w = 21 ∨ Zko w = 22 := by
 unfold Zko; repeat' split
 all_goals simp
theorem Qvh (s : List UInt8) (hs : s.length ≤ 1048576) : Zh2 s = some (chk s (frS (Qr 32 s))) := by
 obtain ⟨hl1, hl2⟩ := Z6s 32 s
 have hne := Zu9 32 s
 unfold Zh2
 have hc := Q09 32 s hs
 rw [show (((32 : UInt8).toNat : Int)) = 32 from rfl] at hc
 rw [hc, Option.bind_some]
 generalize Qr 32 s = w at *
 have hw : 0 < w.length := List.length_pos_iff.2 hne
 have hwl : ∀ x ∈ w, x.length ≤ 1048576 := fun x hx => Nat.le_trans (hl2 x hx) hs
 have hl := Qva s zF w hw 23 24 zF (by omega) (by omega)
 have a1 := Qx3 w hwl 1
 have a2 := Qx3 w hwl 2
 have a3 := Qx3 w hwl 3
 simp only [Int.natCast_one] at a1
 rw [show ((2 : Nat) : Int) = 2 from rfl] at a2
 rw [show ((3 : Nat) : Int) = 3 from rfl] at a3
 have : Ku (Zgk s zF w zF 1) s zF w zF 1 = Qyw s zF w (kfm 23 (w.getD 0 []) zF.1, zF.2) := hl
 refine Eq.trans this ?_
 rw [show zF.1 = 0 from rfl, Q08]
 unfold Qyw frS
 generalize hk : Zko (w.getD 0 []) = k
 have hkc := Qen (w.getD 0 [])
 rw [hk] at hkc
 simp only [zF]
 rcases hkc with rfl | rfl | rfl | rfl | rfl | rfl | rfl | rfl | rfl | rfl
 ·rw [show Qa (0, (0, (0, ([], (false, (0, (0, (0, (false, ()))))))))) = some (false, ()) from rfl]
  simp only [Option.bind_some, cond_false, Qs]
  show Option.bind (X6 w 1) _ = _
  rw [a1, Option.bind_some, j3S _ _ _ (by simp)]
  rfl
 ·rw [show Qa (4, (0, (0, ([], (false, (0, (0, (0, (false, ()))))))))) = some (true, ()) from rfl]
  simp only [Option.bind_some, cond_true, Qs, a1]
  show Option.bind (X6 w 2) _ = _
  rw [a2, Option.bind_some, a3, Option.bind_some, j3S _ _ _ (by simp)]
  rfl
 ·rw [show Qa (5, (0, (0, ([], (false, (0, (0, (0, (false, ()))))))))) = some (true, ()) from rfl]
  simp only [Option.bind_some, cond_true, Qs, a1]
  show Option.bind (X6 w 2) _ = _
  rw [a2, Option.bind_some, j3S _ _ _ (by simp)]
  rfl
 ·rw [show Qa (8, (0, (0, ([], (false, (0, (0, (0, (false, ()))))))))) = some (true, ()) from rfl]
  simp only [Option.bind_some, cond_true, Qs, a1]
  show Option.bind (X6 w 2) _ = _
  rw [a2, Option.bind_some, Zc (fun h => by simp at h; omega)]
  have e5 : ((w.length : Int) == 5) = decide (w.length = 5) := by rw [Bool.eq_iff_iff]; simp; omega
  by_cases h3 : 3 < w.length ∧ 0 < (w.getD 3 []).length
  ·have h3l := hwl _ (Qnn (d := []) h3.1)
   have hg : (0 : Int) ≤ 1 ∧ (1 : Int) ≤ ((w.getD (3 : Int).toNat []).length : Int) ∧ ((w.getD (3 : Int).toNat []).length : Int) ≤ ((w.getD (3 : Int).toNat []).length : Int) := by
    show (0 : Int) ≤ 1 ∧ (1 : Int) ≤ ((w.getD 3 []).length : Int) ∧ ((w.getD 3 []).length : Int) ≤ ((w.getD 3 []).length : Int)
    omega
   rw [Zj (by
    show (decide ((w.length : Int) > 3) && decide (((w.getD 3 []).length : Int) > 0)) = true
    rw [Zk (by omega), Zk (by omega)]; rfl), Zc (by omega), Zc hg]
   have ed : ((w.getD (3 : Int).toNat []).drop (1 : Int).toNat).take ((((w.getD (3 : Int).toNat []).length : Int)).toNat - (1 : Int).toNat) = (w.getD 3 []).drop 1 := by
    rw [List.take_of_length_le]
    ·rfl
    ·rw [List.length_drop]; simp
   have hd1 : ((w.getD 3 []).drop 1).length ≤ 1048576 := by rw [List.length_drop]; omega
   rw [ed, (Qxk _ hd1).1, Option.bind_some]
   unfold Zc7
   have := Qlo ((w.getD 3 []).drop 1)
   rw [j3S _ _ _ (by simp only; omega), e5, if_pos h3]
   rfl
  ·rw [Zh (by
    show (decide ((w.length : Int) > 3) && decide (((w.getD 3 []).length : Int) > 0)) = false
    rw [Bool.and_eq_false_iff, decide_eq_false_iff_not, decide_eq_false_iff_not]; omega)]
   unfold Zc7
   rw [j3S _ _ _ (by simp), e5, if_neg h3]
   rfl
 ·rw [show Qa (16, (0, (0, ([], (false, (0, (0, (0, (false, ()))))))))) = some (false, ()) from rfl]
  simp only [Option.bind_some, cond_false, Qs]
  show Option.bind (X6 w 1) _ = _
  rw [a1, Option.bind_some, j3S _ _ _ (by simp)]
  rfl
 ·rw [show Qa (17, (0, (0, ([], (false, (0, (0, (0, (false, ()))))))))) = some (true, ()) from rfl]
  simp only [Option.bind_some, cond_true, Qs, a1]
  show Option.bind (X6 w 2) _ = _
  rw [a2, Option.bind_some, j3S _ _ _ (by simp)]
  rfl
 ·rw [show Qa (18, (0, (0, ([], (false, (0, (0, (0, (false, ()))))))))) = some (false, ()) from rfl]
  simp only [Option.bind_some, cond_false, Qs]
  show Option.bind (X6 w 1) _ = _
  rw [a1, Option.bind_some, Zc (fun h => by simp at h; omega), j3S _ _ _ (by simp)]
  have e3 : ((w.length : Int) == 3) = decide (w.length = 3) := by rw [Bool.eq_iff_iff]; simp; omega
  rw [e3]
  rfl
 ·rw [show Qa (20, (0, (0, ([], (false, (0, (0, (0, (false, ()))))))))) = some (false, ()) from rfl]
  simp only [Option.bind_some, cond_false, Qs]
  show Option.bind (X6 w 1) _ = _
  rw [a1, Option.bind_some, j3S _ _ _ (by simp)]
  rfl
 ·rw [show Qa (21, (0, (0, ([], (false, (0, (0, (0, (false, ()))))))))) = some (true, ()) from rfl]
  simp only [Option.bind_some, cond_true, Qs, a1]
  show Option.bind (X6 w 2) _ = _
  rw [a2, Option.bind_some, j3S _ _ _ (by simp)]
  rfl
 ·rw [show Qa (22, (0, (0, ([], (false, (0, (0, (0, (false, ()))))))))) = some (false, ()) from rfl]
  simp only [Option.bind_some, cond_false, Qs]
  show Option.bind (X6 w 1) _ = _
  rw [a1, Option.bind_some, Zc (fun h => by simp at h; omega), j3S _ _ _ (by simp)]
  have e3 : ((w.length : Int) == 3) = decide (w.length = 3) := by rw [Bool.eq_iff_iff]; simp; omega
  rw [e3]
  rfl
def Qyz (s : List UInt8) : List UInt8 := Ztx (Go.Lib.trimPrefix s [120])
def Zxe (r : List (List UInt8)) : Bool := match r with | [a] => a == [117, 110, 105] | _ => false
noncomputable def Wy {β : Type} (r : List (List UInt8)) (K : Int → List (List UInt8) → Option β) : Option β :=
 match r with
 | [] => none
 | a :: r => match pin a with
  | none => none
  | some n => K n r
noncomputable def frI (w : List (List UInt8)) : Option Zg :=
 let k := Zko (w.headD [])
 let r := w.tail
 if k = 4 then Wy r fun st r => Wy r fun c r => Wy r fun fi _ => some (4, st, 0, [], false, c, 0, fi, false, ())
 else if k = 5 then Wy r fun st r => Wy r fun c _ => some (5, st, 0, [], false, c, 0, 0, false, ())
 else if k = 8 then Wy r fun st r => Wy r fun off r => some (8, st, off, (match r with | [] => [] | a :: _ => Qyz a), decide (r.length = 2), 0, 0, 0, false, ())
 else if k = 17 ∨ k = 21 then Wy r fun st r => Wy r fun l _ => some (k, st, 0, [], false, 0, l, 0, false, ())
 else Wy r fun l r => some (k, 0, 0, [], false, 0, l, 0, decide (k = 18 ∨ k = 22) && Zxe r, ())
noncomputable def Q2q (s : List UInt8) (o : Option Zg) : Zg × Bool × Unit := match o with
 | none => (zF, false, ())
 | some f => chk s f
theorem Qyy (s p : List UInt8) : (Go.Lib.trimPrefix s p).length ≤ s.length := by
 unfold Go.Lib.trimPrefix; split <;> simp
theorem Qm1 (k : Int) : Zez k = some (Q1 k, ()) := by
 rw [show Zez k = Jv k from rfl]; exact Qka k
def kfI : Nat → List UInt8 → Int
 | 0, _ => 0
 | m + 1, w => if Q1 (23 - (m + 1 : Nat)) = w then 23 - (m + 1 : Nat) else kfI m w
theorem Q07 (w : List UInt8) (hne : w ≠ []) : kfI 19 w = Zko w := by
 by_cases h4 : w = Q1 4
 ·subst h4; decide
 by_cases h5 : w = Q1 5
 ·subst h5; decide
 by_cases h8 : w = Q1 8
 ·subst h8; decide
 by_cases h16 : w = Q1 16
 ·subst h16; decide
 by_cases h17 : w = Q1 17
 ·subst h17; decide
 by_cases h18 : w = Q1 18
 ·subst h18; decide
 by_cases h20 : w = Q1 20
 ·subst h20; decide
 by_cases h21 : w = Q1 21
 ·subst h21; decide
 by_cases h22 : w = Q1 22
 ·subst h22; decide
 have no : ∀ k : Int, ¬ (Q1 k = w) := by
  intro k e
  have := Z4x (k := k) (by rw [e]; exact hne)
  rw [e] at this
  unfold Zko at this
  simp only [h4, h5, h8, h16, h17, h18, h20, h21, h22, if_false] at this
  subst this
  exact hne (by rw [← e]; rfl)
 have st : ∀ m, kfI m w = 0 := by
  intro m
  induction m with
  | zero => rfl
  | succ m ih => simp only [kfI]; rw [if_neg (no _), ih]
 rw [st]
 unfold Zko
 simp only [h4, h5, h8, h16, h17, h18, h20, h21, h22, if_false]
theorem Qrs (w : List UInt8) (hne : w ≠ []) : ∀ (m N : Nat), m < N → m ≤ 19 → Vn N w ((23 - m : Nat) : Int) = some (kfI m w, ())
 | m, 0, h, _ => by omega
 | 0, N + 1, _, _ => by
  unfold Vn
  rw [Zh (Zl (by omega))]
  rfl
 | m + 1, N + 1, h, h2 => by
  have hx : (w == ([] : List UInt8)) = false := by rw [beq_eq_false_iff_ne]; exact hne
  unfold Vn
  rw [Zj (Zk (by omega)), hx]
  simp only [Bool.not_false, cond_true, Qm1, Option.bind_some, Bool.true_and]
  have ek : ((23 - (m + 1) : Nat) : Int) = 23 - (m + 1 : Nat) := by omega
  rw [Zx (by omega) (by omega), show ((23 - (m + 1) : Nat) : Int) + 1 = ((23 - m : Nat) : Int) by omega, Qrs w hne m N (by omega) (by omega), ek]
  simp only [kfI]
  by_cases hc : Q1 (23 - (m + 1 : Nat)) = w
  ·rw [Zj (by simpa using hc), if_pos hc]
  ·rw [Zh (by simpa using hc), if_neg hc]
theorem Qu2 : ∀ (m N : Nat), m < N → m ≤ 19 → Vn N [] ((23 - m : Nat) : Int) = some (0, ())
 | m, 0, h, _ => by omega
 | 0, N + 1, _, _ => by
  unfold Vn
  rw [Zh (Zl (by omega))]
 | m + 1, N + 1, h, h2 => by
  unfold Vn
  rw [Zj (Zk (by omega))]
  simp only [beq_self_eq_true, Bool.not_true, cond_false, Option.bind_some, Bool.false_and]
  rw [Zx (by omega) (by omega), show ((23 - (m + 1) : Nat) : Int) + 1 = ((23 - m : Nat) : Int) by omega, Qu2 m N (by omega) (by omega)]
theorem Qv7 (w : List UInt8) : Zsk w = some (Zko w, ()) := by
 unfold Zsk
 by_cases h : w = []
 ·subst h; exact Qu2 19 20 (by omega) (by omega)
 ·have := Qrs w h 19 20 (by omega) (by omega)
  rw [Q07 w h] at this; exact this
theorem Zd4 {α : Type} (a : α) (r : List α) : ((a :: r).drop (1 : Int).toNat).take ((((a :: r).length : Nat) : Int).toNat - (1 : Int).toNat) = r := by
 rw [List.take_of_length_le]
 ·rfl
 ·simp
theorem hdc {β : Type} (a : List UInt8) (r : List (List UInt8)) (ha : a.length ≤ 1048576) (x : Option β) (F : Int × Bool × Unit → Option β) :
  (bif (((a :: r).length : Nat) : Int) == (0 : Int) then x else Zb ((0 : Int) ≤ 0 ∧ (0 : Int) < (((a :: r).length : Nat) : Int)) (Option.bind (Qu ((a :: r).getD (0 : Int).toNat [])) F)) = F ((pin a).getD 0, (pin a).isSome, ()) := by
 rw [Zh (by simp; omega), Zc (by simp)]
 show Option.bind (Qu a) F = _
 rw [(Q0n a ha).2]; rfl
theorem hdn {β : Type} (x y : Option β) : (bif ((([] : List (List UInt8)).length : Nat) : Int) == (0 : Int) then x else y) = x := rfl
theorem Zpi {β : Type} (a : List UInt8) (r : List (List UInt8)) (x : Option β) : Zb ((0 : Int) ≤ 1 ∧ (1 : Int) ≤ (((a :: r).length : Nat) : Int) ∧ (((a :: r).length : Nat) : Int) ≤ (((a :: r).length : Nat) : Int)) x = x := Zc (by simp; omega)
theorem j1I (s : List UInt8) (t2 f : Zg) (rest : List (List UInt8)) (hf : f.2.2.2.1.length ≤ 1048576) :
  Z0 s t2 f rest = some (chk s (f.1, (f.2.1, (f.2.2.1, (f.2.2.2.1, (f.2.2.2.2.1, (f.2.2.2.2.2.1, (f.2.2.2.2.2.2.1, (f.2.2.2.2.2.2.2.1, (decide (f.1 = 18 ∨ f.1 = 22) && Zxe rest, f.2.2.2.2.2.2.2.2.2)))))))))) := by
 unfold Z0 chk
 have e : ((((f.1 == (18 : Int)) || (f.1 == (22 : Int))) && ((rest.length : Int) == (1 : Int))) && ((rest.getD (0 : Int).toNat ([] : List UInt8)) == ([117, 110, 105] : List UInt8))) = (decide (f.1 = 18 ∨ f.1 = 22) && Zxe rest) := by
  have e1 : ((f.1 == (18 : Int)) || (f.1 == (22 : Int))) = decide (f.1 = 18 ∨ f.1 = 22) := by rw [Bool.eq_iff_iff]; simp
  rw [e1, Bool.and_assoc]
  congr 1
  rcases rest with _ | ⟨a, _ | ⟨b, r⟩⟩
  ·rfl
  ·simp [Zxe]
  ·have : (((a :: b :: r).length : Nat) : Int) ≠ 1 := by simp; omega
   rw [beq_eq_false_iff_ne.2 this]; rfl
 simp only [e]
 rw [Zc (by
  intro h
  rw [Bool.and_eq_true, beq_iff_eq] at h
  omega)]
 have hF := Qnh (f.1, (f.2.1, (f.2.2.1, (f.2.2.2.1, (f.2.2.2.2.1, (f.2.2.2.2.2.1, (f.2.2.2.2.2.2.1, (f.2.2.2.2.2.2.2.1, (decide (f.1 = 18 ∨ f.1 = 22) && Zxe rest, f.2.2.2.2.2.2.2.2.2))))))))) hf
 rw [hF.1]
 generalize Zpx (f.1, (f.2.1, (f.2.2.1, (f.2.2.2.1, (f.2.2.2.2.1, (f.2.2.2.2.2.1, (f.2.2.2.2.2.2.1, (f.2.2.2.2.2.2.2.1, (decide (f.1 = 18 ∨ f.1 = 22) && Zxe rest, f.2.2.2.2.2.2.2.2.2))))))))) = t
 by_cases h : s = []
 ·subst h; rfl
 ·have : (s == []) = false := by simpa using h
  simp only [this, cond_false, Option.bind_some, Bool.false_or]
  by_cases h2 : t = s
  ·rw [Zh (by simp [h2]), if_pos ⟨h, h2⟩]
  ·rw [Zj (by simp [h2]), if_neg (fun e => h2 e.2)]; rfl
theorem Qu0 (s : List UInt8) (hs : s.length ≤ 1048576) : Zdy s = some (Q2q s (frI (Qr 32 s))) := by
 obtain ⟨-, hl2⟩ := Z6s 32 s
 have hne := Zu9 32 s
 unfold Zdy Ztv
 rw [Zc ⟨by omega, by simp⟩, Qym 32 s.length s (Nat.le_refl _), Option.bind_some]
 generalize Qr 32 s = w at *
 rcases w with _ | ⟨w0, r⟩
 ·exact absurd rfl hne
 have hwl : ∀ x ∈ r, x.length ≤ 1048576 := fun x hx => Nat.le_trans (hl2 x (by simp [hx])) hs
 rw [Zc (by simp), show (w0 :: r).getD (0 : Int).toNat [] = w0 from rfl, Qv7, Option.bind_some]
 unfold frI
 simp only [List.headD_cons, List.tail_cons, Wh, Zd4, Zpi]
 have hkc := Qen w0
 rcases hkc with hk | hk | hk | hk | hk | hk | hk | hk | hk | hk
 ·simp only [hk]
  show (bif _ == (0 : Int) then _ else Zb _ (Option.bind _ _)) = _
  rcases r with _ | ⟨a, r⟩
  ·rfl
  rw [hdc a r (hwl _ (by simp))]
  simp only [Wy]
  cases pin a with
  | none => rfl
  | some n0 =>
  simp only [Option.isSome_some, Bool.not_true, cond_false, Option.getD_some, Zpi, Zd4]
  show Z0 _ zF _ _ = _
  rw [j1I _ _ _ _ (by simp)]
  rfl
 ·simp only [hk]
  show (bif _ == (0 : Int) then _ else Zb _ (Option.bind _ _)) = _
  rcases r with _ | ⟨a, r⟩
  ·rfl
  rw [hdc a r (hwl _ (by simp))]
  simp only [Wy]
  cases pin a with
  | none => rfl
  | some n0 =>
  simp only [Option.isSome_some, Bool.not_true, cond_false, Option.getD_some, Zpi, Zd4]
  rcases r with _ | ⟨b, r⟩
  ·rfl
  rw [hdc b r (hwl _ (by simp))]
  dsimp only
  cases pin b with
  | none => rfl
  | some n1 =>
  simp only [Option.isSome_some, Bool.not_true, cond_false, Option.getD_some, Zpi, Zd4]
  rcases r with _ | ⟨c, r⟩
  ·rfl
  rw [hdc c r (hwl _ (by simp))]
  dsimp only
  cases pin c with
  | none => rfl
  | some n2 =>
  simp only [Option.isSome_some, Bool.not_true, cond_false, Option.getD_some, Zpi, Zd4]
  show Z0 _ zF _ _ = _
  rw [j1I _ _ _ _ (by simp)]
  rfl
 ·simp only [hk]
  show (bif _ == (0 : Int) then _ else Zb _ (Option.bind _ _)) = _
  rcases r with _ | ⟨a, r⟩
  ·rfl
  rw [hdc a r (hwl _ (by simp))]
  simp only [Wy]
  cases pin a with
  | none => rfl
  | some n0 =>
  simp only [Option.isSome_some, Bool.not_true, cond_false, Option.getD_some, Zpi, Zd4]
  rcases r with _ | ⟨b, r⟩
  ·rfl
  rw [hdc b r (hwl _ (by simp))]
  dsimp only
  cases pin b with
  | none => rfl
  | some n1 =>
  simp only [Option.isSome_some, Bool.not_true, cond_false, Option.getD_some, Zpi, Zd4]
  show Z0 _ zF _ _ = _
  rw [j1I _ _ _ _ (by simp)]
  rfl
 ·simp only [hk]
  show (bif _ == (0 : Int) then _ else Zb _ (Option.bind _ _)) = _
  rcases r with _ | ⟨a, r⟩
  ·rfl
  rw [hdc a r (hwl _ (by simp))]
  simp only [Wy]
  cases pin a with
  | none => rfl
  | some n0 =>
  simp only [Option.isSome_some, Bool.not_true, cond_false, Option.getD_some, Zpi, Zd4]
  rcases r with _ | ⟨b, r⟩
  ·rfl
  rw [hdc b r (hwl _ (by simp))]
  dsimp only
  cases pin b with
  | none => rfl
  | some n1 =>
  simp only [Option.isSome_some, Bool.not_true, cond_false, Option.getD_some, Zpi, Zd4]
  rcases r with _ | ⟨d, r⟩
  ·show Z0 _ zF _ _ = _
   rw [j1I _ _ _ _ (by simp)]
   rfl
  rw [Zj (by simp), Zc (by simp)]
  unfold Yy
  rw [show (d :: r).getD (0 : Int).toNat [] = d from rfl, Option.bind_some]
  have hd := Qyy d [120]
  have hd2 := hwl d (by simp)
  rw [(Qxk (Go.Lib.trimPrefix d [120]) (by omega)).2, Option.bind_some]
  have := Qlo (Go.Lib.trimPrefix d [120])
  rw [j1I _ _ _ _ (by simp only; omega)]
  have e2 : ((((d :: r).length : Nat) : Int) == 2) = decide ((d :: r).length = 2) := by rw [Bool.eq_iff_iff]; simp; omega
  rw [e2]
  rfl
 ·simp only [hk]
  show (bif _ == (0 : Int) then _ else Zb _ (Option.bind _ _)) = _
  rcases r with _ | ⟨a, r⟩
  ·rfl
  rw [hdc a r (hwl _ (by simp))]
  simp only [Wy]
  cases pin a with
  | none => rfl
  | some n0 =>
  simp only [Option.isSome_some, Bool.not_true, cond_false, Option.getD_some, Zpi, Zd4]
  show Z0 _ zF _ _ = _
  rw [j1I _ _ _ _ (by simp)]
  rfl
 ·simp only [hk]
  show (bif _ == (0 : Int) then _ else Zb _ (Option.bind _ _)) = _
  rcases r with _ | ⟨a, r⟩
  ·rfl
  rw [hdc a r (hwl _ (by simp))]
  simp only [Wy]
  cases pin a with
  | none => rfl
  | some n0 =>
  simp only [Option.isSome_some, Bool.not_true, cond_false, Option.getD_some, Zpi, Zd4]
  rcases r with _ | ⟨b, r⟩
  ·rfl
  rw [hdc b r (hwl _ (by simp))]
  dsimp only
  cases pin b with
  | none => rfl
  | some n1 =>
  simp only [Option.isSome_some, Bool.not_true, cond_false, Option.getD_some, Zpi, Zd4]
  show Z0 _ zF _ _ = _
  rw [j1I _ _ _ _ (by simp)]
  rfl
 ·simp only [hk]
  show (bif _ == (0 : Int) then _ else Zb _ (Option.bind _ _)) = _
  rcases r with _ | ⟨a, r⟩
  ·rfl
  rw [hdc a r (hwl _ (by simp))]
  simp only [Wy]
  cases pin a with
  | none => rfl
  | some n0 =>
  simp only [Option.isSome_some, Bool.not_true, cond_false, Option.getD_some, Zpi, Zd4]
  show Z0 _ zF _ _ = _
  rw [j1I _ _ _ _ (by simp)]
  rfl
 ·simp only [hk]
  show (bif _ == (0 : Int) then _ else Zb _ (Option.bind _ _)) = _
  rcases r with _ | ⟨a, r⟩
  ·rfl
  rw [hdc a r (hwl _ (by simp))]
  simp only [Wy]
  cases pin a with
  | none => rfl
  | some n0 =>
  simp only [Option.isSome_some, Bool.not_true, cond_false, Option.getD_some, Zpi, Zd4]
  show Z0 _ zF _ _ = _
  rw [j1I _ _ _ _ (by simp)]
  rfl
 ·simp only [hk]
  show (bif _ == (0 : Int) then _ else Zb _ (Option.bind _ _)) = _
  rcases r with _ | ⟨a, r⟩
  ·rfl
  rw [hdc a r (hwl _ (by simp))]
  simp only [Wy]
  cases pin a with
  | none => rfl
  | some n0 =>
  simp only [Option.isSome_some, Bool.not_true, cond_false, Option.getD_some, Zpi, Zd4]
  rcases r with _ | ⟨b, r⟩
  ·rfl
  rw [hdc b r (hwl _ (by simp))]
  dsimp only
  cases pin b with
  | none => rfl
  | some n1 =>
  simp only [Option.isSome_some, Bool.not_true, cond_false, Option.getD_some, Zpi, Zd4]
  show Z0 _ zF _ _ = _
  rw [j1I _ _ _ _ (by simp)]
  rfl
 ·simp only [hk]
  show (bif _ == (0 : Int) then _ else Zb _ (Option.bind _ _)) = _
  rcases r with _ | ⟨a, r⟩
  ·rfl
  rw [hdc a r (hwl _ (by simp))]
  simp only [Wy]
  cases pin a with
  | none => rfl
  | some n0 =>
  simp only [Option.isSome_some, Bool.not_true, cond_false, Option.getD_some, Zpi, Zd4]
  show Z0 _ zF _ _ = _
  rw [j1I _ _ _ _ (by simp)]
  rfl
theorem Qtu (c : UInt8) (hc : c = 32 ∨ c = 10) (k : Int) : c ∉ Q1 k := by
 unfold Q1
 repeat' split
 all_goals rcases hc with rfl | rfl <;> decide
theorem Z5v {f : Zg} (h : Ze8 f = true) (hs : Qdf f = true) : frS (Qr 32 (ftx f)) = f ∧ frI (Qr 32 (ftx f)) = some f ∧ ftx f ≠ [] := by
 have hok' := h
 unfold Ze8 at hok'
 simp only [Bool.and_eq_true, decide_eq_true_eq] at hok'
 obtain ⟨⟨⟨⟨⟨⟨⟨hp, q1⟩, q2⟩, q3⟩, q4⟩, q5⟩, hlen⟩, -⟩ := hok'
 have q1 := Zma q1
 have q2 := Zma q2
 have q3 := Zma q3
 have q4 := Zma q4
 have q5 := Zma q5
 have hk := Zr2 hp
 unfold Qdf at hs
 simp only [Bool.and_eq_true, decide_eq_true_eq] at hs
 obtain ⟨⟨⟨⟨s1, s2⟩, s3⟩, s4⟩, s5⟩ := hs
 obtain ⟨k, st, off, data, fin, code, lim, final, uni, z⟩ := f
 simp only at *
 unfold Xk at hp
 simp only at hp
 have nk : Q1 k ≠ [] := by
  intro e
  unfold Q1 at e
  simp only [Bool.or_eq_true, beq_iff_eq] at hk
  repeat' (split at e)
  all_goals first | (cases e; done) | skip
  omega
 have kk := Z4x nk
 have i0 := fun n : Int => Qv5 32 (.inl rfl) n
 have n0 := Qtu 32 (.inl rfl) k
 have p1 := Zup (n := st) (by omega) s1
 have p2 := Zup (n := off) (by omega) s2
 have p3 := Zup (n := code) (by omega) s3
 have p4 := Zup (n := lim) (by omega) s4
 have p5 := Zup (n := final) (by omega) s5
 simp only [Bool.or_eq_true, beq_iff_eq] at hk
 have ss := fun (a r : List UInt8) (h : (32 : UInt8) ∉ a) => Qd1 32 a r h
 have so := fun (a : List UInt8) (h : (32 : UInt8) ∉ a) => Z6t 32 a h
 cases z
 rcases hk with (((((((rfl | rfl) | rfl) | rfl) | rfl) | rfl) | rfl) | rfl) | rfl
 ·simp at hp
  obtain ⟨⟨⟨⟨rfl, rfl⟩, rfl⟩, rfl⟩, rfl⟩ := hp
  have e : Qr 32 (ftx (4, st, 0, [], false, code, 0, final, false, ())) = [Q1 4, Go.Lib.itoa st, Go.Lib.itoa code, Go.Lib.itoa final] := by
   show Qr 32 (Q1 4 ++ 32 :: (Go.Lib.itoa st ++ 32 :: (Go.Lib.itoa code ++ 32 :: (Go.Lib.itoa final)))) = _
   rw [ss _ _ n0, ss _ _ (i0 _), ss _ _ (i0 _), so _ (i0 _)]
  rw [e]
  refine ⟨?_, ?_, ?_⟩
  ·unfold frS; simp [kk, atN, Z40, p1, p3, p5]
  ·unfold frI; simp [kk, Wy, p1, p3, p5]
  ·simp [ftx]
 ·simp at hp
  obtain ⟨⟨⟨⟨⟨rfl, rfl⟩, rfl⟩, rfl⟩, rfl⟩, rfl⟩ := hp
  have e : Qr 32 (ftx (5, st, 0, [], false, code, 0, 0, false, ())) = [Q1 5, Go.Lib.itoa st, Go.Lib.itoa code] := by
   show Qr 32 (Q1 5 ++ 32 :: (Go.Lib.itoa st ++ 32 :: (Go.Lib.itoa code))) = _
   rw [ss _ _ n0, ss _ _ (i0 _), so _ (i0 _)]
  rw [e]
  refine ⟨?_, ?_, ?_⟩
  ·unfold frS; simp [kk, atN, Z40, p1, p3]
  ·unfold frI; simp [kk, Wy, p1, p3]
  ·simp [ftx]
 ·simp at hp
  obtain ⟨⟨⟨rfl, rfl⟩, rfl⟩, rfl⟩ := hp
  have hh := Qnp 32 (.inl rfl) data
  have hx : (32 : UInt8) ∉ 120 :: Zt5 data := by simp [hh]
  have hu : Ztx (Zt5 data) = data := by unfold Ztx; rw [Qlp]; rfl
  have hv : Qyz (120 :: Zt5 data) = data := hu
  cases fin
  rotate_left
  ·have e : Qr 32 (ftx (8, st, off, data, true, 0, 0, 0, false, ())) = [Q1 8, Go.Lib.itoa st, Go.Lib.itoa off, (120 :: Zt5 data), [102, 105, 110]] := by
    show Qr 32 (Q1 8 ++ 32 :: (Go.Lib.itoa st ++ 32 :: (Go.Lib.itoa off ++ 32 :: ((120 :: Zt5 data) ++ 32 :: ([102, 105, 110]))))) = _
    rw [ss _ _ n0, ss _ _ (i0 _), ss _ _ (i0 _), ss _ _ hx, so _ (by decide)]
   rw [e]
   refine ⟨?_, ?_, ?_⟩
   ·unfold frS; simp [kk, atN, Z40, p1, p2, hu]
   ·unfold frI; simp [kk, Wy, p1, p2, hv]
   ·simp [ftx]
  ·have e : Qr 32 (ftx (8, st, off, data, false, 0, 0, 0, false, ())) = [Q1 8, Go.Lib.itoa st, Go.Lib.itoa off, (120 :: Zt5 data)] := by
    show Qr 32 (Q1 8 ++ 32 :: (Go.Lib.itoa st ++ 32 :: (Go.Lib.itoa off ++ 32 :: ((120 :: Zt5 data) ++ [])))) = _
    rw [List.append_nil]
    rw [ss _ _ n0, ss _ _ (i0 _), ss _ _ (i0 _), so _ hx]
   rw [e]
   refine ⟨?_, ?_, ?_⟩
   ·unfold frS; simp [kk, atN, Z40, p1, p2, hu]
   ·unfold frI; simp [kk, Wy, p1, p2, hv]
   ·simp [ftx]
 ·simp at hp
  obtain ⟨⟨⟨⟨⟨⟨rfl, rfl⟩, rfl⟩, rfl⟩, rfl⟩, rfl⟩, rfl⟩ := hp
  have e : Qr 32 (ftx (16, 0, 0, [], false, 0, lim, 0, false, ())) = [Q1 16, Go.Lib.itoa lim] := by
   show Qr 32 (Q1 16 ++ 32 :: (Go.Lib.itoa lim)) = _
   rw [ss _ _ n0, so _ (i0 _)]
  rw [e]
  refine ⟨?_, ?_, ?_⟩
  ·unfold frS; simp [kk, atN, Z40, p4]
  ·unfold frI; simp [kk, Wy, p4, Zxe]
  ·simp [ftx]
 ·simp at hp
  obtain ⟨⟨⟨⟨⟨rfl, rfl⟩, rfl⟩, rfl⟩, rfl⟩, rfl⟩ := hp
  have e : Qr 32 (ftx (17, st, 0, [], false, 0, lim, 0, false, ())) = [Q1 17, Go.Lib.itoa st, Go.Lib.itoa lim] := by
   show Qr 32 (Q1 17 ++ 32 :: (Go.Lib.itoa st ++ 32 :: (Go.Lib.itoa lim))) = _
   rw [ss _ _ n0, ss _ _ (i0 _), so _ (i0 _)]
  rw [e]
  refine ⟨?_, ?_, ?_⟩
  ·unfold frS; simp [kk, atN, Z40, p1, p4]
  ·unfold frI; simp [kk, Wy, p1, p4]
  ·simp [ftx]
 ·simp at hp
  obtain ⟨⟨⟨⟨⟨rfl, rfl⟩, rfl⟩, rfl⟩, rfl⟩, rfl⟩ := hp
  cases uni
  rotate_left
  ·have e : Qr 32 (ftx (18, 0, 0, [], false, 0, lim, 0, true, ())) = [Q1 18, Go.Lib.itoa lim, [117, 110, 105]] := by
    show Qr 32 (Q1 18 ++ 32 :: (Go.Lib.itoa lim ++ 32 :: ([117, 110, 105]))) = _
    rw [ss _ _ n0, ss _ _ (i0 _), so _ (by decide)]
   rw [e]
   refine ⟨?_, ?_, ?_⟩
   ·unfold frS; simp [kk, atN, Z40, p4]
   ·unfold frI; simp [kk, Wy, p4, Zxe]
   ·simp [ftx]
  ·have e : Qr 32 (ftx (18, 0, 0, [], false, 0, lim, 0, false, ())) = [Q1 18, Go.Lib.itoa lim, [98, 105, 100, 105]] := by
    show Qr 32 (Q1 18 ++ 32 :: (Go.Lib.itoa lim ++ 32 :: ([98, 105, 100, 105]))) = _
    rw [ss _ _ n0, ss _ _ (i0 _), so _ (by decide)]
   rw [e]
   refine ⟨?_, ?_, ?_⟩
   ·unfold frS; simp [kk, atN, Z40, p4]
   ·unfold frI; simp [kk, Wy, p4, Zxe]
   ·simp [ftx]
 ·simp at hp
  obtain ⟨⟨⟨⟨⟨⟨rfl, rfl⟩, rfl⟩, rfl⟩, rfl⟩, rfl⟩, rfl⟩ := hp
  have e : Qr 32 (ftx (20, 0, 0, [], false, 0, lim, 0, false, ())) = [Q1 20, Go.Lib.itoa lim] := by
   show Qr 32 (Q1 20 ++ 32 :: (Go.Lib.itoa lim)) = _
   rw [ss _ _ n0, so _ (i0 _)]
  rw [e]
  refine ⟨?_, ?_, ?_⟩
  ·unfold frS; simp [kk, atN, Z40, p4]
  ·unfold frI; simp [kk, Wy, p4, Zxe]
  ·simp [ftx]
 ·simp at hp
  obtain ⟨⟨⟨⟨⟨rfl, rfl⟩, rfl⟩, rfl⟩, rfl⟩, rfl⟩ := hp
  have e : Qr 32 (ftx (21, st, 0, [], false, 0, lim, 0, false, ())) = [Q1 21, Go.Lib.itoa st, Go.Lib.itoa lim] := by
   show Qr 32 (Q1 21 ++ 32 :: (Go.Lib.itoa st ++ 32 :: (Go.Lib.itoa lim))) = _
   rw [ss _ _ n0, ss _ _ (i0 _), so _ (i0 _)]
  rw [e]
  refine ⟨?_, ?_, ?_⟩
  ·unfold frS; simp [kk, atN, Z40, p1, p4]
  ·unfold frI; simp [kk, Wy, p1, p4]
  ·simp [ftx]
 ·simp at hp
  obtain ⟨⟨⟨⟨⟨rfl, rfl⟩, rfl⟩, rfl⟩, rfl⟩, rfl⟩ := hp
  cases uni
  rotate_left
  ·have e : Qr 32 (ftx (22, 0, 0, [], false, 0, lim, 0, true, ())) = [Q1 22, Go.Lib.itoa lim, [117, 110, 105]] := by
    show Qr 32 (Q1 22 ++ 32 :: (Go.Lib.itoa lim ++ 32 :: ([117, 110, 105]))) = _
    rw [ss _ _ n0, ss _ _ (i0 _), so _ (by decide)]
   rw [e]
   refine ⟨?_, ?_, ?_⟩
   ·unfold frS; simp [kk, atN, Z40, p4]
   ·unfold frI; simp [kk, Wy, p4, Zxe]
   ·simp [ftx]
  ·have e : Qr 32 (ftx (22, 0, 0, [], false, 0, lim, 0, false, ())) = [Q1 22, Go.Lib.itoa lim, [98, 105, 100, 105]] := by
    show Qr 32 (Q1 22 ++ 32 :: (Go.Lib.itoa lim ++ 32 :: ([98, 105, 100, 105]))) = _
    rw [ss _ _ n0, ss _ _ (i0 _), so _ (by decide)]
   rw [e]
   refine ⟨?_, ?_, ?_⟩
   ·unfold frS; simp [kk, atN, Z40, p4]
   ·unfold frI; simp [kk, Wy, p4, Zxe]
   ·simp [ftx]
theorem Qpd {f : Zg} (h : Zpx f ≠ []) : Ze8 f = true ∧ Qdf f = true ∧ Zpx f = ftx f := by
 unfold Zpx at h ⊢
 by_cases hc : Ze8 f = true ∧ Qdf f = true
 ·rw [if_pos hc]; exact ⟨hc.1, hc.2, rfl⟩
 ·rw [if_neg hc] at h; exact absurd rfl h
theorem Qk0 (s : List UInt8) : Q2q s (frI (Qr 32 s)) = chk s (frS (Qr 32 s)) := by
 by_cases h : s ≠ [] ∧ Zpx (frS (Qr 32 s)) = s
 ·obtain ⟨h1, h2, h3⟩ := Qpd (f := frS (Qr 32 s)) (by rw [h.2]; exact h.1)
  have hp := (Z5v h1 h2).2.1
  rw [h.2] at h3
  rw [← h3] at hp
  rw [hp]; rfl
 ·have hr : chk s (frS (Qr 32 s)) = (zF, false, ()) := if_neg h
  rw [hr]
  cases hf : frI (Qr 32 s) with
  | none => rfl
  | some g =>
   show chk s g = _
   by_cases hg : s ≠ [] ∧ Zpx g = s
   ·obtain ⟨h1, h2, h3⟩ := Qpd (f := g) (by rw [hg.2]; exact hg.1)
    have hp := (Z5v h1 h2).1
    rw [hg.2] at h3
    rw [← h3] at hp
    exact absurd ⟨hg.1, by rw [hp, hg.2]⟩ h
   ·exact if_neg hg
theorem Qt1 (s : List UInt8) (hs : s.length ≤ 1048576) : ∃ r : Zg × Bool × Unit, Zh2 s = some r ∧ Zdy s = some r :=
 ⟨_, Qvh s hs, by rw [Qu0 s hs, Qk0]⟩
theorem Qun (x : Int) : 0 ≤ bits .and .i64 x 255 ∧ bits .and .i64 x 255 ≤ 255 := by
 have h : bits .and .i64 x 255 = IntKind.i64.wrap (((BitVec.ofInt 64 x &&& BitVec.ofInt 64 255).toNat : Nat) : Int) := rfl
 rw [h, BitVec.toNat_and]
 have h2 : (BitVec.ofInt 64 255).toNat = 255 := by decide
 rw [h2]
 have h3 : (BitVec.ofInt 64 x).toNat &&& 255 ≤ 255 := Nat.and_le_right
 rw [Zx (by omega) (by omega)]
 omega
def Qv (c : Zw) : Prop := c.1.length ≤ 1048576 ∧ 0 ≤ c.2.1 ∧ c.2.1 ≤ c.1.length
theorem Qza (code : List Int) (h : code.length ≤ 1048576) : ∃ c, Ze4 code = some (c, ()) ∧ Qv c := by
 have loop : ∀ (N : Nat) (x : Int) (i : Nat), i ≤ code.length → code.length - i < N → ∃ c, Zlf N code x (i : Int) = some (c, ()) ∧ Qv c := by
  intro N
  induction N with
  | zero => intro x i _ h; omega
  | succ N ih =>
   intro x i hi hN
   unfold Zlf
   by_cases hl : i < code.length ∧ i < 4000
   ·rw [Zj (by simp; omega), Zc (by omega), Zs hl.1 (by omega)]
    exact ih _ (i + 1) (by omega) (by omega)
   ·rw [Zh (by simp; omega)]
    exact ⟨_, rfl, h, Int.le_refl 0, by simp⟩
 unfold Ze4
 exact loop _ _ 0 (by omega) (by unfold Zml; omega)
theorem Zri (c : Zw) (h : Qv c) : ∃ x c', Kv c = some ((x, ()), (c', ())) ∧ Qv c' ∧ 0 ≤ x ∧ x ≤ 255 := by
 obtain ⟨h1, h2, h3⟩ := h
 unfold Kv
 simp only []
 rw [Zc (by decide), Zc (by decide)]
 by_cases hl : c.2.1 < (c.1.length : Int)
 ·rw [Zj (Zk hl), Zc ⟨h2, hl⟩, Zx (n := c.2.1 + 1) (by omega) (by omega)]
  exact ⟨_, _, rfl, ⟨h1, by show 0 ≤ c.2.1 + 1; omega, by show c.2.1 + 1 ≤ (c.1.length : Int); omega⟩, Qun _⟩
 ·rw [Zh (Zl hl)]
  exact ⟨_, _, rfl, ⟨h1, h2, h3⟩, Qun _⟩
theorem Ki (c : Zw) (n : Int) (h : Qv c) : ∃ x c', Zv c n = some ((x, ()), (c', ())) ∧ Qv c' ∧ 0 ≤ x ∧ (0 < n → x < n) := by
 unfold Zv
 by_cases h0 : n ≤ 0
 ·rw [Zj (Zk h0)]
  exact ⟨_, _, rfl, h, Int.le_refl 0, fun hn => by omega⟩
 ·rw [Zh (Zl h0)]
  by_cases h1 : n ≤ 256
  ·rw [Zj (Zk h1)]
   obtain ⟨x, c1, e1, k1, b1, b2⟩ := Zri c h
   rw [e1, Option.bind_some, Zc (by omega)]
   exact ⟨_, _, rfl, k1, Int.tmod_nonneg n b1, fun hn => Int.tmod_lt_of_pos x hn⟩
  ·rw [Zh (Zl h1)]
   obtain ⟨x, c1, e1, k1, b1, b2⟩ := Zri c h
   obtain ⟨y, c2, e2, k2, b3, b4⟩ := Zri c1 k1
   obtain ⟨z, c3, e3, k3, b5, b6⟩ := Zri c2 k2
   obtain ⟨u, c4, e4, k4, b7, b8⟩ := Zri c3 k3
   rw [e1, Option.bind_some, e2, Option.bind_some, e3, Option.bind_some, e4, Option.bind_some, Zc (by omega)]
   simp only []
   rw [Zx (n := x * 16777216) (by omega) (by omega), Zx (n := y * 65536) (by omega) (by omega), Zx (n := x * 16777216 + y * 65536) (by omega) (by omega), Zx (n := z * 256) (by omega) (by omega), Zx (n := x * 16777216 + y * 65536 + z * 256) (by omega) (by omega), Zx (n := x * 16777216 + y * 65536 + z * 256 + u) (by omega) (by omega)]
   exact ⟨_, _, rfl, k4, Int.tmod_nonneg n (by omega), fun hn => Int.tmod_lt_of_pos _ hn⟩
theorem Z66 (c : Zw) (l : List Int) (h : Qv c) (hl : 0 < l.length) : ∃ x c', Xf c l = some ((x, ()), (c', ())) ∧ Qv c' ∧ x ∈ l := by
 unfold Xf
 obtain ⟨x, c1, e1, k1, b1, b2⟩ := Ki c (l.length : Int) h
 have b2 := b2 (by omega)
 rw [e1, Option.bind_some]
 simp only []
 rw [Zc ⟨b1, b2⟩]
 refine ⟨_, _, rfl, k1, ?_⟩
 have hx : x.toNat < l.length := by omega
 rw [List.getD_eq_getElem?_getD, List.getElem?_eq_getElem hx]
 exact List.getElem_mem hx
def Zjm (r : Ze) : Bool := (decide (r.1 ≥ (0 : Int)) && decide (r.1 < r.2.1)) && decide (r.2.1 ≤ (4611686018427387903 : Int))
theorem Zwe (r : Ze) : Zpu r = some (Zjm r, ()) := rfl
theorem Qx {r : Ze} : Zjm r = true ↔ 0 ≤ r.1 ∧ r.1 < r.2.1 ∧ r.2.1 ≤ 4611686018427387903 := by
 unfold Zjm; simp; omega
def rsB : Int → List Ze → Bool
 | _, [] => true
 | lo, r :: l => Zjm r && decide (lo < r.1) && rsB r.2.1 l
theorem Z3g : ∀ (N : Nat) (pre rest : List Ze) (lo : Int), (pre ++ rest).length ≤ 1048576 → rest.length < N → (pre = [] → lo < 0) → (∀ q x, pre = q ++ [x] → lo = x.2.1) →
  Vf N (pre ++ rest) (pre.length : Int) = some (rsB lo rest, ())
 | 0, _, _, _, _, h, _, _ => by omega
 | N + 1, pre, [], lo, hl, hN, h0, h1 => by
  unfold Vf
  rw [Zh (by simp)]; rfl
 | N + 1, pre, r :: rest, lo, hl, hN, h0, h1 => by
  have hlen : (pre ++ r :: rest).length = pre.length + rest.length + 1 := by simp; omega
  simp only [List.length_cons] at hN
  unfold Vf
  rw [Zj (Zk (by rw [hlen]; omega)), Zc (by rw [hlen]; omega), J7, Zwe, Option.bind_some]
  have ih := Z3g N (pre ++ [r]) rest r.2.1 (by simp; omega) (by omega) (by simp) (fun q x e => by
   have := List.append_inj' e rfl
   simp only [List.cons.injEq, and_true] at this
   rw [this.2])
  have e0 : ((pre ++ [r]).length : Int) = ((pre.length + 1 : Nat) : Int) := by simp
  rw [e0] at ih
  rw [show (pre ++ [r]) ++ rest = pre ++ r :: rest by simp] at ih
  rw [Zc (fun _ h => by
   have : (pre.length : Int) > 0 := by simpa using h
   rw [Zx (by omega) (by omega), hlen]; omega), Zc (fun _ _ => by rw [hlen]; omega), Zs (m := pre.length + 1) (by omega) (by omega), ih]
  simp only [rsB]
  cases hf : Zjm r
  ·rfl
  ·rcases List.eq_nil_or_concat pre with hp | ⟨q, x, hp⟩
   ·subst hp
    have hlo := h0 rfl
    have hr := Qx.1 hf
    rw [Zh (by simp)]
    rw [show decide (lo < r.1) = true from Zk (by omega)]
    simp
   ·rw [List.concat_eq_append] at hp
    have hlo := h1 q x hp
    have hg : (pre ++ r :: rest).getD (IntKind.i64.wrap ((pre.length : Int) - 1)).toNat Zu = x := by
     rw [Zx (by omega) (by omega)]
     have e : ((pre.length : Int) - 1).toNat = q.length := by rw [hp]; simp
     rw [e, hp, List.append_assoc]
     exact J7 q x ([r] ++ rest) Zu
    rw [hg, ← hlo]
    have hpos : decide ((pre.length : Int) > 0) = true := Zk (by rw [hp]; simp)
    rw [hpos]
    by_cases hc : lo < r.1
    ·rw [Zh (by simp; omega), Zk hc]; simp
    ·rw [Zj (by simp; omega), Zl hc]; simp
theorem Zci (l : List Ze) (hl : l.length ≤ 1048576) : Y4 l = some (rsB (-1) l, ()) := by
 unfold Y4
 exact Z3g _ [] l (-1) (by simpa using hl) (by unfold Wu; omega) (fun _ => by omega) (fun q x e => by simp at e)
theorem Ju {lo : Int} {r : Ze} {l : List Ze} : rsB lo (r :: l) = true ↔ Zjm r = true ∧ lo < r.1 ∧ rsB r.2.1 l = true := by
 simp only [rsB, Bool.and_eq_true, decide_eq_true_eq, and_assoc]
theorem Qle : ∀ {l : List Ze} {lo lo' : Int}, rsB lo l = true → lo' ≤ lo → rsB lo' l = true
 | [], _, _, _, _ => rfl
 | r :: l, lo, lo', h, hl => by
  rw [Ju] at h ⊢
  exact ⟨h.1, by omega, h.2.2⟩
theorem Zoz : ∀ {l : List Ze} {lo : Int}, rsB lo l = true → ∀ x ∈ l, lo < x.1 ∧ Zjm x = true
 | [], _, _, x, hx => by cases hx
 | r :: l, lo, h, x, hx => by
  rw [Ju] at h
  have hf := Qx.1 h.1
  rcases List.mem_cons.1 hx with rfl | hx
  ·exact ⟨h.2.1, h.1⟩
  ·have := Zoz h.2.2 x hx
   exact ⟨by omega, this.2⟩
theorem Qvg : ∀ {l : List Ze} {lo E : Int}, rsB lo l = true → (∀ x ∈ l, x.2.1 ≤ E) → lo ≤ E → (l.length : Int) ≤ E - lo
 | [], lo, E, _, _, hE => by simp; omega
 | r :: l, lo, E, h, hE, _ => by
  rw [Ju] at h
  have hf := Qx.1 h.1
  have := Qvg (E := E) h.2.2 (fun x hx => hE x (by simp [hx])) (hE r (by simp))
  simp only [List.length_cons]; omega
def Zmy : List Ze → Ze → List Ze
 | [], r => [r]
 | x :: l, r => if x.2.1 < r.1 then x :: Zmy l r else if x.1 > r.2.1 then r :: x :: l else Zmy l (min r.1 x.1, max r.2.1 x.2.1, ())
theorem Z4y (l : List Ze) (hl : l.length ≤ 1048576) : Zg8 l = some (l, ()) := by
 unfold Zg8
 rw [Zc (by unfold Qp; simp; omega)]
 simp
theorem Qd9 : ∀ (N : Nat) (pre rest : List Ze) (r : Ze) (out : List Ze), (pre ++ rest).length ≤ 1048576 → rest.length < N → out.length ≤ pre.length + 1 → r.1 < r.2.1 → (∀ x ∈ rest, r.2.1 < x.1 ∧ x.1 < x.2.1) →
  X8 N (pre ++ rest) r out true (pre.length : Int) = some (out ++ rest, ())
 | 0, _, _, _, _, _, h, _, _, _ => by omega
 | N + 1, pre, [], r, out, hl, hN, ho, hr, hx => by
  unfold X8
  rw [Zh (by simp)]; simp
 | N + 1, pre, x :: rest, r, out, hl, hN, ho, hr, hx => by
  have hlen : (pre ++ x :: rest).length = pre.length + rest.length + 1 := by simp; omega
  simp only [List.length_cons] at hN
  have hxx := hx x (by simp)
  unfold X8
  rw [Zj (Zk (by rw [hlen]; omega)), Zc (by rw [hlen]; omega), J7, Zh (Zl (by omega)), Zc (by rw [hlen]; omega), Zj (Zk (by omega)), Zh (by rfl)]
  unfold Zf2 Vc
  rw [Zc (by rw [hlen]; omega), J7, Zc (by unfold Qp; simp; omega), Zs (m := pre.length + 1) (by omega) (by omega)]
  have ih := Qd9 N (pre ++ [x]) rest r (out ++ [x]) (by simp; omega) (by omega) (by simp; omega) hr (fun y hy => hx y (by simp [hy]))
  rw [show (pre ++ [x]) ++ rest = pre ++ x :: rest by simp, show ((pre ++ [x]).length : Int) = ((pre.length + 1 : Nat) : Int) by simp] at ih
  simp only [ih]
  simp
theorem Qan : ∀ (N : Nat) (pre rest : List Ze) (r : Ze) (out : List Ze) (lo : Int), (pre ++ rest).length ≤ 1048576 → rest.length < N → out.length ≤ pre.length → r.1 < r.2.1 → rsB lo rest = true →
  X8 N (pre ++ rest) r out false (pre.length : Int) = some (out ++ Zmy rest r, ())
 | 0, _, _, _, _, _, _, h, _, _, _ => by omega
 | N + 1, pre, [], r, out, lo, hl, hN, ho, hr, hx => by
  simp only [List.append_nil] at hl
  unfold X8
  rw [Zh (by simp), Zj (by rfl), Zc (by unfold Qp; simp; omega)]; rfl
 | N + 1, pre, x :: rest, r, out, lo, hl, hN, ho, hr, hx => by
  have hlen : (pre ++ x :: rest).length = pre.length + rest.length + 1 := by simp; omega
  simp only [List.length_cons] at hN
  obtain ⟨hf, hlo, hrest⟩ := Ju.1 hx
  have hf := Qx.1 hf
  unfold X8
  rw [Zj (Zk (by rw [hlen]; omega)), Zc (by rw [hlen]; omega), J7]
  have es : (pre ++ [x]) ++ rest = pre ++ x :: rest := by simp
  have el : ((pre ++ [x]).length : Int) = ((pre.length + 1 : Nat) : Int) := by simp
  by_cases h1 : x.2.1 < r.1
  ·rw [Zj (Zk h1), Zc (by rw [hlen]; omega), Zc (by unfold Qp; simp; omega)]
   unfold Vc
   have ih := Qan N (pre ++ [x]) rest r (out ++ [x]) _ (by simp; omega) (by omega) (by simp; omega) hr hrest
   rw [es, el] at ih
   rw [Zs (m := pre.length + 1) (by omega) (by omega)]
   simp only [ih, Zmy, h1, if_true]
   simp
  ·rw [Zh (Zl h1), Zc (by rw [hlen]; omega)]
   by_cases h2 : x.1 > r.2.1
   ·rw [Zj (Zk h2), Zj (by rfl), Zc (by unfold Qp; simp; omega)]
    unfold Zf2 Vc
    rw [Zc (by rw [hlen]; omega), J7, Zc (by unfold Qp; simp; omega), Zs (m := pre.length + 1) (by omega) (by omega)]
    have ih := Qd9 N (pre ++ [x]) rest r (out ++ [r] ++ [x]) (by simp; omega) (by omega) (by simp; omega) hr (fun y hy => by
     have := Zoz hrest y hy
     have := Qx.1 this.2
     omega)
    rw [es, el] at ih
    simp only [ih, Zmy, h1, h2, if_true, if_false]
    simp
   ·rw [Zh (Zl h2), Zc (by rw [hlen]; omega), Zc (by rw [hlen]; omega)]
    unfold Vc
    have ih := Qan N (pre ++ [x]) rest (min r.1 x.1, (max r.2.1 x.2.1, r.2.2)) out _ (by simp; omega) (by omega) (by simp; omega) (by simp only; omega) hrest
    rw [es, el] at ih
    rw [Zs (m := pre.length + 1) (by omega) (by omega)]
    simp only [ih, Zmy, h1, h2, if_false]
theorem Zm1 (l : List Ze) (r : Ze) (hl : l.length ≤ 1048576) : Vi l r = some (if rsB (-1) l = true ∧ Zjm r = true then Zmy l r else l, ()) := by
 unfold Vi
 rw [Zci l hl, Option.bind_some]
 cases h1 : rsB (-1) l
 ·simp [Z4y l hl]
 ·simp only [Bool.not_true, cond_false, Zwe, Option.bind_some, Bool.false_or]
  cases h2 : Zjm r
  ·simp [Z4y l hl]
  ·have hf := Qx.1 h2
   have := Qan (Zdl l r [] false 0) [] l r [] (-1) (by simpa using hl) (by unfold Zdl; omega) (by simp) (by omega) h1
   simp only [Bool.not_true, cond_false, and_self, if_true]
   exact this
def RL (E : Int) (l : List Ze) : Prop := rsB (-1) l = true ∧ ∀ x ∈ l, x.2.1 ≤ E
theorem Qhi : ∀ {l : List Ze} {lo : Int} {r : Ze}, rsB lo l = true → Zjm r = true → lo < r.1 → rsB lo (Zmy l r) = true
 | [], lo, r, _, h2, h3 => by simp [Zmy, rsB, h2, h3]
 | x :: l, lo, r, h1, h2, h3 => by
  obtain ⟨hf, hlo, hrest⟩ := Ju.1 h1
  have hx := Qx.1 hf
  have hr := Qx.1 h2
  unfold Zmy
  split
  ·exact Ju.2 ⟨hf, hlo, Qhi hrest h2 (by omega)⟩
  ·split
   ·exact Ju.2 ⟨h2, h3, Ju.2 ⟨hf, by omega, hrest⟩⟩
   ·exact Qhi (Qle hrest (by omega)) (Qx.2 (by simp only; omega)) (by simp only; omega)
theorem Qam {E : Int} : ∀ {l : List Ze} {r : Ze}, (∀ x ∈ l, x.2.1 ≤ E) → r.2.1 ≤ E → ∀ x ∈ Zmy l r, x.2.1 ≤ E
 | [], r, _, h, x, hx => by simp [Zmy] at hx; subst hx; exact h
 | y :: l, r, hl, h, x, hx => by
  have hy := hl y (by simp)
  have hl' : ∀ x ∈ l, x.2.1 ≤ E := fun x hx => hl x (by simp [hx])
  unfold Zmy at hx
  split at hx
  ·rcases List.mem_cons.1 hx with rfl | hx
   ·exact hy
   ·exact Qam hl' h x hx
  ·split at hx
   ·rcases List.mem_cons.1 hx with rfl | hx
    ·exact h
    ·exact hl x hx
   ·exact Qam hl' (by simp only; omega) x hx
theorem Qhz : ∀ {l : List Ze} {r : Ze}, (Zmy l r).length ≤ l.length + 1
 | [], r => by simp [Zmy]
 | y :: l, r => by
  unfold Zmy
  split
  ·have := Qhz (l := l) (r := r); simp only [List.length_cons]; omega
  ·split
   ·simp
   ·have := Qhz (l := l) (r := (min r.1 y.1, max r.2.1 y.2.1, ())); simp only [List.length_cons]; omega
theorem Zvb {E : Int} {l : List Ze} {r : Ze} (h : RL E l) (hr : r.2.1 ≤ E) : RL E (if rsB (-1) l = true ∧ Zjm r = true then Zmy l r else l) := by
 split
 ·rename_i hc
  have := Qx.1 hc.2
  exact ⟨Qhi hc.1 hc.2 (by omega), Qam h.2 hr⟩
 ·exact h
theorem Qhh {E E' : Int} {l : List Ze} (h : RL E l) (he : E ≤ E') : RL E' l := ⟨h.1, fun x hx => Int.le_trans (h.2 x hx) he⟩
theorem Q0u {E : Int} {l : List Ze} (h : RL E l) (hE : -1 ≤ E) : (l.length : Int) ≤ E + 1 := by
 have := Qvg h.1 h.2 hE; omega
def Qxh (r x : Ze) : List Ze := (if x.1 < min x.2.1 r.1 then [(x.1, min x.2.1 r.1, ())] else []) ++ (if max x.1 r.2.1 < x.2.1 then [(max x.1 r.2.1, x.2.1, ())] else [])
def Qc9 (r : Ze) : List Ze → List Ze
 | [] => []
 | x :: l => Qxh r x ++ Qc9 r l
theorem Qda : ∀ (N : Nat) (pre rest : List Ze) (r : Ze) (out : List Ze), (pre ++ rest).length ≤ 1048576 → rest.length < N → out.length ≤ 2 * pre.length →
  Y5 N (pre ++ rest) r out (pre.length : Int) = some (out ++ Qc9 r rest, ())
 | 0, _, _, _, _, _, h, _ => by omega
 | N + 1, pre, [], r, out, hl, hN, ho => by
  unfold Y5
  rw [Zh (by simp)]; simp [Qc9]
 | N + 1, pre, x :: rest, r, out, hl, hN, ho => by
  have hlen : (pre ++ x :: rest).length = pre.length + rest.length + 1 := by simp; omega
  simp only [List.length_cons] at hN
  have g : ∀ {ρ : Type} (m : Option ρ), Zb (0 ≤ (pre.length : Int) ∧ (pre.length : Int) < ((pre ++ x :: rest).length : Int)) m = m := fun m => Zc (by rw [hlen]; omega)
  have es : (pre ++ [x]) ++ rest = pre ++ x :: rest := by simp
  have el : ((pre ++ [x]).length : Int) = ((pre.length + 1 : Nat) : Int) := by simp
  have j2 : ∀ out1 : List Ze, out1.length ≤ 2 * pre.length + 1 → Zbq (fun v => Y5 N v.1 v.2.1 v.2.2.1 v.2.2.2.1) (pre ++ x :: rest) r out1 (pre.length : Int) = some (out1 ++ (if max x.1 r.2.1 < x.2.1 then [(max x.1 r.2.1, x.2.1, ())] else []) ++ Qc9 r rest, ()) := by
   intro out1 ho1
   unfold Zbq Zfk
   simp only [g, J7]
   rw [Zs (m := pre.length + 1) (by omega) (by omega)]
   by_cases h : max x.1 r.2.1 < x.2.1
   ·rw [Zj (Zk h), if_pos h, Zc (by unfold Qp; simp; omega)]
    have ih := Qda N (pre ++ [x]) rest r (out1 ++ [(max x.1 r.2.1, x.2.1, ())]) (by simp; omega) (by omega) (by simp; omega)
    rw [es, el] at ih
    simp only [ih]
   ·rw [Zh (Zl h), if_neg h]
    have ih := Qda N (pre ++ [x]) rest r out1 (by simp; omega) (by omega) (by simp; omega)
    rw [es, el] at ih
    simp only [ih]; simp
  unfold Y5
  rw [Zj (Zk (by rw [hlen]; omega))]
  simp only [g, J7]
  by_cases h : x.1 < min x.2.1 r.1
  ·rw [Zj (Zk h), Zc (by unfold Qp; simp; omega), j2 _ (by simp; omega)]
   simp [Qc9, Qxh, h]
  ·rw [Zh (Zl h), j2 _ (by omega)]
   simp [Qc9, Qxh, h]
theorem Zzu (l : List Ze) (r : Ze) (hl : l.length ≤ 1048576) : Zcd l r = some (if rsB (-1) l = true ∧ Zjm r = true then Qc9 r l else l, ()) := by
 unfold Zcd
 rw [Zci l hl, Option.bind_some]
 cases h1 : rsB (-1) l
 ·simp [Z4y l hl]
 ·simp only [Bool.not_true, cond_false, Zwe, Option.bind_some, Bool.false_or]
  cases h2 : Zjm r
  ·simp [Z4y l hl]
  ·have := Qda (Zae l r [] 0) [] l r [] (by simpa using hl) (by unfold Zae; omega) (by simp)
   simp only [Bool.not_true, cond_false, and_self, if_true]
   exact this
theorem Qve {r : Ze} (hr : Zjm r = true) : ∀ {l : List Ze} {lo : Int}, rsB lo l = true → rsB lo (Qc9 r l) = true
 | [], lo, _ => rfl
 | x :: l, lo, h1 => by
  obtain ⟨hf, hlo, hrest⟩ := Ju.1 h1
  have hx := Qx.1 hf
  have hr := Qx.1 hr
  have ih := fun lo' h => Qve (r := r) (Qx.2 hr) (l := l) (lo := lo') (Qle hrest h)
  unfold Qc9 Qxh
  split <;> split
  ·simp only [List.cons_append, List.nil_append]
   exact Ju.2 ⟨Qx.2 (by simp only; omega), by simp only; omega, Ju.2 ⟨Qx.2 (by simp only; omega), by simp only; omega, ih _ (by simp only; omega)⟩⟩
  ·simp only [List.cons_append, List.nil_append]
   exact Ju.2 ⟨Qx.2 (by simp only; omega), by simp only; omega, ih _ (by simp only; omega)⟩
  ·simp only [List.cons_append, List.nil_append]
   exact Ju.2 ⟨Qx.2 (by simp only; omega), by simp only; omega, ih _ (by simp only; omega)⟩
  ·exact ih lo (by omega)
theorem Qod {E : Int} {r : Ze} : ∀ {l : List Ze}, (∀ x ∈ l, x.2.1 ≤ E) → ∀ x ∈ Qc9 r l, x.2.1 ≤ E
 | [], _, x, hx => by simp [Qc9] at hx
 | y :: l, hl, x, hx => by
  have hy := hl y (by simp)
  unfold Qc9 Qxh at hx
  simp only [List.mem_append] at hx
  rcases hx with (hx | hx) | hx
  ·split at hx
   ·simp only [List.mem_singleton] at hx; subst hx; simp only; omega
   ·cases hx
  ·split at hx
   ·simp only [List.mem_singleton] at hx; subst hx; exact hy
   ·cases hx
  ·exact Qod (fun x hx => hl x (by simp [hx])) x hx
theorem Qs0 {E : Int} {l : List Ze} {r : Ze} (h : RL E l) : RL E (if rsB (-1) l = true ∧ Zjm r = true then Qc9 r l else l) := by
 split
 ·rename_i hc
  exact ⟨Qve hc.2 hc.1, Qod h.2⟩
 ·exact h
def Qat (a b : Ze) : List Ze := if max a.1 b.1 < min a.2.1 b.2.1 then [(max a.1 b.1, min a.2.1 b.2.1, ())] else []
theorem Z3w (K1 : (List Ze × List Ze × List Ze × Int × Unit) → Option (List Ze × Unit)) (a : List Ze) (i : Nat) (hi : i < a.length) : ∀ (N : Nat) (pre rest : List Ze) (out : List Ze), (pre ++ rest).length ≤ 1000 → rest.length < N → out.length + rest.length ≤ 10000000000 →
  Vd K1 N a (pre ++ rest) out (i : Int) (pre.length : Int) = K1 (a, pre ++ rest, out ++ rest.flatMap (Qat (a.getD i Zu)), IntKind.i64.wrap ((i : Int) + 1), ())
 | 0, _, _, _, _, h, _ => by omega
 | N + 1, pre, [], out, hl, hN, ho => by
  unfold Vd
  rw [Zh (by simp)]; simp
 | N + 1, pre, x :: rest, out, hl, hN, ho => by
  have hlen : (pre ++ x :: rest).length = pre.length + rest.length + 1 := by simp; omega
  simp only [List.length_cons] at hN ho
  have g : ∀ {ρ : Type} (m : Option ρ), Zb (0 ≤ (pre.length : Int) ∧ (pre.length : Int) < ((pre ++ x :: rest).length : Int)) m = m := fun m => Zc (by rw [hlen]; omega)
  have g2 : ∀ {ρ : Type} (m : Option ρ), Zb (0 ≤ (i : Int) ∧ (i : Int) < (a.length : Int)) m = m := fun m => Zc (by omega)
  have es : (pre ++ [x]) ++ rest = pre ++ x :: rest := by simp
  have el : ((pre ++ [x]).length : Int) = ((pre.length + 1 : Nat) : Int) := by simp
  unfold Vd
  rw [Zj (Zk (by rw [hlen]; omega))]
  simp only [g, g2, J7, Wh]
  rw [show (i : Int).toNat = i from rfl]
  unfold Zjo Zed
  simp only
  rw [Zs (m := pre.length + 1) (by omega) (by omega)]
  by_cases h : max (a.getD i Zu).1 x.1 < min (a.getD i Zu).2.1 x.2.1
  ·rw [Zj (Zk h), Zc (by unfold Qp; simp; omega)]
   have ih := Z3w K1 a i hi N (pre ++ [x]) rest (out ++ [(max (a.getD i Zu).1 x.1, min (a.getD i Zu).2.1 x.2.1, ())]) (by simp; omega) (by omega) (by simp; omega)
   rw [es, el] at ih
   have hc : Qat (a.getD i Zu) x = [(max (a.getD i Zu).1 x.1, min (a.getD i Zu).2.1 x.2.1, ())] := if_pos h
   rw [ih, List.flatMap_cons, hc, List.append_assoc]
  ·rw [Zh (Zl h)]
   have ih := Z3w K1 a i hi N (pre ++ [x]) rest out (by simp; omega) (by omega) (by omega)
   rw [es, el] at ih
   have hc : Qat (a.getD i Zu) x = [] := if_neg h
   rw [ih, List.flatMap_cons, hc, List.nil_append]
theorem Qqu (a b : Ze) : (Qat a b).length ≤ 1 := by unfold Qat; split <;> simp
theorem Zyx {α β : Type} {f : α → List β} {k : Nat} (hf : ∀ x, (f x).length ≤ k) : ∀ l : List α, (l.flatMap f).length ≤ k * l.length
 | [] => by simp
 | x :: l => by
  have := Zyx hf l
  have := hf x
  rw [List.flatMap_cons, List.length_append, List.length_cons, Nat.mul_succ]; omega
theorem Qih (b : List Ze) (hb : b.length ≤ 1000) : ∀ (N : Nat) (pre rest : List Ze) (out : List Ze), (pre ++ rest).length ≤ 1048576 → rest.length < N → out.length ≤ 1000 * pre.length →
  Ko N (pre ++ rest) b out (pre.length : Int) = some (out ++ (if rsB (-1) (pre ++ rest) = true ∧ rsB (-1) b = true then rest.flatMap fun a => b.flatMap (Qat a) else []), ())
 | 0, _, _, _, _, h, _ => by omega
 | N + 1, pre, [], out, hl, hN, ho => by
  unfold Ko
  simp
 | N + 1, pre, x :: rest, out, hl, hN, ho => by
  have hlen : (pre ++ x :: rest).length = pre.length + rest.length + 1 := by simp; omega
  simp only [List.length_cons] at hN
  unfold Ko
  have hd : decide ((pre.length : Int) < ((pre ++ x :: rest).length : Int)) = true := Zk (by rw [hlen]; omega)
  rw [hd, Zci _ (by omega), Zci b (by omega)]
  simp only [cond_true, Option.bind_some, Bool.true_and]
  cases h1 : rsB (-1) (pre ++ x :: rest)
  ·simp
  cases h2 : rsB (-1) b
  ·simp
  simp only [cond_true, Option.bind_some, Bool.and_self, and_self, if_true]
  have hx : (pre ++ x :: rest).getD pre.length Zu = x := J7 pre x rest Zu
  have h := Z3w (fun v => Ko N v.1 v.2.1 v.2.2.1 v.2.2.2.1) (pre ++ x :: rest) pre.length (by rw [hlen]; omega) (We (pre ++ x :: rest) b out (pre.length : Int) 0) [] b out (by simpa using hb) (by unfold We; omega) (by omega)
  refine Eq.trans h ?_
  rw [hx, Zs (m := pre.length + 1) (by omega) (by omega)]
  have hfl := Zyx (fun y => Qqu x y) b
  have ih := Qih b hb N (pre ++ [x]) rest (out ++ b.flatMap (Qat x)) (by simp; omega) (by omega) (by rw [List.length_append, List.length_append]; simp only [List.length_cons, List.length_nil]; omega)
  rw [show (pre ++ [x]) ++ rest = pre ++ x :: rest by simp, show ((pre ++ [x]).length : Int) = ((pre.length + 1 : Nat) : Int) by simp] at ih
  simp only [List.nil_append]
  rw [ih, h1, h2]
  simp
theorem Zvf (a b : List Ze) (ha : a.length ≤ 1048576) (hb : b.length ≤ 1000) : Za4 a b = some (if rsB (-1) a = true ∧ rsB (-1) b = true then a.flatMap fun x => b.flatMap (Qat x) else [], ()) := by
 have := Qih b hb (Wd a b [] 0) [] a [] (by simpa using ha) (by unfold Wd; omega) (by simp)
 simpa [Za4] using this
noncomputable def Z3n (r : Kg) : Bool := match Zat r with | some (b, _) => b | none => false
theorem Qei (r : Kg) : ∀ (N i : Nat), r.2.2.2.1.length ≤ 1048576 → r.2.2.2.1.length - i < N → i ≤ r.2.2.2.1.length →
  ∃ b, Zcx N r (i : Int) = some (b, ()) ∧ (b = true → ∀ j, i ≤ j → j < r.2.2.2.1.length → 0 ≤ r.2.2.2.1.getD j 0 ∧ r.2.2.2.1.getD j 0 ≤ 255)
 | 0, _, _, h, _ => by omega
 | N + 1, i, hl, hN, hi => by
  unfold Zcx
  by_cases h : i < r.2.2.2.1.length
  ·rw [Zj (Zk (by omega)), Zc (by omega), show (i : Int).toNat = i from rfl]
   have e1 : Z4 (r.2.2.2.1.getD i 0) 0 255 = some (decide (r.2.2.2.1.getD i 0 ≥ 0) && decide (r.2.2.2.1.getD i 0 ≤ 255), ()) := rfl
   rw [e1, Option.bind_some, Zs h (by omega)]
   obtain ⟨b, h1, h2⟩ := Qei r N (i + 1) hl (by omega) (by omega)
   cases hc : decide (r.2.2.2.1.getD i 0 ≥ 0) && decide (r.2.2.2.1.getD i 0 ≤ 255)
   ·exact ⟨false, rfl, by simp⟩
   ·simp only [Bool.and_eq_true, decide_eq_true_eq] at hc
    refine ⟨b, h1, fun hb j hj hj2 => ?_⟩
    by_cases e : j = i
    ·subst e; exact ⟨hc.1, hc.2⟩
    ·exact h2 hb j (by omega) hj2
  ·rw [Zh (Zl (by omega))]
   exact ⟨true, rfl, fun _ j hj hj2 => by omega⟩
theorem Qb4 (r : Kg) (hl : r.2.2.2.1.length ≤ 1048576) : Zat r = some (Z3n r, ()) ∧ (Z3n r = true → (0 < r.1 ∧ r.1 ≤ 64) ∧ (r.2.2.2.1.length : Int) = r.1 ∧ 0 ≤ r.2.1 ∧ r.2.1 ≤ r.2.2.1 ∧ r.2.2.1 - r.2.1 ≤ r.1 ∧ r.2.2.1 ≤ 4611686018427387903 ∧
  ∀ j, j < r.2.2.2.1.length → 0 ≤ r.2.2.2.1.getD j 0 ∧ r.2.2.2.1.getD j 0 ≤ 255) := by
 have key : ∃ b, Zat r = some (b, ()) ∧ (b = true → (0 < r.1 ∧ r.1 ≤ 64) ∧ (r.2.2.2.1.length : Int) = r.1 ∧ 0 ≤ r.2.1 ∧ r.2.1 ≤ r.2.2.1 ∧ r.2.2.1 - r.2.1 ≤ r.1 ∧ r.2.2.1 ≤ 4611686018427387903 ∧
   ∀ j, j < r.2.2.2.1.length → 0 ≤ r.2.2.2.1.getD j 0 ∧ r.2.2.2.1.getD j 0 ≤ 255) := by
  unfold Zat Zaf
  simp only [Option.bind_some]
  generalize hp : (((decide (r.1 > (0 : Int))) && (decide (r.1 ≤ (64 : Int)))) && ((bits .and .i64 r.1 (IntKind.i64.wrap (r.1 - (1 : Int)))) == (0 : Int))) = p
  generalize hc : ((((((!p) || ((r.2.2.2.1.length : Int) != r.1)) || (decide (r.2.1 < (0 : Int)))) || (decide (r.2.2.1 < r.2.1))) || (decide ((IntKind.i64.wrap (r.2.2.1 - r.2.1)) > r.1))) || (decide (r.2.2.1 > (4611686018427387903 : Int)))) = c
  cases c
  ·simp only [Bool.or_eq_false_iff, Bool.not_eq_false', decide_eq_false_iff_not, bne_eq_false_iff_eq] at hc
   obtain ⟨⟨⟨⟨⟨c1, c2⟩, c3⟩, c4⟩, c5⟩, c6⟩ := hc
   subst c1
   simp only [Bool.and_eq_true, decide_eq_true_eq] at hp
   rw [Zx (by omega) (by omega)] at c5
   obtain ⟨b, h1, h2⟩ := Qei r (V3 r 0) 0 hl (by unfold V3; omega) (by omega)
   refine ⟨b, h1, fun hb => ⟨⟨by omega, by omega⟩, by omega, by omega, by omega, by omega, by omega, fun j hj => h2 hb j (by omega) hj⟩⟩
  ·exact ⟨false, rfl, by simp⟩
 obtain ⟨b, h1, h2⟩ := key
 have e : Z3n r = b := by unfold Z3n; rw [h1]
 rw [e]; exact ⟨h1, h2⟩
theorem Qtp (r : Kg) (hl : r.2.2.2.1.length ≤ 1048576) : Zmv r = some (r, ()) := by
 unfold Zmv
 rw [Zc (by unfold Qp; simp; omega)]
 simp
theorem Qqc {x n : Int} (hx : 0 ≤ x) (hn : 0 < n) : 0 ≤ Int.tmod x n ∧ Int.tmod x n < n := by
 rw [Int.tmod_eq_emod_of_nonneg hx]
 exact ⟨Int.emod_nonneg _ (by omega), Int.emod_lt_of_pos _ hn⟩
theorem Z03 (d : List UInt8) (r t4 : Kg) (hr : 0 < r.1) (hE : 0 ≤ r.2.2.1) (hd : d.length ≤ 1048576) (n : Nat) (hE2 : r.2.2.1 + n ≤ 4611686018427387903) (hn : n ≤ d.length) :
  ∀ (N i : Nat) (x : Kg), (x.2.2.2.1.length : Int) = r.1 → n - i < N → i ≤ n →
   ∃ cs, Vv N d r t4 x (n : Int) (i : Int) = some ((x.1, x.2.1, IntKind.i64.wrap (r.2.2.1 + n), cs, x.2.2.2.2), (n : Int), ()) ∧ cs.length = x.2.2.2.1.length
 | 0, _, _, _, h, _ => by omega
 | N + 1, i, x, hx, hN, hi => by
  unfold Vv
  by_cases h : i < n
  ·have hm := Qqc (x := r.2.2.1 + (i : Int)) (n := r.1) (by omega) hr
   rw [Zj (Zk (by omega)), Zc (by omega), Zx (by omega) (by omega)]
   simp only
   rw [Zc (by omega), Zc (by omega), Zs (m := n) h (by omega)]
   obtain ⟨cs, h1, h2⟩ := Z03 d r t4 hr hE hd n hE2 hn N (i + 1) (x.1, (x.2.1, (x.2.2.1, (x.2.2.2.1.set (Int.tmod (r.2.2.1 + (i : Int)) r.1).toNat (IntKind.i64.wrap ((d.getD (i : Int).toNat 0).toNat : Int)), x.2.2.2.2)))) (by simp only [List.length_set]; exact hx) (by omega) (by omega)
   exact ⟨cs, h1, by rw [h2]; simp only [List.length_set]⟩
  ·have : i = n := by omega
   subst this
   rw [Zh (Zl (by omega))]
   exact ⟨x.2.2.2.1, rfl, rfl⟩
theorem Qww (r : Kg) (d : List UInt8) (hl : r.2.2.2.1.length ≤ 1048576) (hd : d.length ≤ 1048576) (hE : 0 ≤ r.2.2.1) (hE2 : r.2.2.1 ≤ 4611686018427387903) :
  ∃ cs, ∃ n : Nat, Znw r d = some ((r.1, r.2.1, r.2.2.1 + n, cs, ()), (n : Int), ()) ∧ n ≤ d.length ∧ cs.length = r.2.2.2.1.length ∧ r.2.2.1 + n ≤ 4611686018427387903 := by
 obtain ⟨h1, h2⟩ := Qb4 r hl
 unfold Znw Z0t
 rw [Qtp r hl, h1]
 simp only [Option.bind_some]
 cases hb : Z3n r
 ·simp only [Bool.not_false, cond_true, Option.bind_some]
  rw [show min (0 : Int) (d.length : Int) = 0 by omega]
  refine ⟨r.2.2.2.1, 0, ?_, by omega, rfl, by simpa using hE2⟩
  show Vv 1 d r _ r 0 0 = _
  unfold Vv
  rw [Zh (by decide)]
  rw [Zx (by omega) (by omega)]
  simp
 ·obtain ⟨⟨a1, a2⟩, a3, a4, a5, a6, a7, a8⟩ := h2 hb
  simp only [Bool.not_true, cond_false, Option.bind_some]
  rw [show IntKind.i64.wrap (r.2.2.1 - r.2.1) = r.2.2.1 - r.2.1 from Zx (by omega) (by omega), Zx (by omega) (by omega), Zx (by omega) (by omega)]
  obtain ⟨n, hn⟩ : ∃ n : Nat, min (min (r.1 - (r.2.2.1 - r.2.1)) (4611686018427387903 - r.2.2.1)) (d.length : Int) = (n : Int) := ⟨(min (min (r.1 - (r.2.2.1 - r.2.1)) (4611686018427387903 - r.2.2.1)) (d.length : Int)).toNat, by omega⟩
  rw [hn]
  obtain ⟨cs, k1, k2⟩ := Z03 d r ((0 : Int), ((0 : Int), ((0 : Int), (([] : List Int), ())))) a1 hE hd n (by omega) (by omega) (Zbz d r ((0 : Int), ((0 : Int), ((0 : Int), (([] : List Int), ())))) r (n : Int) 0) 0 r a3 (by unfold Zbz; omega) (by omega)
  refine ⟨cs, n, ?_, by omega, k2, by omega⟩
  refine Eq.trans k1 ?_
  rw [Zx (by omega) (by omega)]
theorem Qtn (n : Int) : ∃ s, Zmu n = some (s, ()) ∧ s.length ≤ 1 := by
 unfold Zmu Zok
 generalize bits .and .i64 n (255 : Int) = m
 rw [show Z4 1 1 7 = some (true, ()) from rfl]
 simp only [Option.bind_some, Bool.not_true, Bool.false_or]
 by_cases h : m < 0
 ·rw [Zj (Zk h)]; exact ⟨[], rfl, by simp⟩
 ·rw [Zh (Zl h)]
  show ∃ s, Option.bind (Vz 2 m 1 [] 0) _ = _ ∧ _
  unfold Vz
  rw [Zj (by decide), Zc (by decide)]
  simp only
  rw [Zc (by unfold Z5 Z6; simp), Zc (by decide)]
  unfold Vz
  rw [show IntKind.i64.wrap ((0 : Int) + 1) = 1 from rfl, Zh (by decide)]
  cases decide (IntKind.i64.wrap (Int.tdiv m 256) > 0)
  ·exact ⟨_, rfl, by simp [Z6]⟩
  ·exact ⟨_, rfl, by simp⟩
theorem Z3i (o n : Nat) (r : Kg) (hr : 0 < r.1) (hl : (r.2.2.2.1.length : Int) = r.1) (ho : o + n ≤ 4611686018427387903) (hn : n ≤ 64) : ∀ (N i : Nat) (s : List UInt8), n - i < N → i ≤ n → s.length ≤ i →
  ∃ t, Zgm N (o : Int) (n : Int) r s (i : Int) = some (t, true, ()) ∧ t.length ≤ n
 | 0, _, _, h, _, _ => by omega
 | N + 1, i, s, hN, hi, hs => by
  unfold Zgm
  by_cases h : i < n
  ·have hm := Qqc (x := (o : Int) + (i : Int)) (n := r.1) (by omega) hr
   rw [Zj (Zk (by omega)), Zc (by omega), Zx (by omega) (by omega)]
   simp only
   rw [Zc (by omega)]
   obtain ⟨t, h1, h2⟩ := Qtn (r.2.2.2.1.getD (Int.tmod ((o : Int) + (i : Int)) r.1).toNat 0)
   rw [h1, Option.bind_some, Zc (by unfold Z5; simp only; omega), Zs (m := n) h (by omega)]
   exact Z3i o n r hr hl ho hn N (i + 1) (s ++ t) (by omega) (by omega) (by simp; omega)
  ·rw [Zh (Zl (by omega))]
   exact ⟨s, rfl, by omega⟩
theorem Qr6 (r : Kg) (o n : Int) (hl : r.2.2.2.1.length ≤ 1048576) : ∃ t ok, Zlc r o n = some (t, ok, ()) ∧ (t.length : Int) ≤ max n 0 ∧ t.length ≤ 64 := by
 obtain ⟨h1, h2⟩ := Qb4 r hl
 unfold Zlc
 rw [h1, Option.bind_some]
 generalize hc : (((((!Z3n r) || (decide (o < r.2.1))) || (decide (n < (0 : Int)))) || (decide (o > r.2.2.1))) || (decide (n > (IntKind.i64.wrap (r.2.2.1 - o))))) = c
 cases c
 ·simp only [Bool.or_eq_false_iff, Bool.not_eq_false', decide_eq_false_iff_not] at hc
  obtain ⟨⟨⟨⟨c1, c2⟩, c3⟩, c4⟩, c5⟩ := hc
  obtain ⟨⟨a1, a2⟩, a3, a4, a5, a6, a7, a8⟩ := h2 c1
  rw [Zx (by omega) (by omega)] at c5
  obtain ⟨o, rfl⟩ := Int.eq_ofNat_of_zero_le (a := o) (by omega)
  obtain ⟨n, rfl⟩ := Int.eq_ofNat_of_zero_le (a := n) (by omega)
  obtain ⟨t, k1, k2⟩ := Z3i o n r a1 a3 (by omega) (by omega) (Zdr (o : Int) (n : Int) r [] 0) 0 [] (by unfold Zdr; omega) (by omega) (by simp)
  exact ⟨t, true, k1, by omega, by omega⟩
 ·exact ⟨[], false, rfl, by simp; omega, by simp⟩
theorem Z3d (dt : Nat) (r t4 : Kg) (hr : 0 < r.1) (hdt : dt ≤ 4611686018427387903) : ∀ (N i : Nat) (x : Kg), (x.2.2.2.1.length : Int) = r.1 → dt - i < N → i ≤ dt →
  ∃ cs, Zf5 N (dt : Int) r t4 x (i : Int) = some ((x.1, (dt : Int), x.2.2.1, cs, x.2.2.2.2), true, ()) ∧ cs.length = x.2.2.2.1.length
 | 0, _, _, _, h, _ => by omega
 | N + 1, i, x, hx, hN, hi => by
  unfold Zf5
  by_cases h : i < dt
  ·have hm := Qqc (x := (i : Int)) (n := r.1) (by omega) hr
   rw [Zj (Zk (by omega)), Zc (by omega), Zc (by omega), Zs (m := dt) h (by omega)]
   obtain ⟨cs, h1, h2⟩ := Z3d dt r t4 hr hdt N (i + 1) (x.1, (x.2.1, (x.2.2.1, (x.2.2.2.1.set (Int.tmod (i : Int) r.1).toNat (0 : Int), x.2.2.2.2)))) (by simp only [List.length_set]; exact hx) (by omega) (by omega)
   exact ⟨cs, h1, by rw [h2]; simp only [List.length_set]⟩
  ·have : i = dt := by omega
   subst this
   rw [Zh (Zl (by omega))]
   exact ⟨x.2.2.2.1, rfl, rfl⟩
theorem Qxl (r : Kg) (dt : Int) (hl : r.2.2.2.1.length ≤ 1048576) : ∃ cs b ok, Zih r dt = some ((r.1, b, r.2.2.1, cs, ()), ok, ()) ∧ cs.length = r.2.2.2.1.length := by
 obtain ⟨h1, h2⟩ := Qb4 r hl
 unfold Zih
 rw [Qtp r hl, h1]
 simp only [Option.bind_some]
 generalize hc : (((!Z3n r) || (decide (dt < r.2.1))) || (decide (dt > r.2.2.1))) = c
 cases c
 ·simp only [Bool.or_eq_false_iff, Bool.not_eq_false', decide_eq_false_iff_not] at hc
  obtain ⟨⟨c1, c2⟩, c3⟩ := hc
  obtain ⟨⟨a1, a2⟩, a3, a4, a5, a6, a7, a8⟩ := h2 c1
  obtain ⟨dt, rfl⟩ := Int.eq_ofNat_of_zero_le (a := dt) (by omega)
  obtain ⟨bs, hbs⟩ := Int.eq_ofNat_of_zero_le (a := r.2.1) (by omega)
  obtain ⟨cs, k1, k2⟩ := Z3d dt r ((0 : Int), ((0 : Int), ((0 : Int), (([] : List Int), ())))) a1 (by omega) (Zdo (dt : Int) r ((0 : Int), ((0 : Int), ((0 : Int), (([] : List Int), ())))) r r.2.1) bs r a3 (by unfold Zdo; omega) (by omega)
  rw [← hbs] at k1
  exact ⟨cs, dt, true, k1, k2⟩
 ·exact ⟨r.2.2.2.1, r.2.1, false, rfl, rfl⟩
def Z14 : List Ze → Int → Int
 | [], f => f
 | x :: l, f => Z14 l (if x.1 ≤ f ∧ f < x.2.1 then x.2.1 else f)
theorem Qnm : ∀ (N : Nat) (pre rest : List Ze) (f : Int), (pre ++ rest).length ≤ 1048576 → rest.length < N → K6 N (pre ++ rest) f (pre.length : Int) = some (Z14 rest f, ())
 | 0, _, _, _, _, h => by omega
 | N + 1, pre, [], f, hl, hN => by
  unfold K6
  rw [Zh (by simp)]; rfl
 | N + 1, pre, x :: rest, f, hl, hN => by
  have hlen : (pre ++ x :: rest).length = pre.length + rest.length + 1 := by simp; omega
  simp only [List.length_cons] at hN
  have g : ∀ {ρ : Type} (m : Option ρ), Zb (0 ≤ (pre.length : Int) ∧ (pre.length : Int) < ((pre ++ x :: rest).length : Int)) m = m := fun m => Zc (by rw [hlen]; omega)
  have es : (pre ++ [x]) ++ rest = pre ++ x :: rest := by simp
  have el : ((pre ++ [x]).length : Int) = ((pre.length + 1 : Nat) : Int) := by simp
  unfold K6 Zga
  rw [Zj (Zk (by rw [hlen]; omega))]
  simp only [g, J7]
  rw [Zc (fun _ => by rw [hlen]; omega), Zs (m := pre.length + 1) (by omega) (by omega)]
  have ih := fun f => Qnm N (pre ++ [x]) rest f (by simp; omega) (by omega)
  simp only [es, el] at ih
  by_cases h : x.1 ≤ f ∧ f < x.2.1
  ·rw [Zj (by simp; omega), ih]
   simp only [Z14]; rw [if_pos h]
  ·rw [Zh (by rw [Bool.and_eq_false_iff, decide_eq_false_iff_not, decide_eq_false_iff_not]; omega), ih]
   simp only [Z14]; rw [if_neg h]
theorem Z8g (l : List Ze) (f : Int) (hl : l.length ≤ 1048576) : Ze2 l f = some (if rsB (-1) l = true ∧ 0 ≤ f then Z14 l f else -1, ()) := by
 unfold Ze2
 rw [Zci l hl, Option.bind_some]
 cases h1 : rsB (-1) l
 ·simp
 ·by_cases h2 : f < 0
  ·rw [Zj (by simp [h2]), if_neg (by omega)]
  ·rw [Zh (by simp; omega), if_pos ⟨rfl, by omega⟩]
   exact Qnm _ [] l f (by simpa using hl) (by unfold Zir; omega)
def Jy : List Ze → Int
 | [] => 0
 | x :: l => (x.2.1 - x.1) + Jy l
theorem Qqt : ∀ (N : Nat) (pre rest : List Ze) (lo n : Int), (pre ++ rest).length ≤ 1048576 → rest.length < N → rsB lo rest = true → 0 ≤ n → n ≤ max lo 0 → n ≤ 4611686018427387903 → Yq N (pre ++ rest) n (pre.length : Int) = some (n + Jy rest, ())
 | 0, _, _, _, _, _, h, _, _, _, _ => by omega
 | N + 1, pre, [], lo, n, hl, hN, _, _, _, _ => by
  unfold Yq
  rw [Zh (by simp)]; simp [Jy]
 | N + 1, pre, x :: rest, lo, n, hl, hN, hx, h0, h1, h2 => by
  have hlen : (pre ++ x :: rest).length = pre.length + rest.length + 1 := by simp; omega
  simp only [List.length_cons] at hN
  obtain ⟨hf, hlo, hrest⟩ := Ju.1 hx
  have hf := Qx.1 hf
  have g : ∀ {ρ : Type} (m : Option ρ), Zb (0 ≤ (pre.length : Int) ∧ (pre.length : Int) < ((pre ++ x :: rest).length : Int)) m = m := fun m => Zc (by rw [hlen]; omega)
  unfold Yq
  rw [Zj (Zk (by rw [hlen]; omega))]
  simp only [g, J7]
  rw [Zs (m := pre.length + 1) (by omega) (by omega), show IntKind.i64.wrap (n + x.2.1) = n + x.2.1 from Zx (by omega) (by omega), Zx (by omega) (by omega)]
  have ih := Qqt N (pre ++ [x]) rest x.2.1 (n + x.2.1 - x.1) (by simp; omega) (by omega) hrest (by omega) (by omega) (by omega)
  rw [show (pre ++ [x]) ++ rest = pre ++ x :: rest by simp, show ((pre ++ [x]).length : Int) = ((pre.length + 1 : Nat) : Int) by simp] at ih
  rw [ih]
  simp only [Jy]
  congr 2; omega
theorem Zaa (l : List Ze) (hl : l.length ≤ 1048576) : Kc l = some (if rsB (-1) l = true then Jy l else -1, ()) := by
 unfold Kc
 rw [Zci l hl, Option.bind_some]
 cases h1 : rsB (-1) l
 ·simp
 ·have := Qqt (Wf l 0 0) [] l (-1) 0 (by simpa using hl) (by unfold Wf; omega) h1 (by omega) (by omega) (by omega)
  simp only [Bool.not_true, cond_false, if_true]
  refine Eq.trans this ?_
  simp
abbrev Qwo (s : Zm) : Int := s.2.1.2.2.1
structure Jl (K : Int) (s : Zm) : Prop where
 cells : s.2.1.2.2.2.1.length ≤ 64
 e0 : 0 ≤ s.2.1.2.2.1
 eK : s.2.1.2.2.1 ≤ K
 pend : RL s.2.1.2.2.1 s.2.2.1
 flight : RL s.2.1.2.2.1 s.2.2.2.1
 acked : RL s.2.1.2.2.1 s.2.2.2.2.1
theorem Jl.mono {K K' : Int} {s : Zm} (h : Jl K s) (hK : K ≤ K') : Jl K' s := { h with eK := Int.le_trans h.eK hK }
theorem Q9 {E K : Int} {l : List Ze} (h : RL E l) (h0 : 0 ≤ E) (hE : E ≤ K) (hK : K ≤ 1000000) : l.length ≤ 1000001 := by
 have := Q0u h (by omega); omega
theorem Xc {α : Type} {l : List α} {i : Nat} {d : α} (h : i < l.length) : l.getD i d ∈ l := by
 rw [List.getD_eq_getElem?_getD, List.getElem?_eq_getElem h]; exact List.getElem_mem h
theorem Ztm {K : Int} {s : Zm} (h : Jl K s) (hK : K ≤ 1000000) : Zaw s = some (s, ()) := by
 unfold Zaw
 rw [Qtp _ (by have := h.cells; omega), Z4y _ (Nat.le_trans (Q9 h.pend h.e0 h.eK hK) (by omega)), Option.bind_some, Z4y _ (Nat.le_trans (Q9 h.flight h.e0 h.eK hK) (by omega)), Option.bind_some, Option.bind_some, Z4y _ (Nat.le_trans (Q9 h.acked h.e0 h.eK hK) (by omega)), Option.bind_some]
theorem Z8o (s : Zm) : ∃ k, Zag s = some (k, ()) := by
 unfold Zag
 cases (s.2.2.2.2.2.2.1 == (3 : Int)) && (s.2.1.2.1 == s.2.1.2.2.1)
 ·cases (decide (s.2.2.2.2.2.2.1 > (1 : Int))) || ((s.2.2.2.2.2.2.1 == (1 : Int)) && (s.1 == (2 : Int)))
  ·cases (decide (s.2.2.2.2.2.2.2.1 > (0 : Int))) || ((s.2.2.2.2.2.2.1 == (1 : Int)) && (s.1 == (1 : Int))) <;> exact ⟨_, rfl⟩
  ·exact ⟨_, rfl⟩
 ·exact ⟨_, rfl⟩
theorem Qem (s : Zm) (hl : s.2.2.2.2.1.length ≤ 1048576) : ∀ (N i : Nat), s.2.2.2.2.1.length - i < N → i ≤ s.2.2.2.2.1.length → ∃ b, W8 N s (i : Int) = some (b, ())
 | 0, _, h, _ => by omega
 | N + 1, i, hN, hi => by
  unfold W8
  by_cases h : i < s.2.2.2.2.1.length
  ·rw [Zj (Zk (by omega)), Zc (by omega), Zs h (by omega)]
   cases decide ((s.2.2.2.2.1.getD (i : Int).toNat Zu).2.1 > s.2.2.2.2.2.2.2.1)
   ·exact Qem s hl N (i + 1) (by omega) (by omega)
   ·exact ⟨_, rfl⟩
  ·rw [Zh (Zl (by omega))]
   obtain ⟨k, hk⟩ := Z8o s
   rw [hk]
   generalize ((!((s.2.2.2.2.2.2.1 == (0 : Int)) == (s.2.2.2.2.2.1 == (-1 : Int)))) || ((s.2.2.2.2.2.1 != (-1 : Int)) && (s.2.2.2.2.2.1 != s.2.1.2.2.1))) = c
   cases c <;> exact ⟨_, rfl⟩
theorem Qel (s : Zm) (hl : s.2.2.2.1.length ≤ 1048576) (hl2 : s.2.2.2.2.1.length ≤ 1048576) : ∀ (N i : Nat), s.2.2.2.1.length - i < N → i ≤ s.2.2.2.1.length → ∃ b, W7 N s (i : Int) = some (b, ())
 | 0, _, h, _ => by omega
 | N + 1, i, hN, hi => by
  unfold W7
  by_cases h : i < s.2.2.2.1.length
  ·rw [Zj (Zk (by omega)), Zc (by omega), Zs h (by omega)]
   cases decide ((s.2.2.2.1.getD (i : Int).toNat Zu).2.1 > s.2.2.2.2.2.2.2.1)
   ·exact Qel s hl hl2 N (i + 1) (by omega) (by omega)
   ·exact ⟨_, rfl⟩
  ·rw [Zh (Zl (by omega))]
   exact Qem s hl2 _ 0 (by unfold Zdq; omega) (by omega)
theorem Qqs {l : List Ze} (h : Jy l ≠ 0) : 0 < l.length := by
 cases l with
 | nil => exact absurd rfl h
 | cons => simp
theorem Qek {K : Int} {s : Zm} (hs : Jl K s) (hK : K ≤ 1000000) : ∀ (N i : Nat) (all : List Ze), RL (Qwo s) all → s.2.2.2.2.1.length - i < N → i ≤ s.2.2.2.2.1.length → ∃ b, W6 N s all (i : Int) = some (b, ())
 | 0, _, _, _, h, _ => by omega
 | N + 1, i, all, ha, hN, hi => by
  have la := Q9 ha hs.e0 hs.eK hK
  have l1 := Q9 hs.pend hs.e0 hs.eK hK
  have l2 := Q9 hs.flight hs.e0 hs.eK hK
  have l3 := Q9 hs.acked hs.e0 hs.eK hK
  unfold W6
  by_cases h : i < s.2.2.2.2.1.length
  ·rw [Zj (Zk (by omega)), Zc (by omega), Zs h (by omega), Zm1 _ _ (by omega), Option.bind_some]
   exact Qek hs hK N (i + 1) _ (Zvb ha (hs.acked.2 _ (Xc h))) (by omega) (by omega)
  ·rw [Zh (Zl (by omega)), Zaa _ (by omega), Zaa _ (by omega), Zaa _ (by omega), Zaa _ (by omega), Z8g _ _ (by omega)]
   simp only [Option.bind_some, ha.1, if_true]
   rw [Zc (fun h1 h2 => by
    simp only [Bool.or_eq_false_iff, bne_eq_false_iff_eq, decide_eq_true_eq] at h1 h2
    have := Qqs (l := all) (by omega)
    omega)]
   generalize hc : ((Jy all != s.2.1.2.2.1 || _) || _) = c
   cases c
   ·simp only [cond_false, Option.bind_some]
    generalize ((false || _) || _) = c2
    cases c2
    ·exact Qel s (by omega) (by omega) _ 0 (by unfold Ww; omega) (by omega)
    ·exact ⟨_, rfl⟩
   ·simp only [cond_true, Option.bind_some, Bool.true_or]
    exact ⟨_, rfl⟩
theorem Qej {K : Int} {s : Zm} (hs : Jl K s) (hK : K ≤ 1000000) : ∀ (N i : Nat) (all : List Ze), RL (Qwo s) all → s.2.2.2.1.length - i < N → i ≤ s.2.2.2.1.length → ∃ b, W5 N s all (i : Int) = some (b, ())
 | 0, _, _, _, h, _ => by omega
 | N + 1, i, all, ha, hN, hi => by
  have la := Q9 ha hs.e0 hs.eK hK
  have l2 := Q9 hs.flight hs.e0 hs.eK hK
  unfold W5
  by_cases h : i < s.2.2.2.1.length
  ·rw [Zj (Zk (by omega)), Zc (by omega), Zs h (by omega), Zm1 _ _ (by omega), Option.bind_some]
   exact Qej hs hK N (i + 1) _ (Zvb ha (hs.flight.2 _ (Xc h))) (by omega) (by omega)
  ·rw [Zh (Zl (by omega))]
   exact Qek hs hK _ 0 all ha (by unfold Wv; omega) (by omega)
theorem Zfv {K : Int} {s : Zm} (hs : Jl K s) (hK : K ≤ 1000000) : ∃ b, Ym s = some (b, ()) ∧ (b = true → Z3n s.2.1 = true ∧ 0 ≤ s.2.2.2.2.2.2.2.1 ∧ s.2.2.2.2.2.2.2.1 ≤ s.2.1.2.2.1) := by
 have l1 := Q9 hs.pend hs.e0 hs.eK hK
 have l2 := Q9 hs.flight hs.e0 hs.eK hK
 have l3 := Q9 hs.acked hs.e0 hs.eK hK
 have hr := (Qb4 s.2.1 (by have := hs.cells; omega)).1
 obtain ⟨b1, h1⟩ := Qej hs hK (Jr s s.2.2.1 0) 0 s.2.2.1 hs.pend (by unfold Jr; omega) (by omega)
 unfold Ym
 rw [hr, Zci _ (by omega), Zci _ (by omega), Zci _ (by omega)]
 have e1 : Z4 s.2.2.2.2.2.2.2.1 0 s.2.1.2.2.1 = some (decide (s.2.2.2.2.2.2.2.1 ≥ 0) && decide (s.2.2.2.2.2.2.2.1 ≤ s.2.1.2.2.1), ()) := rfl
 have e2 : Qe s.2.2.2.2.2.2.2.2.1 = some (decide (s.2.2.2.2.2.2.2.2.1 ≥ 0) && decide (s.2.2.2.2.2.2.2.2.1 ≤ 4611686018427387903), ()) := rfl
 have e3 : Z4 s.2.2.2.2.2.2.1 0 3 = some (decide (s.2.2.2.2.2.2.1 ≥ 0) && decide (s.2.2.2.2.2.2.1 ≤ 3), ()) := rfl
 simp only [hs.pend.1, hs.flight.1, hs.acked.1, e1, e2, e3, Option.bind_some]
 cases Z3n s.2.1
 ·exact ⟨false, rfl, by simp⟩
 simp only [Bool.not_true, cond_false, Option.bind_some, Bool.false_or]
 by_cases hsent : 0 ≤ s.2.2.2.2.2.2.2.1 ∧ s.2.2.2.2.2.2.2.1 ≤ s.2.1.2.2.1
 ·simp only [show decide (s.2.2.2.2.2.2.2.1 ≥ 0) = true from Zk (by omega), show decide (s.2.2.2.2.2.2.2.1 ≤ s.2.1.2.2.1) = true from Zk hsent.2, Bool.and_self, Bool.not_true, cond_false, Option.bind_some, Bool.false_or]
  generalize (decide (s.2.2.2.2.2.2.2.2.1 ≥ 0) && decide (s.2.2.2.2.2.2.2.2.1 ≤ 4611686018427387903)) = c1
  generalize (decide (s.2.2.2.2.2.2.1 ≥ 0) && decide (s.2.2.2.2.2.2.1 ≤ 3)) = c2
  cases c1
  ·exact ⟨false, rfl, by simp⟩
  cases c2
  ·exact ⟨false, rfl, by simp⟩
  simp only [Bool.not_true, cond_false, Option.bind_some, Bool.or_self]
  generalize ((s.1 == (4 : Int)) || (s.1 == (5 : Int))) = c3
  cases c3
  ·exact ⟨b1, h1, fun _ => ⟨trivial, hsent.1, hsent.2⟩⟩
  ·exact ⟨_, rfl, fun _ => ⟨trivial, hsent.1, hsent.2⟩⟩
 ·have : (decide (s.2.2.2.2.2.2.2.1 ≥ 0) && decide (s.2.2.2.2.2.2.2.1 ≤ s.2.1.2.2.1)) = false := by
   rw [Bool.and_eq_false_iff, decide_eq_false_iff_not, decide_eq_false_iff_not]; omega
  rw [this]
  exact ⟨false, rfl, by simp⟩
theorem Qe3 {K : Int} {s : Zm} (h : Jl K s) (d : List UInt8) (hK : K + d.length ≤ 1000000) :
  ∃ x n, Zgr s d = some (x, n, ()) ∧ Jl (K + d.length) x := by
 have h0 := h.e0
 have hcl := h.cells
 have heK := h.eK
 obtain ⟨b, h1, -⟩ := Zfv h (by omega)
 have lp := Q9 h.pend h0 heK (by omega)
 unfold Zgr
 rw [Ztm h (by omega), h1]
 simp only [Option.bind_some]
 generalize (((!b) || (decide (s.1 > (1 : Int)))) || (s.2.2.2.2.2.1 != (-1 : Int))) = c
 cases c
 ·obtain ⟨cs, n, k1, k2, k3, k4⟩ := Qww s.2.1 d (by omega) (by omega) h0 (by omega)
  rw [cond_false, k1, Option.bind_some]
  unfold Zfl
  have add : RL (s.2.1.2.2.1 + n) s.2.2.2.1 ∧ RL (s.2.1.2.2.1 + n) s.2.2.2.2.1 := ⟨Qhh h.flight (by omega), Qhh h.acked (by omega)⟩
  by_cases hn : (n : Int) > 0
  ·rw [Zj (Zk hn), Zm1 _ _ (by omega), Option.bind_some]
   exact ⟨_, _, rfl, { cells := (by simp only; omega), e0 := (by simp only; omega), eK := (by simp only; omega), pend := Zvb (Qhh h.pend (by simp only; omega)) (by simp only; omega), flight := add.1, acked := add.2 }⟩
  ·rw [Zh (Zl hn)]
   exact ⟨_, _, rfl, { cells := (by simp only; omega), e0 := (by simp only; omega), eK := (by simp only; omega), pend := Qhh h.pend (by simp only; omega), flight := add.1, acked := add.2 }⟩
 ·exact ⟨s, 0, rfl, h.mono (by omega)⟩
theorem Qee {K : Int} {s : Zm} (h : Jl K s) (hK : K ≤ 1000000) : ∃ x ok, Zf4 s = some (x, ok, ()) ∧ Jl K x := by
 obtain ⟨b, h1, -⟩ := Zfv h hK
 unfold Zf4
 rw [Ztm h hK, h1]
 simp only [Option.bind_some]
 generalize (((!b) || (decide (s.1 > (1 : Int)))) || (s.2.2.2.2.2.1 != (-1 : Int))) = c
 cases c
 ·exact ⟨_, _, rfl, { cells := h.cells, e0 := h.e0, eK := h.eK, pend := h.pend, flight := h.flight, acked := h.acked }⟩
 ·exact ⟨s, false, rfl, h⟩
theorem Zil (E : Int) : RL E [] := ⟨rfl, by simp⟩
theorem Zzv {K : Int} {s : Zm} (h : Jl K s) (code : Int) (hK : K ≤ 1000000) : ∃ x ok, Zce s code = some (x, ok, ()) ∧ Jl K x := by
 have hcl := h.cells
 have heK := h.eK
 obtain ⟨b, h1, h2⟩ := Zfv h hK
 unfold Zce
 rw [h1]
 simp only [Option.bind_some]
 have e2 : Qe code = some (decide (code ≥ 0) && decide (code ≤ 4611686018427387903), ()) := rfl
 rw [e2]
 cases b
 ·simp only [Bool.not_false, Bool.true_or, cond_true, Option.bind_some]
  rw [Ztm h hK]
  exact ⟨s, false, rfl, h⟩
 ·obtain ⟨hr, hs0, hsE⟩ := h2 rfl
  obtain ⟨⟨a1, a2⟩, -⟩ := (Qb4 s.2.1 (by omega)).2 hr
  simp only [Bool.not_true, Bool.false_or]
  generalize (decide (code ≥ 0) && decide (code ≤ 4611686018427387903)) = q
  cases decide (s.1 > 2)
  ·cases q
   ·simp only [cond_false, Option.bind_some, Bool.not_false, Bool.false_or, cond_true]
    rw [Ztm h hK]
    exact ⟨s, false, rfl, h⟩
   ·simp only [cond_false, Option.bind_some, Bool.not_true, Bool.or_self, Wh, Vk]
    rw [Zc (by unfold Qp; omega)]
    exact ⟨_, _, rfl, { cells := (by simp; omega), e0 := hs0, eK := (by simp only; omega), pend := Zil _, flight := Zil _, acked := Zil _ }⟩
  ·simp only [cond_true, Option.bind_some, Bool.true_or]
   rw [Ztm h hK]
   exact ⟨s, false, rfl, h⟩
theorem Qn4 {K : Int} {s : Zm} (h : Jl K s) (most limit : Int) (hK : K ≤ 1000000) : ∃ p ok, Zc3 s most limit = some (p, ok, ()) ∧ p.2.1.length ≤ 64 := by
 have hcl := h.cells
 obtain ⟨b, h1, h2⟩ := Zfv h hK
 unfold Zc3
 rw [h1]
 simp only [Option.bind_some]
 have j1 : ∀ t p8 r hi, ∃ p ok, Zel s t p8 r hi = some (p, ok, ()) ∧ p.2.1.length ≤ 64 := by
  intro t p8 r hi
  unfold Zel
  by_cases hc : hi ≤ r.1
  ·rw [Zj (Zk hc)]; exact ⟨_, _, rfl, Nat.zero_le _⟩
  ·rw [Zh (Zl hc)]
   obtain ⟨t, ok, k1, k2, k3⟩ := Qr6 s.2.1 r.1 (IntKind.i64.wrap (hi - r.1)) (by omega)
   rw [k1, Option.bind_some]
   exact ⟨_, _, rfl, k3⟩
 generalize ((!b) || (decide (s.1 > (2 : Int)))) = c
 cases c
 ·simp only [cond_false]
  by_cases hp : (s.2.2.1.length : Int) > 0
  ·rw [Zj (Zk hp), Zc (by omega)]
   generalize decide (min (s.2.2.1.getD (0 : Int).toNat Zu).2.1 limit ≤ (s.2.2.1.getD (0 : Int).toNat Zu).1) = c1
   cases c1
   ·simp only [cond_false]
    generalize decide (most < IntKind.i64.wrap (min (s.2.2.1.getD (0 : Int).toNat Zu).2.1 limit - (s.2.2.1.getD (0 : Int).toNat Zu).1)) = c2
    cases c2
    ·exact j1 Zmm _ _ _
    ·exact j1 Zmm _ _ _
   ·exact ⟨_, _, rfl, Nat.zero_le _⟩
  ·rw [Zh (Zl hp)]
   cases s.2.2.2.2.2.2.1 == (1 : Int)
   ·exact ⟨_, _, rfl, Nat.zero_le _⟩
   ·exact ⟨_, _, rfl, Nat.zero_le _⟩
 ·exact ⟨_, _, rfl, Nat.zero_le _⟩
theorem Qpr (s : Zm) (p : Yh) (hE0 : 0 ≤ s.2.1.2.2.1) (hE : s.2.1.2.2.1 ≤ 1000000) : ∃ b, Zn3 s p = some (b, ()) ∧ (b = true → 0 ≤ p.1 ∧ p.1 + (p.2.1.length : Int) ≤ s.2.1.2.2.1) := by
 refine ⟨_, rfl, fun hb => ?_⟩
 simp only [Bool.and_eq_true, decide_eq_true_eq] at hb
 obtain ⟨⟨⟨b1, b2⟩, b3⟩, -⟩ := hb
 rw [Zx (by omega) (by omega)] at b3
 omega
theorem Qps {p : Yh} (h0 : 0 ≤ p.1) (h1 : p.1 + (p.2.1.length : Int) ≤ 1000000) : Zkm p = some ((p.1, p.1 + (p.2.1.length : Int), ()), ()) := by
 unfold Zkm
 rw [Zx (by omega) (by omega)]
theorem Qoh {K : Int} {s : Zm} (h : Jl K s) (p : Yh) (hK : K ≤ 1000000) : ∃ x ok, Zju s p = some (x, ok, ()) ∧ Jl K x := by
 have h0 := h.e0
 have heK := h.eK
 have lp := Q9 h.pend h0 heK hK
 have lf := Q9 h.flight h0 heK hK
 obtain ⟨b, h1, h2⟩ := Zfv h hK
 obtain ⟨b2, h3, h4⟩ := Qpr s p h0 (by omega)
 have j2 : ∀ t x, Jl K x → ∃ y ok, Zeq t x = some (y, ok, ()) ∧ Jl K y := by
  intro t x hx
  unfold Zeq
  obtain ⟨k, hk⟩ := Z8o x
  rw [hk]
  exact ⟨_, _, rfl, { cells := hx.cells, e0 := hx.e0, eK := hx.eK, pend := hx.pend, flight := hx.flight, acked := hx.acked }⟩
 have j1 : ∀ t x, Jl K x → ∃ y ok, Zep p t x = some (y, ok, ()) ∧ Jl K y := by
  intro t x hx
  unfold Zep
  cases p.2.2.1
  ·exact j2 Jk _ hx
  ·exact j2 Jk _ { cells := hx.cells, e0 := hx.e0, eK := hx.eK, pend := hx.pend, flight := hx.flight, acked := hx.acked }
 unfold Zju
 rw [Ztm h hK, h1]
 simp only [Option.bind_some]
 generalize (((!b) || (decide (s.1 > (2 : Int))))) = c0
 cases c0
 ·simp only [cond_false, h3, Option.bind_some, Bool.false_or]
  generalize hc : (((!b2) || ((p.2.1 == ([] : List UInt8)) && (!p.2.2.1))) || (p.2.2.1 && (s.2.2.2.2.2.2.1 != (1 : Int)))) = c
  cases c
  ·simp only [Bool.or_eq_false_iff, Bool.not_eq_false'] at hc
   obtain ⟨a1, a2⟩ := h4 hc.1.1
   rw [cond_false]
   cases p.2.1 == ([] : List UInt8)
   ·simp only [Bool.not_false, cond_true]
    rw [Qps a1 (by omega), Option.bind_some]
    rw [Zvf _ _ (by omega) (by simp), Option.bind_some]
    simp only
    generalize (if rsB (-1) s.2.2.1 = true ∧ rsB (-1) [((p.1, p.1 + (p.2.1.length : Int), ()) : Ze)] = true then List.flatMap (fun x => List.flatMap (Qat x) [((p.1, p.1 + (p.2.1.length : Int), ()) : Ze)]) s.2.2.1 else []) = cm
    rw [Zc (fun hh => by simp only [bne_eq_false_iff_eq] at hh; omega)]
    generalize ((cm.length : Int) != 1 || _) = c3
    cases c3
    ·rw [cond_false, Zzu _ _ (by omega), Option.bind_some, Zm1 _ _ (by omega), Option.bind_some]
     exact j1 Jk _ { cells := h.cells, e0 := h.e0, eK := h.eK, pend := Qs0 h.pend, flight := Zvb h.flight a2, acked := h.acked }
    ·exact ⟨_, _, rfl, h⟩
   ·exact j1 Jk _ h
  ·exact ⟨_, _, rfl, h⟩
 ·exact ⟨_, _, rfl, h⟩
theorem Qef {E : Int} {a : List Ze} {r : Ze} {c : Prop} [Decidable c] (h : ∀ x ∈ a, x.2.1 ≤ E) : ∀ y ∈ (if c then a.flatMap fun x => [r].flatMap (Qat x) else []), y.2.1 ≤ E := by
 intro y hy
 split at hy
 ·simp only [List.mem_flatMap, List.mem_singleton, exists_eq_left] at hy
  obtain ⟨x, hx, hy⟩ := hy
  unfold Qat at hy
  split at hy
  ·simp only [List.mem_singleton] at hy
   have := h x hx
   subst hy; simp only; omega
  ·cases hy
 ·cases hy
theorem Qii {a : List Ze} {r : Ze} {c : Prop} [Decidable c] : (if c then a.flatMap fun x => [r].flatMap (Qat x) else []).length ≤ a.length := by
 split
 ·have := Zyx (f := fun x => [r].flatMap (Qat x)) (k := 1) (fun x => by simpa using Qqu x r) a
  omega
 ·simp
theorem Jl.lists {K : Int} {s : Zm} (h : Jl K s) {f a : List Ze} (hf : RL s.2.1.2.2.1 f) (ha : RL s.2.1.2.2.1 a) : Jl K (s.1, (s.2.1, (s.2.2.1, (f, (a, s.2.2.2.2.2))))) :=
 {cells := h.cells, e0 := h.e0, eK := h.eK, pend := h.pend, flight := hf, acked := ha }
theorem Qd5 {K : Int} {s x : Zm} (hs : Jl K s) (hx : Jl K x) (he : x.2.1 = s.2.1) (t : Zm) (hK : K ≤ 1000000) : ∃ y, Zf0 s t x = some (y, ()) ∧ Jl K y := by
 have hcl := hs.cells
 have la := Q9 hx.acked hx.e0 hx.eK hK
 unfold Zf0
 simp only [Wh, Vk]
 rw [Z8g _ _ (by omega), Option.bind_some]
 obtain ⟨cs, b, ok, k1, k2⟩ := Qxl s.2.1 (if rsB (-1) x.2.2.2.2.1 = true ∧ 0 ≤ (0 : Int) then Z14 x.2.2.2.2.1 0 else -1) (by omega)
 rw [k1, Option.bind_some]
 unfold Xp
 obtain ⟨k, hk⟩ := Z8o (x.1, ((s.2.1.1, b, s.2.1.2.2.1, cs, ()), x.2.2))
 rw [hk, Option.bind_some]
 refine ⟨_, rfl, ?_⟩
 have e : x.2.1.2.2.1 = s.2.1.2.2.1 := by rw [he]
 exact { cells := (by simp only; omega), e0 := hs.e0, eK := hs.eK, pend := (by have := hx.pend; rw [e] at this; exact this), flight := (by have := hx.flight; rw [e] at this; exact this), acked := (by have := hx.acked; rw [e] at this; exact this) }
theorem Qd4 {K : Int} {s x : Zm} (hs : Jl K s) (hx : Jl K x) (he : x.2.1 = s.2.1) (p : Yh) (t : Zm) (hK : K ≤ 1000000) : ∃ y, Zfz s p t x = some (y, ()) ∧ Jl K y := by
 unfold Zfz
 cases p.2.2.1 && (s.2.2.2.2.2.2.1 == (2 : Int))
 ·exact Qd5 hs hx he t hK
 ·exact Qd5 hs (x := (x.1, (x.2.1, (x.2.2.1, (x.2.2.2.1, (x.2.2.2.2.1, (x.2.2.2.2.2.1, ((3 : Int), x.2.2.2.2.2.2.2)))))))) { cells := hx.cells, e0 := hx.e0, eK := hx.eK, pend := hx.pend, flight := hx.flight, acked := hx.acked } he t hK
theorem Qd6 {K : Int} {s : Zm} (hs : Jl K s) (p : Yh) (t : Zm) (hK : K ≤ 1000000) (c : List Ze) (hcl : c.length ≤ 1048576) (hc : ∀ y ∈ c, y.2.1 ≤ s.2.1.2.2.1) : ∀ (N i : Nat) (x : Zm), Jl K x → x.2.1 = s.2.1 → c.length - i < N → i ≤ c.length →
  ∃ y, Zf1 N s p t x c (i : Int) = some (y, ()) ∧ Jl K y
 | 0, _, _, _, _, h, _ => by omega
 | N + 1, i, x, hx, he, hN, hi => by
  have lf := Q9 hx.flight hx.e0 hx.eK hK
  have la := Q9 hx.acked hx.e0 hx.eK hK
  unfold Zf1
  by_cases h : i < c.length
  ·have hm := hc _ (Xc (d := Zu) h)
   have e : x.2.1.2.2.1 = s.2.1.2.2.1 := by rw [he]
   rw [Zj (Zk (by omega)), Zc (by omega), Zzu _ _ (by omega), Option.bind_some, Zc (by omega), Zm1 _ _ (by omega), Option.bind_some, Zs h (by omega)]
   exact Qd6 hs p t hK c hcl hc N (i + 1) _ (hx.lists (Qs0 hx.flight) (Zvb hx.acked (by rw [e]; exact hm))) he (by omega) (by omega)
  ·rw [Zh (Zl (by omega))]
   exact Qd4 hs hx he p t hK
theorem Qqk {K : Int} {s : Zm} (h : Jl K s) (p : Yh) (hK : K ≤ 1000000) : ∃ x, Zk7 s p = some (x, ()) ∧ Jl K x := by
 have h0 := h.e0
 have heK := h.eK
 have lf := Q9 h.flight h0 heK hK
 obtain ⟨b, h1, h2⟩ := Zfv h hK
 obtain ⟨b2, h3, h4⟩ := Qpr s p h0 (by omega)
 unfold Zk7
 rw [Ztm h hK, h1]
 simp only [Option.bind_some]
 generalize ((!b) || (decide (s.1 > (2 : Int)))) = c0
 cases c0
 ·simp only [cond_false, h3, Option.bind_some, Bool.false_or]
  cases b2
  ·exact ⟨_, rfl, h⟩
  ·obtain ⟨a1, a2⟩ := h4 rfl
   simp only [Bool.not_true, cond_false]
   cases p.2.1 == ([] : List UInt8)
   ·simp only [Bool.not_false, cond_true]
    rw [Qps a1 (by omega), Option.bind_some]
    rw [Zvf _ _ (by omega) (by simp), Option.bind_some]
    have hl := Qii (a := s.2.2.2.1) (r := ((p.1, p.1 + (p.2.1.length : Int), ()) : Ze)) (c := rsB (-1) s.2.2.2.1 = true ∧ rsB (-1) [((p.1, p.1 + (p.2.1.length : Int), ()) : Ze)] = true)
    have hh := Qef (a := s.2.2.2.1) (r := ((p.1, p.1 + (p.2.1.length : Int), ()) : Ze)) (c := rsB (-1) s.2.2.2.1 = true ∧ rsB (-1) [((p.1, p.1 + (p.2.1.length : Int), ()) : Ze)] = true) h.flight.2
    exact Qd6 h p _ hK _ (by omega) hh _ 0 s h rfl (by unfold Ziq; simp only; omega) (by omega)
   ·exact Qd4 h h rfl p _ hK
 ·exact ⟨_, rfl, h⟩
theorem Z8r {K : Int} {s x : Zm} (hx : Jl K x) (p : Yh) (t : Zm) : ∃ y, Zei s p t x = some (y, ()) ∧ Jl K y := by
 have j2 : ∀ x, Jl K x → ∃ y, Zej t x = some (y, ()) ∧ Jl K y := by
  intro x hx
  unfold Zej
  obtain ⟨k, hk⟩ := Z8o x
  rw [hk]
  exact ⟨_, rfl, { cells := hx.cells, e0 := hx.e0, eK := hx.eK, pend := hx.pend, flight := hx.flight, acked := hx.acked }⟩
 unfold Zei
 cases p.2.2.1 && (s.2.2.2.2.2.2.1 == (2 : Int))
 ·exact j2 _ hx
 ·exact j2 _ { cells := hx.cells, e0 := hx.e0, eK := hx.eK, pend := hx.pend, flight := hx.flight, acked := hx.acked }
theorem Z8s {K : Int} {s : Zm} (p : Yh) (t : Zm) (hK : K ≤ 1000000) (c : List Ze) (E : Int) (hcl : c.length ≤ 1048576) (hc : ∀ y ∈ c, y.2.1 ≤ E) : ∀ (N i : Nat) (x : Zm), Jl K x → x.2.1.2.2.1 = E → c.length - i < N → i ≤ c.length →
  ∃ y, Zek N s p t x c (i : Int) = some (y, ()) ∧ Jl K y
 | 0, _, _, _, _, h, _ => by omega
 | N + 1, i, x, hx, he, hN, hi => by
  have lf := Q9 hx.flight hx.e0 hx.eK hK
  have lp := Q9 hx.pend hx.e0 hx.eK hK
  unfold Zek
  by_cases h : i < c.length
  ·have hm := hc _ (Xc (d := Zu) h)
   rw [Zj (Zk (by omega)), Zc (by omega), Zzu _ _ (by omega), Option.bind_some, Zc (by omega), Zm1 _ _ (by omega), Option.bind_some, Zs h (by omega)]
   exact Z8s p t hK c E hcl hc N (i + 1) _ { cells := hx.cells, e0 := hx.e0, eK := hx.eK, pend := Zvb hx.pend (by rw [he]; exact hm), flight := Qs0 hx.flight, acked := hx.acked } he (by omega) (by omega)
  ·rw [Zh (Zl (by omega))]
   exact Z8r hx p t
theorem Qny {K : Int} {s : Zm} (h : Jl K s) (p : Yh) (hK : K ≤ 1000000) : ∃ x, Zjp s p = some (x, ()) ∧ Jl K x := by
 have h0 := h.e0
 have heK := h.eK
 have lf := Q9 h.flight h0 heK hK
 obtain ⟨b, h1, h2⟩ := Zfv h hK
 obtain ⟨b2, h3, h4⟩ := Qpr s p h0 (by omega)
 unfold Zjp
 rw [Ztm h hK, h1]
 simp only [Option.bind_some]
 generalize ((!b) || (decide (s.1 > (2 : Int)))) = c0
 cases c0
 ·simp only [cond_false, h3, Option.bind_some, Bool.false_or]
  cases b2
  ·exact ⟨_, rfl, h⟩
  ·obtain ⟨a1, a2⟩ := h4 rfl
   simp only [Bool.not_true, cond_false]
   cases p.2.1 == ([] : List UInt8)
   ·simp only [Bool.not_false, cond_true]
    rw [Qps a1 (by omega), Option.bind_some]
    rw [Zvf _ _ (by omega) (by simp), Option.bind_some]
    have hl := Qii (a := s.2.2.2.1) (r := ((p.1, p.1 + (p.2.1.length : Int), ()) : Ze)) (c := rsB (-1) s.2.2.2.1 = true ∧ rsB (-1) [((p.1, p.1 + (p.2.1.length : Int), ()) : Ze)] = true)
    have hh := Qef (a := s.2.2.2.1) (r := ((p.1, p.1 + (p.2.1.length : Int), ()) : Ze)) (c := rsB (-1) s.2.2.2.1 = true ∧ rsB (-1) [((p.1, p.1 + (p.2.1.length : Int), ()) : Ze)] = true) h.flight.2
    exact Z8s p _ hK _ _ (by omega) hh _ 0 s h rfl (by unfold Zhq; simp only; omega) (by omega)
   ·exact Z8r h p _
 ·exact ⟨_, rfl, h⟩
theorem Qw1 {K : Int} {s : Zm} (h : Jl K s) (hK : K ≤ 1000000) : ∃ x ok, Zo1 s = some (x, ok, ()) ∧ Jl K x := by
 obtain ⟨b, h1, h2⟩ := Zfv h hK
 unfold Zo1
 rw [Ztm h hK, h1]
 simp only [Option.bind_some]
 generalize ((!b) || (s.1 != (4 : Int))) = c
 cases c
 ·exact ⟨_, _, rfl, { cells := h.cells, e0 := h.e0, eK := h.eK, pend := h.pend, flight := h.flight, acked := h.acked }⟩
 ·exact ⟨_, _, rfl, h⟩
theorem Zt1 (c : Zw) (n : Int) (h : Qv c) : ∃ b c', Yr c n = some ((b, ()), (c', ())) ∧ Qv c' := by
 unfold Yr
 obtain ⟨x, c1, e1, k1, -, -⟩ := Ki c n h
 rw [e1, Option.bind_some]
 exact ⟨_, _, rfl, k1⟩
theorem Qng (c : Zw) (l : List (List UInt8)) (h : Qv c) (hl : 0 < l.length) : ∃ x c', Zj2 c l = some ((x, ()), (c', ())) ∧ Qv c' ∧ x ∈ l := by
 unfold Zj2
 obtain ⟨x, c1, e1, k1, b1, b2⟩ := Ki c (l.length : Int) h
 have b2 := b2 (by omega)
 rw [e1, Option.bind_some]
 simp only []
 rw [Zc ⟨b1, b2⟩]
 refine ⟨_, _, rfl, k1, ?_⟩
 have hx : x.toNat < l.length := by omega
 rw [List.getD_eq_getElem?_getD, List.getElem?_eq_getElem hx]
 exact List.getElem_mem hx
theorem Qil : ∀ (N m : Nat) (c : Zw) (s : List UInt8), Qv c → m < N → s.length + m ≤ 1000000 → ∃ t c', Zgz N c s (m : Int) = some ((t, ()), (c', ())) ∧ Qv c' ∧ t.length ≤ s.length + m
 | 0, _, _, _, _, h, _ => by omega
 | N + 1, 0, c, s, hc, _, _ => by
  unfold Zgz
  rw [Zh (by decide)]
  exact ⟨s, c, rfl, hc, by omega⟩
 | N + 1, m + 1, c, s, hc, hN, hl => by
  unfold Zgz
  rw [Zj (Zk (by omega))]
  obtain ⟨x, c1, e1, k1, hx⟩ := Qng c [([97] : List UInt8), ([98] : List UInt8), ([99] : List UInt8), ([100] : List UInt8)] hc (by simp)
  have hx1 : x.length = 1 := by simp only [List.mem_cons, List.not_mem_nil, or_false] at hx; rcases hx with rfl | rfl | rfl | rfl <;> rfl
  rw [e1, Option.bind_some, Zc (by unfold Z5; simp only; omega)]
  have e : IntKind.i64.wrap (((m + 1 : Nat) : Int) - 1) = (m : Int) := by rw [Zx (by omega) (by omega)]; omega
  rw [e]
  obtain ⟨t, c2, e2, k2, h2⟩ := Qil N m c1 (s ++ x) k1 (by omega) (by simp; omega)
  exact ⟨t, c2, e2, k2, by simp at h2; omega⟩
theorem Qik (c : Zw) (most : Nat) (h : Qv c) (hm : most ≤ 1000) : ∃ t c', Zex c (most : Int) = some ((t, ()), (c', ())) ∧ Qv c' ∧ t.length ≤ most := by
 unfold Zex
 obtain ⟨x, c1, e1, k1, b1, b2⟩ := Ki c (IntKind.i64.wrap ((most : Int) + 1)) h
 rw [e1, Option.bind_some]
 rw [Zx (by omega) (by omega)] at b2
 have b2 := b2 (by omega)
 obtain ⟨m, rfl⟩ := Int.eq_ofNat_of_zero_le b1
 obtain ⟨t, c2, e2, k2, h2⟩ := Qil (Zfn c1 [] (m : Int)) m c1 [] k1 (by unfold Zfn; omega) (by simp; omega)
 exact ⟨t, c2, e2, k2, by simp at h2; omega⟩
theorem Qzy {n : Int} (h : n = 4 ∨ n = 8 ∨ n = 16) : Zaf n = some (true, ()) := by
 rcases h with rfl | rfl | rfl <;> rfl
theorem Qn3 {n : Int} (h : n = 4 ∨ n = 8 ∨ n = 16) : ∃ s, Zc2 n = some (s, true, ()) ∧ Jl 0 s := by
 unfold Zc2 Zq1
 rw [Qzy h]
 simp only [Option.bind_some, Bool.not_true, cond_false]
 rw [Zc (by unfold Qp; omega)]
 exact ⟨_, rfl, { cells := (by simp; omega), e0 := Int.le_refl _, eK := Int.le_refl _, pend := Zil _, flight := Zil _, acked := Zil _ }⟩
theorem Qx5 {K : Int} {s : Zm} (h : Jl K s) (hK : K ≤ 1000000) (c : Zw) (hc : Qv c) : ∃ p c', Zpv c s = some ((p, ()), (c', ())) ∧ Qv c' := by
 have hcl := h.cells
 unfold Zpv
 simp only [Wh]
 by_cases h0 : s.2.2.2.1.length = 0
 ·rw [Zj (by simp [h0])]
  exact ⟨_, c, rfl, hc⟩
 ·rw [Zh (by simp only [beq_eq_false_iff_ne]; omega)]
  obtain ⟨x, c1, e1, k1, b1, b2⟩ := Ki c (s.2.2.2.1.length : Int) hc
  have b2 := b2 (by omega)
  rw [e1, Option.bind_some, Zc ⟨b1, b2⟩]
  simp only
  unfold Zr6
  generalize s.2.2.2.1.getD x.toNat Zu = r
  obtain ⟨t, ok, k2, -, -⟩ := Qr6 s.2.1 r.1 (IntKind.i64.wrap (r.2.1 - r.1)) (by omega)
  rw [k2, Option.bind_some]
  simp only
  generalize ((s.2.2.2.2.2.2.1 == (2 : Int)) && (r.2.1 == s.2.2.2.2.2.1)) = q
  cases q
  ·exact ⟨_, c1, rfl, k1⟩
  ·obtain ⟨b, c2, e2, k3⟩ := Zt1 c1 2 k1
   rw [cond_true, e2, Option.bind_some]
   exact ⟨_, c2, rfl, k3⟩
theorem Q1g {K : Int} {s : Zm} (h : Jl K s) (hK : K + 5 ≤ 1000000) (c : Zw) (hc : Qv c) : ∃ y c', Ztc c s = some ((y, ()), (c', ())) ∧ Qv c' ∧ Jl (K + 5) y := by
 have hm : ∀ {y}, Jl K y → Jl (K + 5) y := fun h => h.mono (by omega)
 unfold Ztc
 obtain ⟨x, c1, e1, k1, b1, b2⟩ := Ki c 10 hc
 rw [e1, Option.bind_some]
 simp only
 have j3 : ∀ c t x5 p6 is7, Qv c → Jl K x5 → ∃ y c', Yd c s t x5 p6 is7 = some ((y, ()), (c', ())) ∧ Qv c' ∧ Jl (K + 5) y := by
  intro c t x5 p6 is7 hc hx
  unfold Yd
  cases is7
  ·exact ⟨_, c, rfl, hc, hm hx⟩
  ·obtain ⟨y, ok, k2, k3⟩ := Qoh h p6 (by omega)
   rw [cond_true, k2, Option.bind_some]
   exact ⟨_, c, rfl, hc, hm k3⟩
 have j2 : ∀ c t x5 k q, Qv c → Jl K x5 → ∃ y c', Zg4 c s t x5 k q = some ((y, ()), (c', ())) ∧ Qv c' ∧ Jl (K + 5) y := by
  intro c t x5 k q hc hx
  unfold Zg4
  simp only [Wh, Vk]
  cases q
  ·rw [cond_false]
   cases k == (6 : Int)
   ·rw [cond_false]
    cases k == (7 : Int)
    ·rw [cond_false]
     cases k == (8 : Int)
     ·rw [cond_false]
      cases k == (9 : Int)
      ·exact ⟨_, c, rfl, hc, hm hx⟩
      ·obtain ⟨b, c2, e2, k2⟩ := Zt1 c 4 hc
       rw [cond_true, e2, Option.bind_some]
       cases b
       ·exact ⟨_, c2, rfl, k2, hm hx⟩
       ·obtain ⟨z, c3, e3, k3, -, -⟩ := Ki c2 4 k2
        obtain ⟨y, ok, k4, k5⟩ := Zzv h z (by omega)
        simp only [cond_true, e3, Option.bind_some, k4]
        exact ⟨_, c3, rfl, k3, hm k5⟩
     ·obtain ⟨b, c2, e2, k2⟩ := Zt1 c 2 hc
      rw [cond_true, e2, Option.bind_some]
      cases b
      ·exact ⟨_, c2, rfl, k2, hm hx⟩
      ·obtain ⟨y, ok, k4, k5⟩ := Qee h (by omega)
       simp only [cond_true, k4, Option.bind_some]
       exact ⟨_, c2, rfl, k2, hm k5⟩
    ·obtain ⟨p, c2, e2, k2⟩ := Qx5 h (by omega) c hc
     obtain ⟨y, k4, k5⟩ := Qny h p (by omega)
     simp only [cond_true, e2, k4, Option.bind_some]
     exact ⟨_, c2, rfl, k2, hm k5⟩
   ·obtain ⟨p, c2, e2, k2⟩ := Qx5 h (by omega) c hc
    obtain ⟨y, k4, k5⟩ := Qqk h p (by omega)
    simp only [cond_true, e2, k4, Option.bind_some]
    exact ⟨_, c2, rfl, k2, hm k5⟩
  ·obtain ⟨z, c2, e2, k2, -, -⟩ := Ki c 4 hc
   rw [cond_true, e2, Option.bind_some]
   obtain ⟨p, ok, k4, -⟩ := Qn4 h (IntKind.i64.wrap ((1 : Int) + z)) 40 (by omega)
   simp only [k4, Option.bind_some]
   exact j3 _ _ _ _ _ k2 hx
 have j1 : ∀ c t x5 k q, Qv c → Jl K x5 → ∃ y c', Zg3 c s t x5 k q = some ((y, ()), (c', ())) ∧ Qv c' ∧ Jl (K + 5) y := by
  intro c t x5 k q hc hx
  unfold Zg3
  simp only [Wh, Vk]
  cases q
  ·rw [cond_false]
   cases k == (3 : Int)
   ·rw [cond_false]
    cases k == (4 : Int)
    ·rw [cond_false]; exact j2 _ _ _ _ _ hc hx
    ·rw [cond_true]; exact j2 _ _ _ _ _ hc hx
   ·rw [cond_true]; exact j2 _ _ _ _ _ hc hx
  ·obtain ⟨t, c2, e2, k2, h2⟩ := Qik c 5 hc (by omega)
   obtain ⟨y, n, k4, k5⟩ := Qe3 h t (by omega)
   rw [show ((5 : Nat) : Int) = 5 from rfl] at e2
   simp only [cond_true, e2, k4, Option.bind_some]
   exact ⟨_, c2, rfl, k2, k5.mono (by omega)⟩
 cases x == (0 : Int)
 ·rw [cond_false]
  cases x == (1 : Int)
  ·rw [cond_false]; exact j1 _ _ _ _ _ k1 h
  ·rw [cond_true]; exact j1 _ _ _ _ _ k1 h
 ·rw [cond_true]; exact j1 _ _ _ _ _ k1 h
theorem Qkd (t : Zm) : ∀ (N m : Nat) (c : Zw) (s : Zm) (K : Int), Qv c → m < N → Jl K s → K + 5 * m ≤ 1000000 → 0 ≤ K → ∃ y c', Zcf N c t s (m : Int) = some ((y, ()), (c', ())) ∧ Qv c' ∧ Jl (K + 5 * m) y
 | 0, _, _, _, _, _, h, _, _, _ => by omega
 | N + 1, 0, c, s, K, hc, _, hs, _, _ => by
  unfold Zcf
  rw [Zh (by decide)]
  exact ⟨s, c, rfl, hc, hs.mono (by omega)⟩
 | N + 1, m + 1, c, s, K, hc, hN, hs, hK, h0 => by
  unfold Zcf
  rw [Zj (Zk (by omega))]
  obtain ⟨y, c1, e1, k1, h1⟩ := Q1g hs (by omega) c hc
  rw [e1, Option.bind_some]
  have e : IntKind.i64.wrap (((m + 1 : Nat) : Int) - 1) = (m : Int) := by rw [Zx (by omega) (by omega)]; omega
  rw [e]
  obtain ⟨z, c2, e2, k2, h2⟩ := Qkd t N m c1 y (K + 5) k1 (by omega) h1 (by omega) (by omega)
  exact ⟨z, c2, e2, k2, h2.mono (by omega)⟩
theorem Qx4 (c : Zw) (hc : Qv c) : ∃ y c', Zpb c = some ((y, ()), (c', ())) ∧ Qv c' ∧ Jl 100 y := by
 unfold Zpb
 obtain ⟨n, c1, e1, k1, hn⟩ := Z66 c [(4 : Int), (8 : Int), (16 : Int)] hc (by simp)
 obtain ⟨s, e2, h2⟩ := Qn3 (n := n) (by simpa using hn)
 obtain ⟨m, c2, e3, k2, b1, b2⟩ := Ki c1 14 k1
 have b2 := b2 (by omega)
 obtain ⟨m, rfl⟩ := Int.eq_ofNat_of_zero_le b1
 simp only [e1, e2, e3, Option.bind_some]
 obtain ⟨y, c3, e4, k4, h4⟩ := Qkd Jk (Zds c2 Jk s (m : Int)) m c2 s 0 k2 (by unfold Zds; omega) h2 (by omega) (by omega)
 exact ⟨y, c3, e4, k4, h4.mono (by omega)⟩
def inR (n : Int) (l : List Ze) : Prop := ∃ x ∈ l, x.1 ≤ n ∧ n < x.2.1
theorem Qkh : ∀ {l : List Ze} {r : Ze} {n : Int}, inR n (Zmy l r) → inR n l ∨ (r.1 ≤ n ∧ n < r.2.1)
 | [], r, n, ⟨x, hx, h⟩ => by simp [Zmy] at hx; subst hx; exact .inr h
 | y :: l, r, n, ⟨x, hx, h⟩ => by
  have up : inR n l → inR n (y :: l) := fun ⟨z, hz, hh⟩ => ⟨z, by simp [hz], hh⟩
  unfold Zmy at hx
  split at hx
  ·rcases List.mem_cons.1 hx with rfl | hx
   ·exact .inl ⟨x, by simp, h⟩
   ·exact (Qkh ⟨x, hx, h⟩).imp up id
  ·split at hx
   ·rcases List.mem_cons.1 hx with rfl | hx
    ·exact .inr h
    ·exact .inl ⟨x, hx, h⟩
   ·rcases Qkh ⟨x, hx, h⟩ with h' | h'
    ·exact .inl (up h')
    ·simp only at h'
     by_cases hy : y.1 ≤ n ∧ n < y.2.1
     ·exact .inl ⟨y, by simp, hy⟩
     ·exact .inr (by omega)
theorem Qig : ∀ {l : List Ze} {r : Ze}, (∀ x ∈ l, x.1 ≤ x.2.1) → r.1 ≤ r.2.1 → Jy (Zmy l r) ≤ Jy l + (r.2.1 - r.1)
 | [], r, _, _ => by simp [Zmy, Jy]
 | y :: l, r, hl, hr => by
  have hl' : ∀ x ∈ l, x.1 ≤ x.2.1 := fun x hx => hl x (by simp [hx])
  have hy := hl y (by simp)
  unfold Zmy
  split
  ·have := Qig (l := l) (r := r) hl' hr; simp only [Jy]; omega
  ·split
   ·simp only [Jy]; omega
   ·have := Qig (l := l) (r := (min r.1 y.1, max r.2.1 y.2.1, ())) hl' (by simp only; omega); simp only [Jy] at this ⊢; omega
def ckB : Int → List Q2 → Bool
 | _, [] => true
 | e, c :: l => !(((decide (c.1 ≤ e)) || (c.2.1 == ([] : List UInt8))) || (decide (c.1 > (IntKind.i64.wrap ((4611686018427387903 : Int) - (c.2.1.length : Int)))))) && ckB (IntKind.i64.wrap (c.1 + (c.2.1.length : Int))) l
def Zsx (n : Int) : Bool := decide (n ≥ 0) && decide (n ≤ 4611686018427387903)
theorem Zdk (n : Int) : Qe n = some (Zsx n, ()) := rfl
theorem Zuq {n : Int} : Zsx n = true ↔ 0 ≤ n ∧ n ≤ 4611686018427387903 := by unfold Zsx; simp
def Zsb (b : Z2) : Bool := ckB (IntKind.i64.wrap (b.1 - 1)) b.2.1 && Zsx b.1
theorem Z3f (b : Z2) : ∀ (N : Nat) (pre rest : List Q2) (e : Int), b.2.1 = pre ++ rest → b.2.1.length ≤ 1048576 → rest.length < N → Zcb N b e (pre.length : Int) = some (ckB e rest && Zsx b.1, ())
 | 0, _, _, _, _, _, h => by omega
 | N + 1, pre, [], e, hb, hl, hN => by
  unfold Zcb
  rw [Zh (by rw [hb]; simp), Zdk, Option.bind_some]; simp [ckB]
 | N + 1, pre, c :: rest, e, hb, hl, hN => by
  have hlen : b.2.1.length = pre.length + rest.length + 1 := by rw [hb]; simp; omega
  simp only [List.length_cons] at hN
  have hg : b.2.1.getD (pre.length : Int).toNat Qm = c := by rw [hb]; exact J7 pre c rest Qm
  unfold Zcb
  rw [Zj (Zk (by omega)), Zc (by omega)]
  simp only [hg]
  have ih := Z3f b N (pre ++ [c]) rest (IntKind.i64.wrap (c.1 + (c.2.1.length : Int))) (by rw [hb]; simp) hl (by omega)
  rw [show ((pre ++ [c]).length : Int) = ((pre.length + 1 : Nat) : Int) by simp] at ih
  rw [Zs (m := pre.length + 1) (by omega) (by omega), ih]
  simp only [ckB]
  cases (((decide (c.1 ≤ e)) || (c.2.1 == ([] : List UInt8))) || (decide (c.1 > (IntKind.i64.wrap ((4611686018427387903 : Int) - (c.2.1.length : Int)))))) <;> rfl
theorem Zk4 (b : Z2) (hl : b.2.1.length ≤ 1048576) : Zb4 b = some (Zsb b, ()) := by
 unfold Zb4
 exact Z3f b _ [] b.2.1 _ rfl hl (by unfold Zis; omega)
def rgC (c : Q2) : Ze := (c.1, c.1 + (c.2.1.length : Int), ())
def Zkn : List Q2 → Nat
 | [] => 0
 | c :: l => c.2.1.length + Zkn l
theorem Qaf : ∀ {l : List Q2} {c : Q2}, c ∈ l → c.2.1.length ≤ Zkn l
 | x :: l, c, h => by
  rcases List.mem_cons.1 h with rfl | h
  ·simp [Zkn]
  ·have := Qaf h; simp only [Zkn]; omega
structure Zi8 (K : Nat) (b : Z2) : Prop where
 len : b.2.1.length ≤ K
 tot : Zkn b.2.1 ≤ K
theorem Zi8.mono {K K' : Nat} {b : Z2} (h : Zi8 K b) (hK : K ≤ K') : Zi8 K' b := ⟨Nat.le_trans h.len hK, Nat.le_trans h.tot hK⟩
theorem Qxe : ∀ {l : List Q2} {e : Int}, Zkn l ≤ 1000000 → -1 ≤ e → ckB e l = true → rsB e (l.map rgC) = true
 | [], _, _, _, _ => rfl
 | c :: l, e, ht, he, h => by
  simp only [Zkn] at ht
  simp only [ckB, Bool.and_eq_true, Bool.not_eq_true', Bool.or_eq_false_iff, decide_eq_false_iff_not, beq_eq_false_iff_ne] at h
  obtain ⟨⟨⟨h1, h2⟩, h3⟩, h4⟩ := h
  rw [Zx (by omega) (by omega)] at h3
  rw [Zx (by omega) (by omega)] at h4
  have hp : 0 < c.2.1.length := List.length_pos_iff.2 h2
  rw [List.map_cons, Ju]
  exact ⟨Qx.2 (by simp only [rgC]; omega), by simp only [rgC]; omega, Qxe (by omega) (by simp only [rgC]; omega) h4⟩
theorem Qur : ∀ (l : List Q2), Jy (l.map rgC) = (Zkn l : Int)
 | [] => rfl
 | c :: l => by
  have := Qur l
  simp only [List.map_cons, Jy, Zkn, rgC, this]; omega
theorem Zyg (b : Z2) (ht : Zkn b.2.1 ≤ 1000000) (hb2 : ∀ c ∈ b.2.1, -1 ≤ c.1 ∧ c.1 ≤ 4611686018427387903) : ∀ (N : Nat) (pre rest : List Q2) (out : List Ze), b.2.1 = pre ++ rest → b.2.1.length ≤ 1048576 → rest.length < N → out.length ≤ pre.length → Zsb b = true →
  Yp N b out (pre.length : Int) = some (out ++ rest.map rgC, ())
 | 0, _, _, _, _, _, h, _, _ => by omega
 | N + 1, pre, [], out, hb, hl, hN, ho, hB => by
  unfold Yp
  have : decide ((pre.length : Int) < (b.2.1.length : Int)) = false := by rw [hb]; simp
  rw [this]
  simp only [cond_false, Option.bind_some, Bool.false_and, List.map_nil, List.append_nil]
 | N + 1, pre, c :: rest, out, hb, hl, hN, ho, hB => by
  have hlen : b.2.1.length = pre.length + rest.length + 1 := by rw [hb]; simp; omega
  simp only [List.length_cons] at hN
  have hg : b.2.1.getD (pre.length : Int).toNat Qm = c := by rw [hb]; exact J7 pre c rest Qm
  have g : ∀ {ρ : Type} (m : Option ρ), Zb (0 ≤ (pre.length : Int) ∧ (pre.length : Int) < (b.2.1.length : Int)) m = m := fun m => Zc (by omega)
  have hc := hb2 c (by rw [hb]; simp)
  have hcl := Qaf (l := b.2.1) (c := c) (by rw [hb]; simp)
  unfold Yp
  have hd : decide ((pre.length : Int) < (b.2.1.length : Int)) = true := Zk (by omega)
  rw [hd, Zk4 b hl, hB]
  simp only [cond_true, Option.bind_some, Bool.and_self, g, hg]
  rw [Zc (by unfold Qp; simp; omega), Zs (m := pre.length + 1) (by omega) (by omega), Zx (by omega) (by omega)]
  have ih := Zyg b ht hb2 N (pre ++ [c]) rest (out ++ [rgC c]) (by rw [hb]; simp) hl (by omega) (by simp; omega) hB
  rw [show ((pre ++ [c]).length : Int) = ((pre.length + 1 : Nat) : Int) by simp] at ih
  refine Eq.trans ih ?_
  simp
theorem Zrh {b : Z2} (ht : Zkn b.2.1 ≤ 1000000) (h : Zsb b = true) : 0 ≤ b.1 ∧ b.1 ≤ 4611686018427387903 ∧ rsB (b.1 - 1) (b.2.1.map rgC) = true := by
 unfold Zsb at h
 simp only [Bool.and_eq_true] at h
 have hq := Zuq.1 h.2
 have h1 := h.1
 rw [Zx (by omega) (by omega)] at h1
 exact ⟨hq.1, hq.2, Qxe ht (by omega) h1⟩
theorem Z6z {K : Nat} {b : Z2} (hi : Zi8 K b) (hK : K ≤ 1000000) : Zeb b = some (if Zsb b = true then b.2.1.map rgC else [], ()) := by
 have hl := hi.len
 have ht := hi.tot
 unfold Zeb
 cases hB : Zsb b
 ·show Yp (_ + 1) b [] 0 = _
  unfold Yp
  rw [Zk4 b (by omega), hB]
  cases decide ((0 : Int) < (b.2.1.length : Int)) <;> rfl
 ·obtain ⟨q1, q2, q3⟩ := Zrh (by omega) hB
  have := Zyg b (by omega) (fun c hc => by
   have h1 := Zoz q3 (rgC c) (List.mem_map_of_mem hc)
   have h2 := Qx.1 h1.2
   simp only [rgC] at h1 h2
   omega) (Wc b [] 0) [] b.2.1 [] rfl (by omega) (by unfold Wc; omega) (by simp) hB
  refine Eq.trans this ?_
  simp
theorem Qec (b : Z2) (at_ : Int) (h0 : 0 ≤ at_) (h1 : at_ ≤ 4611686018427387903) (ht : Zkn b.2.1 ≤ 1000000) (hq : ∀ c ∈ b.2.1, 0 ≤ c.1 ∧ c.1 ≤ 4611686018427387903) : ∀ (N : Nat) (pre rest : List Q2), b.2.1 = pre ++ rest → b.2.1.length ≤ 1048576 → rest.length < N →
  ∃ v, Zf3 N at_ b (pre.length : Int) = some (v, ()) ∧ (v < 0 → ¬ inR at_ (rest.map rgC)) ∧ v ≤ 255
 | 0, _, _, _, _, h => by omega
 | N + 1, pre, [], hb, hl, hN => by
  unfold Zf3
  rw [Zh (by rw [hb]; simp)]
  exact ⟨-1, rfl, fun _ ⟨x, hx, _⟩ => by simp at hx, by omega⟩
 | N + 1, pre, c :: rest, hb, hl, hN => by
  have hlen : b.2.1.length = pre.length + rest.length + 1 := by rw [hb]; simp; omega
  simp only [List.length_cons] at hN
  have hg : b.2.1.getD (pre.length : Int).toNat Qm = c := by rw [hb]; exact J7 pre c rest Qm
  have g : ∀ {ρ : Type} (m : Option ρ), Zb (0 ≤ (pre.length : Int) ∧ (pre.length : Int) < (b.2.1.length : Int)) m = m := fun m => Zc (by omega)
  have hc := hq c (by rw [hb]; simp)
  have hcl := Qaf (l := b.2.1) (c := c) (by rw [hb]; simp)
  unfold Zf3
  rw [Zj (Zk (by omega))]
  simp only [g, hg]
  rw [Zc (fun _ => by omega), Zc (fun _ => by omega), Zx (by omega) (by omega), Zk (by omega), Zk (by omega)]
  simp only [Bool.true_and]
  obtain ⟨v, k1, k2, k3⟩ := Qec b at_ h0 h1 ht hq N (pre ++ [c]) rest (by rw [hb]; simp) hl (by omega)
  rw [show ((pre ++ [c]).length : Int) = ((pre.length + 1 : Nat) : Int) by simp] at k1
  by_cases hin : at_ - c.1 ≥ 0 ∧ at_ - c.1 < (c.2.1.length : Int)
  ·rw [Zk hin.1, Zk hin.2, Bool.and_self, cond_true, Zc ⟨hin.1, hin.2⟩]
   have hb8 : (c.2.1.getD (at_ - c.1).toNat 0).toNat < 256 := (c.2.1.getD (at_ - c.1).toNat 0).toNat_lt
   rw [Zx (by omega) (by omega)]
   exact ⟨_, rfl, fun h => by omega, by omega⟩
  ·rw [Zh (by rw [Bool.and_eq_false_iff, decide_eq_false_iff_not, decide_eq_false_iff_not]; omega), Zs (m := pre.length + 1) (by omega) (by omega)]
   refine ⟨v, k1, fun hv ⟨x, hx, hh⟩ => ?_, k3⟩
   rw [List.map_cons] at hx
   rcases List.mem_cons.1 hx with rfl | hx
   ·simp only [rgC] at hh; omega
   ·exact k2 hv ⟨x, hx, hh⟩
theorem Q0y (b : Z2) (at_ : Int) (h0 : 0 ≤ at_) (h1 : at_ ≤ 4611686018427387903) (ht : Zkn b.2.1 ≤ 1000000) (hl : b.2.1.length ≤ 1000000) (hq : ∀ c ∈ b.2.1, 0 ≤ c.1 ∧ c.1 ≤ 4611686018427387903) :
  ∃ v, Zs2 b at_ = some (v, ()) ∧ (v < 0 → ¬ inR at_ (b.2.1.map rgC)) ∧ v ≤ 255 := by
 unfold Zs2
 exact Qec b at_ h0 h1 ht hq _ [] b.2.1 rfl (by omega) (by unfold Zkx; omega)
theorem Qxv {b : Z2} (ht : Zkn b.2.1 ≤ 1000000) (hbl : b.2.1.length ≤ 1000000) (hq : ∀ c ∈ b.2.1, 0 ≤ c.1 ∧ c.1 ≤ 4611686018427387903) (K1 : (Int × List UInt8 × Z2 × Z2 × Z2 × List Ze × Int × Unit) → Option (Z2 × Unit)) (o : Int) (ho : 0 ≤ o ∧ o ≤ 4611686018427387903) (d : List UInt8) (t x : Z2) (l : List Ze) (i : Nat) (hi : i < l.length) (r : Ze) (hr : l.getD i Zu = r)
  (h0 : 0 ≤ r.1) (hH : r.2.1 ≤ 4611686018427387903) (hx : x.2.1.length ≤ 1000000)
  (hin : ∀ n, r.1 ≤ n → n < r.2.1 → inR n (b.2.1.map rgC) ∨ (o ≤ n ∧ n < o + d.length)) :
  ∀ (N m : Nat) (s : List UInt8), (m : Int) ≤ r.2.1 - r.1 → m < N → (s.length : Int) + m ≤ r.2.1 - r.1 → (r.2.1 - r.1) ≤ 2000000 →
   ∃ t', Kr K1 N o d b t x l (i : Int) s (r.2.1 - m) = K1 (o, d, b, t, (x.1, (x.2.1 ++ [(r.1, (t', ()))], x.2.2)), l, IntKind.i64.wrap ((i : Int) + 1), ()) ∧ (t'.length : Int) ≤ r.2.1 - r.1
 | 0, _, _, _, h, _, _ => by omega
 | N + 1, 0, s, hm, hN, hs, hb => by
  unfold Kr
  rw [Zc (by omega), show (i : Int).toNat = i from rfl, hr, Zh (Zl (by omega)), Zc (by omega)]
  simp only
  rw [Zc (by unfold Qp; simp; omega)]
  exact ⟨s, rfl, by omega⟩
 | N + 1, m + 1, s, hm, hN, hs, hb => by
  unfold Kr
  rw [Zc (by omega), show (i : Int).toNat = i from rfl, hr, Zj (Zk (by omega))]
  obtain ⟨v, k1, k2, k3⟩ := Q0y b (r.2.1 - ((m + 1 : Nat) : Int)) (by omega) (by omega) ht hbl hq
  rw [k1, Option.bind_some]
  have next : ∀ v, ∃ t', Zcw K1 (fun v => Kr K1 N v.1 v.2.1 v.2.2.1 v.2.2.2.1 v.2.2.2.2.1 v.2.2.2.2.2.1 v.2.2.2.2.2.2.1 v.2.2.2.2.2.2.2.1 v.2.2.2.2.2.2.2.2.1) o d b t x l (i : Int) s (r.2.1 - ((m + 1 : Nat) : Int)) v = K1 (o, d, b, t, (x.1, (x.2.1 ++ [(r.1, (t', ()))], x.2.2)), l, IntKind.i64.wrap ((i : Int) + 1), ()) ∧ (t'.length : Int) ≤ r.2.1 - r.1 := by
   intro v
   unfold Zcw
   obtain ⟨y, e1, e2⟩ := Qtn v
   rw [e1, Option.bind_some, Zc (by unfold Z5; simp only; omega), Zx (by omega) (by omega)]
   have e : r.2.1 - ((m + 1 : Nat) : Int) + 1 = r.2.1 - (m : Int) := by omega
   simp only [e]
   exact Qxv ht hbl hq K1 o ho d t x l i hi r hr h0 hH hx hin N m (s ++ y) (by omega) (by omega) (by simp; omega) hb
  by_cases hv : v < 0
  ·have := (hin (r.2.1 - ((m + 1 : Nat) : Int)) (by omega) (by omega)).resolve_left (k2 hv)
   rw [Zj (Zk hv), Zc (by rw [Zx (by omega) (by omega)]; omega)]
   exact next _
  ·rw [Zh (Zl hv)]
   exact next _
theorem Qsv : ∀ (a b : List Q2), Zkn (a ++ b) = Zkn a + Zkn b
 | [], b => by simp [Zkn]
 | c :: a, b => by simp only [List.cons_append, Zkn, Qsv a b]; omega
theorem Qvu : ∀ {l : List Ze} {i : Nat}, i < l.length → Jy (l.drop i) = ((l.getD i Zu).2.1 - (l.getD i Zu).1) + Jy (l.drop (i + 1)) := by
 intro l i h
 rw [J6 (d := Zu) h]; rfl
theorem Qxu {b : Z2} (ht : Zkn b.2.1 ≤ 1000000) (hbl : b.2.1.length ≤ 1000000) (hq : ∀ c ∈ b.2.1, 0 ≤ c.1 ∧ c.1 ≤ 4611686018427387903) (o : Int) (ho : 0 ≤ o ∧ o ≤ 4611686018427387903) (d : List UInt8) (t : Z2) (l : List Ze)
  (hl : l.length ≤ 1000000) (hf : ∀ r ∈ l, Zjm r = true) (hc : Jy l ≤ 2000000)
  (hin : ∀ n, inR n l → inR n (b.2.1.map rgC) ∨ (o ≤ n ∧ n < o + d.length)) (M : Int) (hM : M ≤ 4000000) :
  ∀ (N i : Nat) (x : Z2), l.length - i < N → i ≤ l.length → x.2.1.length ≤ i → (Zkn x.2.1 : Int) + Jy (l.drop i) ≤ M →
   ∃ y, W4 N o d b t x l (i : Int) = some (y, ()) ∧ y.1 = x.1 ∧ y.2.1.length ≤ l.length ∧ (Zkn y.2.1 : Int) ≤ M
 | 0, _, _, h, _, _, _ => by omega
 | N + 1, i, x, hN, hi, hx, hm => by
  unfold W4
  by_cases h : i < l.length
  ·have hmem := Xc (d := Zu) h
   have hfi := Qx.1 (hf _ hmem)
   have hd := Qvu h
   have hnn : ∀ {l : List Ze}, (∀ r ∈ l, Zjm r = true) → 0 ≤ Jy l := by
    intro l
    induction l with
    | nil => intro _; simp [Jy]
    | cons r l ih =>
     intro hh
     have := Qx.1 (hh r (by simp))
     have := ih fun r hr => hh r (by simp [hr])
     simp only [Jy]; omega
   have h1 := hnn (l := l.drop (i + 1)) fun r hr => hf r (List.mem_of_mem_drop hr)
   have hsub : (l.getD i Zu).2.1 - (l.getD i Zu).1 ≤ 2000000 := by
    have htk : ∀ (l : List Ze), (∀ r ∈ l, Zjm r = true) → ∀ r ∈ l, r.2.1 - r.1 ≤ Jy l := by
     intro l
     induction l with
     | nil => intro _ r hr; cases hr
     | cons q l ih =>
      intro hh r hr
      have hq := Qx.1 (hh q (by simp))
      have hl := hnn (l := l) fun r hr => hh r (by simp [hr])
      simp only [Jy]
      rcases List.mem_cons.1 hr with rfl | hr
      ·omega
      ·have := ih (fun r hr => hh r (by simp [hr])) r hr; omega
    have := htk l hf _ hmem; omega
   rw [Zj (Zk (by omega)), Zc (by omega), show (i : Int).toNat = i from rfl]
   generalize hr : l.getD i Zu = r at *
   obtain ⟨m, hmm⟩ := Int.eq_ofNat_of_zero_le (a := r.2.1 - r.1) (by omega)
   obtain ⟨t', k1, k2⟩ := Qxv ht hbl hq (fun v => W4 N v.1 v.2.1 v.2.2.1 v.2.2.2.1 v.2.2.2.2.1 v.2.2.2.2.2.1 v.2.2.2.2.2.2.1) o ho d t x l i h r hr hfi.1 hfi.2.2 (by omega)
    (fun n hn1 hn2 => hin n ⟨r, hmem, hn1, hn2⟩) (Za8 o d b t x l (i : Int) [] r.1) m [] (by omega) (by unfold Za8; rw [show (i : Int).toNat = i from rfl, hr]; omega) (by simp; omega) hsub
   rw [show r.2.1 - (m : Int) = r.1 by omega] at k1
   rw [k1, Zs h (by omega)]
   obtain ⟨y, q1, q2, q3, q4⟩ := Qxu ht hbl hq o ho d t l hl hf hc hin M hM N (i + 1) (x.1, (x.2.1 ++ [(r.1, (t', ()))], x.2.2)) (by omega) (by omega) (by simp; omega) (by
    simp only [Qsv, Zkn]; omega)
   exact ⟨y, q1, q2, q3, q4⟩
  ·rw [Zh (Zl (by omega))]
   have : i = l.length := by omega
   subst this
   rw [List.drop_length] at hm
   exact ⟨x, rfl, rfl, hx, by simp [Jy] at hm; omega⟩
theorem Qkc {K : Nat} {b : Z2} (h : Zi8 K b) (hK : K ≤ 1000000) : Zha b = some (b, ()) := by
 have := h.len
 unfold Zha
 rw [Zc (by unfold Qp; simp; omega)]
 simp
theorem Qtl {K : Nat} {b : Z2} (h : Zi8 K b) (o : Int) (d : List UInt8) (hK : K + d.length + 1 ≤ 1000000) : ∃ y, Zlv b o d = some (y, ()) ∧ Zi8 (K + d.length + 1) y := by
 have hl := h.len
 have ht := h.tot
 unfold Zlv
 rw [Zk4 b (by omega), Option.bind_some]
 generalize hc : ((((!Zsb b) || (d == ([] : List UInt8))) || (decide (o < (0 : Int)))) || (decide (o > (IntKind.i64.wrap ((4611686018427387903 : Int) - (d.length : Int)))))) = c
 cases c
 ·simp only [Bool.or_eq_false_iff, Bool.not_eq_false', decide_eq_false_iff_not] at hc
  obtain ⟨⟨⟨c1, c2⟩, c3⟩, c4⟩ := hc
  rw [Zx (by omega) (by omega)] at c4
  obtain ⟨q1, q2, q3⟩ := Zrh (by omega) c1
  simp only [cond_false]
  rw [Zx (by omega) (by omega)]
  by_cases hm : max o b.1 ≥ o + (d.length : Int)
  ·rw [Zj (Zk hm), Qkc h (by omega)]
   exact ⟨b, rfl, h.mono (by omega)⟩
  ·rw [Zh (Zl hm), Z6z h (by omega), Option.bind_some, c1]
   simp only [if_true]
   have hml : (b.2.1.map rgC).length ≤ 1048576 := by rw [List.length_map]; omega
   rw [Zm1 _ _ hml, Option.bind_some]
   have hrs : rsB (-1) (b.2.1.map rgC) = true := Qle q3 (by omega)
   have hfr : Zjm (max o b.1, (o + (d.length : Int), ())) = true := Qx.2 (by simp only; omega)
   simp only [hrs, hfr, and_self, if_true]
   have hcl := Qhz (l := b.2.1.map rgC) (r := ((max o b.1, (o + (d.length : Int), ())) : Ze))
   rw [List.length_map] at hcl
   have hcc := Qig (l := b.2.1.map rgC) (r := ((max o b.1, (o + (d.length : Int), ())) : Ze)) (fun x hx => by
    have := Qx.1 (Zoz hrs x hx).2; omega) (by simp only; omega)
   rw [Qur] at hcc
   simp only at hcc
   have hars := Qhi hrs hfr (by simp only; omega)
   have hch : ∀ c ∈ b.2.1, 0 ≤ c.1 ∧ c.1 ≤ 4611686018427387903 := fun c hc => by
    have h1 := Zoz q3 (rgC c) (List.mem_map_of_mem hc)
    have h2 := Qx.1 h1.2
    simp only [rgC] at h1 h2
    omega
   obtain ⟨y, k1, k2, k3, k4⟩ := Qxu (b := b) (by omega) (by omega) hch o (by omega) d Qvn _ (by omega) (fun r hr => (Zoz hars r hr).2) (by omega) (fun n hn => (Qkh hn).imp id fun hh => by first | (simp only at hh; omega) | omega) (K + d.length) (by omega)
    (Za7 o d b Qvn (b.1, ([], ())) (Zmy (b.2.1.map rgC) (max o b.1, (o + (d.length : Int), ()))) 0) 0 (b.1, ([], ())) (by unfold Za7; omega) (by omega) (by simp) (by simp only [Zkn, List.drop_zero]; omega)
   exact ⟨y, k1, ⟨by omega, by omega⟩⟩
 ·rw [cond_true, Qkc h (by omega)]
  exact ⟨b, rfl, h.mono (by omega)⟩
def Zzt (b : Z2) : Int := if Zsb b = true ∧ b.2.1 ≠ [] ∧ (b.2.1.getD 0 Qm).1 = b.1 then ((b.2.1.getD 0 Qm).2.1.length : Int) else 0
theorem Zwd (b : Z2) (hl : b.2.1.length ≤ 1048576) : V7 b = some (Zzt b, ()) := by
 unfold V7 Zzt
 rw [Zk4 b hl, Option.bind_some]
 obtain ⟨b1, l, _⟩ := b
 cases hB : Zsb (b1, l, ())
 ·simp [Zb]
 ·cases l with
  | nil => simp [Zb]
  | cons c l =>
   simp only [Bool.not_true, Bool.false_or]
   have e : (((c :: l).length : Int) == 0) = false := by rw [beq_eq_false_iff_ne, List.length_cons]; omega
   rw [e, Zc (fun _ => by simp only [List.length_cons]; omega)]
   simp only [Bool.false_or, show (0 : Int).toNat = 0 from rfl, List.getD_cons_zero, ne_eq, reduceCtorEq, not_false_eq_true, true_and]
   by_cases h : c.1 = b1
   ·rw [Zh (by simp [h]), Zc (by simp only [List.length_cons]; omega), if_pos h]
   ·rw [Zj (by simp [h]), if_neg h]
theorem Qwk {K : Nat} {b : Z2} (h : Zi8 K b) : 0 ≤ Zzt b ∧ Zzt b ≤ (K : Int) ∧ (Zzt b ≠ 0 → Zsb b = true ∧ ∃ c l, b.2.1 = c :: l ∧ Zzt b = (c.2.1.length : Int)) := by
 unfold Zzt
 split
 ·rename_i hh
  obtain ⟨b1, l, _⟩ := b
  cases l with
  | nil => exact absurd rfl hh.2.1
  | cons c l =>
   have := h.tot
   simp only [Zkn] at this
   simp only [List.getD_cons_zero]
   exact ⟨by omega, by omega, fun _ => ⟨hh.1, c, l, rfl, rfl⟩⟩
 ·exact ⟨by omega, by omega, fun h => absurd rfl h⟩
theorem Qwt {K : Nat} {b : Z2} (h : Zi8 K b) (hK : K ≤ 1000000) (m : Int) : ∃ s y, Znv b m = some (s, y, ()) ∧ Zi8 K y ∧ s.length ≤ K := by
 have hl := h.len
 have ht := h.tot
 obtain ⟨r1, r2, r3⟩ := Qwk h
 unfold Znv
 rw [Zwd b (by omega), Qkc h hK]
 simp only [Option.bind_some]
 generalize hn : min (Zzt b) (max m 0) = n
 by_cases h0 : n = 0
 ·subst h0
  exact ⟨[], b, rfl, h, by simp⟩
 ·rw [Zh (by simp [h0])]
  obtain ⟨hB, c, l, hb, hr⟩ := r3 (by omega)
  obtain ⟨b1, b2, b3⟩ := Zrh (by omega) hB
  rw [Zx (by omega) (by omega)]
  obtain ⟨z, bl, _⟩ := b
  simp only at hb hl ht b1 b2
  subst hb
  simp only [List.length_cons] at hl
  simp only [Zkn] at ht
  simp only [show (0 : Int).toNat = 0 from rfl, List.getD_cons_zero, List.length_cons]
  rw [Zc (by omega)]
  by_cases he : n = (c.2.1.length : Int)
  ·rw [Zj (by simp [he]), Zc (by omega)]
   simp only [show (1 : Int).toNat = 1 from rfl, List.drop_succ_cons, List.drop_zero]
   have hi : Zi8 K ((z + n, ((l.take (((l.length + 1 : Nat) : Int).toNat - 1)), ())) : Z2) := by
    rw [show ((l.length + 1 : Nat) : Int).toNat - 1 = l.length by omega, List.take_length]
    exact ⟨by show l.length ≤ K; omega, by show Zkn l ≤ K; omega⟩
   rw [Qkc hi hK]
   exact ⟨_, _, rfl, hi, by omega⟩
  ·rw [Zh (by simp [he]), Zc (by omega), Zc (by omega), Zc (by omega)]
   refine ⟨_, _, rfl, ⟨?_, ?_⟩, ?_⟩
   ·simp; omega
   ·simp only [List.set_cons_zero, Zkn, List.length_take, List.length_drop]; omega
   ·simp only [List.length_take, List.length_drop]; omega
theorem Q0k {K : Nat} {b : Z2} (h : Zi8 K b) (hK : K ≤ 1000000) : ∃ v, Zol b = some (v, ()) := by
 have hl := h.len
 unfold Zol
 rw [Zk4 b (by omega)]
 by_cases h0 : b.2.1 = []
 ·rw [h0]; exact ⟨_, rfl⟩
 ·have : 0 < b.2.1.length := List.length_pos_iff.2 h0
  have e : ((b.2.1.length : Int) == (0 : Int)) = false := by rw [beq_eq_false_iff_ne]; omega
  rw [e]
  simp only [cond_false, Option.bind_some, Bool.false_or]
  cases Zsb b
  ·exact ⟨_, rfl⟩
  ·simp only [Bool.not_true, cond_false]
   rw [Zx (by omega) (by omega), Zc (by omega)]
   exact ⟨_, rfl⟩
theorem Kh {α : Type} (c : Bool) (a b : α) : (bif c then some a else some b) = some (bif c then a else b) := by cases c <;> rfl
theorem Qov {α β : Type} {P : α → β → Prop} {c : Bool} {m n : α} (h1 : ∃ b, P m b) (h2 : ∃ b, P n b) : ∃ b, P (bif c then m else n) b := by cases c <;> assumption
theorem Zjg {K : Nat} {r : Qb} (h : Zi8 K r.2.1) (hK : K ≤ 1000000) : ∃ b, X9 r = some (b, ()) := by
 have hl := h.len
 obtain ⟨v, k⟩ := Q0k h hK
 have j : ∀ q, ∃ b, Yu r q = some (b, ()) := fun q => by unfold Yu; cases q <;> exact ⟨_, rfl⟩
 unfold X9
 rw [Zk4 _ (by omega), Zwd _ (by omega), k]
 simp only [Option.bind_some, Zdk, Kh]
 repeat' refine Qov (P := fun m b => m = some (b, ())) ?_ ?_
 all_goals first | exact j _ | exact ⟨_, rfl⟩
theorem Zy9 : ∃ r, Zkh = some (r, ()) ∧ Zi8 0 r.2.1 := ⟨_, rfl, ⟨by simp, by simp [Zkn]⟩⟩
theorem Qpq {K : Nat} {r : Qb} (h : Zi8 K r.2.1) (hK : K ≤ 1000000) : Zka r = some (r, ()) := by
 unfold Zka
 rw [Qkc h hK]; rfl
theorem Qu6 (r : Qb) (e : Int) (f : Bool) : ∃ v, Zn2 r e f = some (v, ()) := by
 unfold Zn2
 rw [Kh]
 exact ⟨(bif _ then ((6 : Int), ()) else (0, ())).1, rfl⟩
theorem Qeu {K : Nat} {r : Qb} (h : Zi8 K r.2.1) (o : Int) (d : List UInt8) (f : Bool) (hK : K + d.length + 1 ≤ 1000000) :
  ∃ y v, W9 r o d f = some (y, v, ()) ∧ Zi8 (K + d.length + 1) y.2.1 := by
 have j : ∀ z t x, ∃ y v, Zbp o d r z ((t, (r.2.1, x)) : Qb) = some (y, v, ()) ∧ Zi8 (K + d.length + 1) y.2.1 := by
  intro z t x
  unfold Zbp Zfj
  obtain ⟨b, k1, k2⟩ := Qtl h o d hK
  have hbl : b.2.1.length ≤ 1048576 := by have := k2.len; omega
  simp only [k1, Option.bind_some, Zwd b hbl, Kh]
  generalize ((((t, (r.2.1, x)) : Qb).2.2.1 != (-1 : Int)) && _) = c
  cases c
  ·exact ⟨_, _, rfl, k2⟩
  ·exact ⟨_, _, rfl, k2⟩
 unfold W9
 obtain ⟨q, e2⟩ := Zjg h (by omega)
 rw [Qpq h (by omega), e2]
 simp only [Option.bind_some]
 generalize hc : (((!q) || (decide (o < (0 : Int)))) || (decide (o > (IntKind.i64.wrap ((4611686018427387903 : Int) - (d.length : Int)))))) = c
 cases c
 ·obtain ⟨v, e3⟩ := Qu6 r (IntKind.i64.wrap (o + (d.length : Int))) f
  rw [cond_false, e3, Option.bind_some]
  generalize ((v != (0 : Int)) || (decide (r.1 > (1 : Int)))) = c
  cases c
  ·cases f
   ·exact j _ _ _
   ·exact j _ _ _
  ·exact ⟨_, _, rfl, h.mono (by omega)⟩
 ·exact ⟨_, _, rfl, h.mono (by omega)⟩
theorem Z9p {K : Nat} {r : Qb} (h : Zi8 K r.2.1) (hK : K ≤ 1000000) (c f : Int) :
  ∃ y v, Zeo r c f = some (y, v, ()) ∧ Zi8 K y.2.1 := by
 unfold Zeo
 obtain ⟨q, e2⟩ := Zjg h hK
 obtain ⟨v, e3⟩ := Qu6 r f true
 rw [Qpq h hK, e2, e3]
 simp only [Option.bind_some, Zdk, Kh]
 generalize ((_ || _) || _ : Bool) = x
 cases x
 ·generalize ((_ || _) : Bool) = x
  cases x
  ·exact ⟨_, _, rfl, ⟨by simp, by simp [Zkn]⟩⟩
  ·exact ⟨_, _, rfl, h⟩
 ·exact ⟨_, _, rfl, h⟩
theorem Z9o {K : Nat} {r : Qb} (h : Zi8 K r.2.1) (hK : K ≤ 1000000) (m : Int) :
  ∃ s y, Zem r m = some ((s, y, ()), ()) ∧ Zi8 K y.2.1 ∧ s.length ≤ K := by
 unfold Zem
 obtain ⟨q, e2⟩ := Zjg h hK
 obtain ⟨s, b, e3, k3, k4⟩ := Qwt h hK m
 rw [Qpq h hK, e2, e3]
 simp only [Option.bind_some]
 cases q
 ·exact ⟨_, _, rfl, h, by simp⟩
 ·simp only [Bool.not_true, cond_false]
  cases r.1 == (4 : Int)
  ·rw [cond_false]
   unfold Zen
   generalize ((_ && _) : Bool) = x
   cases x
   ·exact ⟨_, _, rfl, k3, k4⟩
   ·exact ⟨_, _, rfl, k3, k4⟩
  ·exact ⟨_, _, rfl, h, by simp⟩
theorem Qrv (z : Qb) : ∀ (N m K : Nat) (c : Zw) (r : Qb), Qv c → Zi8 K r.2.1 → m < N → K + 5 * m ≤ 1000000 →
  ∃ y c', Xl N c z r (m : Int) = some ((y, ()), (c', ())) ∧ Qv c' ∧ Zi8 (K + 5 * m) y.2.1
 | 0, _, _, _, _, _, _, h, _ => by omega
 | N + 1, 0, K, c, r, hc, hr, _, _ => by
  unfold Xl
  exact ⟨r, c, rfl, hc, hr.mono (by omega)⟩
 | N + 1, m + 1, K, c, r, hc, hr, hN, hK => by
  unfold Xl
  simp only [Wh, Vk]
  rw [Zj (Zk (by omega))]
  obtain ⟨x, c1, e1, k1, b1, b2⟩ := Ki c 10 hc
  obtain ⟨d, c2, e2, k2, h2⟩ := Qik c1 4 k1 (by omega)
  obtain ⟨w, c3, e3, k3, -, -⟩ := Ki c2 8 k2
  rw [show ((4 : Nat) : Int) = 4 from rfl] at e2
  have e : IntKind.i64.wrap (((m + 1 : Nat) : Int) - 1) = (m : Int) := by rw [Zx (by omega) (by omega)]; omega
  simp only [e1, e2, e3, Option.bind_some, e]
  have go : ∀ c r, Qv c → Zi8 (K + 5) r.2.1 → ∃ y c', Xl N c z r (m : Int) = some ((y, ()), (c', ())) ∧ Qv c' ∧ Zi8 (K + 5 * (m + 1)) y.2.1 := fun c r hc hr => by
   obtain ⟨y, c', q1, q2, q3⟩ := Qrv z N m (K + 5) c r hc hr (by omega) (by omega)
   exact ⟨y, c', q1, q2, q3.mono (by omega)⟩
  have dat : ∀ f, ∃ y v, W9 r x d f = some (y, v, ()) ∧ Zi8 (K + 5) y.2.1 := fun f => by
   obtain ⟨y, v, q1, q2⟩ := Qeu hr x d f (by omega)
   exact ⟨y, v, q1, q2.mono (by omega)⟩
  cases w == (0 : Int)
  ·rw [cond_false]
   cases w == (1 : Int)
   ·rw [cond_false]
    cases w == (2 : Int)
    ·obtain ⟨y, v, q1, q2⟩ := dat false
     rw [cond_false, q1, Option.bind_some]
     exact go _ _ k3 q2
    ·obtain ⟨b, c4, e4, k4⟩ := Zt1 c3 3 k3
     rw [cond_true, e4, Option.bind_some]
     cases b
     ·exact go _ _ k4 (hr.mono (by omega))
     ·obtain ⟨u, c5, e5, k5, -, -⟩ := Ki c4 4 k4
      obtain ⟨y, v, q1, q2⟩ := Z9p hr (by omega) u (IntKind.i64.wrap ((10 : Int) + x))
      simp only [cond_true, e5, q1, Option.bind_some]
      exact go _ _ k5 (q2.mono (by omega))
   ·obtain ⟨u, c4, e4, k4, -, -⟩ := Ki c3 5 k3
    obtain ⟨s, y, q1, q2, -⟩ := Z9o hr (by omega) u
    simp only [cond_true, e4, q1, Option.bind_some]
    exact go _ _ k4 (q2.mono (by omega))
  ·obtain ⟨y, v, q1, q2⟩ := dat true
   rw [cond_true, q1, Option.bind_some]
   exact go _ _ k3 q2
theorem Qto (c : Zw) (hc : Qv c) : ∃ y c', Zl7 c = some ((y, ()), (c', ())) ∧ Qv c' ∧ Zi8 40 y.2.1 := by
 unfold Zl7
 obtain ⟨r, q1, q2⟩ := Zy9
 obtain ⟨x, c1, e1, k1, b1, b2⟩ := Ki c 7 hc
 have b2 := b2 (by omega)
 obtain ⟨m, rfl⟩ := Int.eq_ofNat_of_zero_le b1
 simp only [q1, e1, Option.bind_some]
 obtain ⟨y, c', w1, w2, w3⟩ := Qrv _ (Zba c1 ((0 : Int), (((0 : Int), (([] : List Q2), ())), ((0 : Int), ((0 : Int), ((0 : Int), ()))))) r (m : Int)) m 0 c1 r k1 q2 (by unfold Zba; omega) (by omega)
 exact ⟨y, c', w1, w2, w3.mono (by omega)⟩
theorem Zqi (n a b : Int) : Z4 n a b = some (decide (n ≥ a) && decide (n ≤ b), ()) := rfl
theorem Qyk (n : Int) : ∃ b, Zaf n = some (b, ()) := ⟨_, rfl⟩
theorem Zp2 (c : Zrg) : ∃ b, Zas c = some (b, ()) := by
 obtain ⟨b, h⟩ := Qyk c.1
 unfold Zas
 simp only [h, Zqi, Kh, Option.bind_some]
 exact ⟨_, rfl⟩
theorem Zhy (c : Qq) : ∃ b, Yl c = some (b, ()) := by
 unfold Yl
 simp only [Zdk, Zqi, Kh, Option.bind_some]
 exact ⟨_, rfl⟩
theorem Znb (w : Y3) : ∃ b, Kz w = some (b, ()) := by
 unfold Kz
 simp only [Zqi, Kh, Option.bind_some]
 exact ⟨_, rfl⟩
theorem Zrl (p : Xm) : ∃ b, Zbf p = some (b, ()) := by
 unfold Zbf
 simp only [Zqi, Option.bind_some]
 exact ⟨_, rfl⟩
theorem Qn2 (n : Int) : ∃ c b, Zge n = some (c, b, ()) := by
 unfold Zge
 simp only [Zdk, Option.bind_some, Kh]
 exact ⟨_, _, rfl⟩
theorem Qb8 (n m : Int) : ∃ c b, Zgf n m = some (c, b, ()) := by
 unfold Zgf
 simp only [Zqi, Option.bind_some, Kh]
 exact ⟨_, _, rfl⟩
theorem Qoz (s : Bool) (n : Int) : ∃ b, Zco s n = some (b, ()) := by
 unfold Zco Zad Zhp Zh1
 simp only [Zdk, Option.bind_some, Kh]
 exact ⟨_, rfl⟩
theorem Z3s (s : Bool) (n : Int) : ∃ b, Je s n = some (b, ()) := by
 unfold Je Zad Zhp Zh1
 simp only [Zdk, Option.bind_some, Kh]
 exact ⟨_, rfl⟩
structure Ka (K : Nat) (s : Zo) : Prop where
 snd : Jl K s.2.1
 rcv : Zi8 K s.2.2.2.1.2.1
theorem Ka.mono {K K' : Nat} {s : Zo} (h : Ka K s) (hK : K ≤ K') : Ka K' s := ⟨h.snd.mono (by omega), h.rcv.mono hK⟩
theorem Zy8 {K : Nat} {s : Zo} (h : Ka K s) (hK : K ≤ 1000000) : ∃ b, Vj s = some (b, ()) := by
 obtain ⟨b1, e1, -⟩ := Zfv h.snd (by omega)
 obtain ⟨b2, e2⟩ := Zhy s.2.2.1
 obtain ⟨b3, e3⟩ := Zjg h.rcv hK
 obtain ⟨b4, e4⟩ := Znb s.2.2.2.2.1
 obtain ⟨b5, e5⟩ := Zrl s.2.2.2.2.2.1
 unfold Vj
 simp only [e1, e2, e3, e4, e5, Zdk, Kh, Option.bind_some]
 exact ⟨_, rfl⟩
theorem Qwc (v : Bool) (i : Int) (o p : Zrg) (ho : o.1 = 4 ∨ o.1 = 8 ∨ o.1 = 16) : ∃ s b, Vu v i o p = some (s, b, ()) ∧ Ka 0 s := by
 obtain ⟨b1, e1⟩ := Zp2 o
 obtain ⟨b2, e2⟩ := Zp2 p
 obtain ⟨b3, e3⟩ := Qoz v i
 obtain ⟨b4, e4⟩ := Z3s v i
 obtain ⟨s, e5, h5⟩ := Qn3 ho
 obtain ⟨c6, b6, e6⟩ := Qn2 p.2.1
 obtain ⟨c7, b7, e7⟩ := Qb8 o.2.1 o.2.2.1
 obtain ⟨r, e8, h8⟩ := Zy9
 unfold Vu Ve
 simp only [e1, e2, e3, e4, e5, e6, e7, e8, Zdk, Kh, Option.bind_some]
 generalize ((_ || _) || _ : Bool) = x
 cases x
 ·refine ⟨_, _, rfl, ?_⟩
  exact ⟨h5, h8⟩
 ·refine ⟨_, _, rfl, ?_⟩
  exact ⟨{ cells := (Nat.zero_le 64), e0 := Int.le_refl _, eK := Int.le_refl _, pend := Zil _, flight := Zil _, acked := Zil _ }, ⟨Nat.le_refl _, (by show Zkn [] ≤ 0; simp [Zkn])⟩⟩
theorem Qpp (c : Zw) (hc : Qv c) : ∃ y c', Zer c = some ((y, ()), (c', ())) ∧ Qv c' ∧ (y.1 = 4 ∨ y.1 = 8 ∨ y.1 = 16) := by
 unfold Zer Zoj
 obtain ⟨x, c1, e1, k1, -, -⟩ := Ki c 3 hc
 simp only [e1, Option.bind_some]
 cases x == (0 : Int)
 ·rw [cond_false]
  cases x == (1 : Int)
  ·exact ⟨_, _, rfl, k1, .inr (.inr rfl)⟩
  ·exact ⟨_, _, rfl, k1, .inr (.inr rfl)⟩
 ·exact ⟨_, _, rfl, k1, .inr (.inl rfl)⟩
theorem Qv8 (c : Zw) (hc : Qv c) : ∃ y c', Znx c = some ((y, ()), (c', ())) ∧ Qv c' ∧ Ka 100 y := by
 have j1 : ∀ c t s, Qv c → Ka 100 s → ∃ y c', Zes c t s = some ((y, ()), (c', ())) ∧ Qv c' ∧ Ka 100 y := by
  intro c t s hc hs
  unfold Zes
  cases s.2.2.2.2.2.2.2.1
  ·exact ⟨_, _, rfl, hc, hs⟩
  ·obtain ⟨r, c1, e1, k1, h1⟩ := Qto c hc
   rw [cond_true, e1, Option.bind_some]
   refine ⟨_, _, rfl, k1, ?_⟩
   exact ⟨hs.snd, h1.mono (by omega)⟩
 unfold Znx
 obtain ⟨b1, c1, e1, k1⟩ := Zt1 c 2 hc
 obtain ⟨x2, c2, e2, k2, -, -⟩ := Ki c1 8 k1
 obtain ⟨f3, c3, e3, k3, h3⟩ := Qpp c2 k2
 obtain ⟨f4, c4, e4, k4, h4⟩ := Qpp c3 k3
 obtain ⟨s, b, e5, h5⟩ := Qwc b1 x2 f3 f4 h3
 simp only [e1, e2, e3, e4, e5, Option.bind_some]
 cases s.2.2.2.2.2.2.1
 ·rw [cond_false]
  exact j1 _ _ _ k4 (h5.mono (by omega))
 ·obtain ⟨w, c6, e6, k6, h6⟩ := Qx4 c4 k4
  obtain ⟨x7, c7, e7, k7, -, -⟩ := Ki c6 9 k6
  simp only [cond_true, e6, e7, Option.bind_some]
  exact j1 _ _ _ k7 ⟨h6, h5.rcv.mono (by omega)⟩
theorem Q1a (c : Zw) (hc : Qv c) : ∃ y c', Zs5 c = some ((y, ()), (c', ())) ∧ Qv c' ∧ Ka 100 y := by
 unfold Zs5
 obtain ⟨s, c1, e1, k1, h1⟩ := Qv8 c hc
 obtain ⟨x, c2, e2, k2, -, -⟩ := Ki c1 16 k1
 obtain ⟨p, c3, e3, k3, -⟩ := Z66 c2 [(-1 : Int), (3 : Int)] k2 (by simp)
 obtain ⟨q, c4, e4, k4, -⟩ := Z66 c2 [(-1 : Int), (0 : Int)] k2 (by simp)
 simp only [e1, e2, e3, e4, Option.bind_some]
 cases x == (0 : Int)
 ·rw [cond_false]
  cases x == (1 : Int)
  ·rw [cond_false]
   cases x == (2 : Int)
   ·rw [cond_false]
    cases x == (3 : Int)
    ·exact ⟨_, _, rfl, k2, h1⟩
    ·refine ⟨_, _, rfl, k4, ?_⟩
     exact ⟨h1.snd, h1.rcv⟩
   ·refine ⟨_, _, rfl, k3, ?_⟩
    exact ⟨h1.snd, h1.rcv⟩
  ·refine ⟨_, _, rfl, k2, ?_⟩
   exact ⟨h1.snd, h1.rcv⟩
 ·refine ⟨_, _, rfl, k2, ?_⟩
  exact ⟨h1.snd, h1.rcv⟩
theorem Z8m {K : Nat} {s : Zo} (h : Ka K s) (hK : K ≤ 1000000) : Zb0 s = some (s, ()) := by
 unfold Zb0
 rw [Ztm h.snd (by omega), Qpq h.rcv hK]; rfl
theorem Qxo (l : List Zo) (n : Int) (hl : l.length ≤ 1000000) : ∀ (N i : Nat), l.length - i < N → i ≤ l.length → ∃ v, Zcs N l n (i : Int) = some (v, ()) ∧ (v < 0 ∨ v < l.length) ∧ (v < 0 → ∀ s ∈ l.drop i, s.1 ≠ n) ∧ (0 ≤ v → (l.getD v.toNat Q7).1 = n)
 | 0, _, h, _ => by omega
 | N + 1, i, hN, hi => by
  unfold Zcs
  by_cases h : i < l.length
  ·rw [Zj (Zk (by omega)), Zc (by omega), show (i : Int).toNat = i from rfl]
   by_cases e : (l.getD i Q7).1 = n
   ·rw [Zj (beq_iff_eq.2 e)]
    exact ⟨_, rfl, by omega, fun h => by omega, fun _ => e⟩
   ·rw [Zh (beq_eq_false_iff_ne.2 e), Zs h (by omega)]
    obtain ⟨v, k1, k2, k3, k4⟩ := Qxo l n hl N (i + 1) (by omega) (by omega)
    refine ⟨v, k1, k2, fun hv s hs => ?_, k4⟩
    rw [J6 (d := Q7) h] at hs
    rcases List.mem_cons.1 hs with rfl | hs
    ·exact e
    ·exact k3 hv s hs
  ·rw [Zh (Zl (by omega))]
   refine ⟨_, rfl, by omega, fun _ s hs => ?_, fun h => by omega⟩
   rw [List.drop_eq_nil_of_le (by omega)] at hs; cases hs
theorem Z4l (l : List Zo) (n : Int) (hl : l.length ≤ 1000000) : ∃ v, Zd3 l n = some (v, ()) ∧ (v < 0 ∨ v < l.length) ∧ (v < 0 → ∀ s ∈ l, s.1 ≠ n) ∧ (0 ≤ v → (l.getD v.toNat Q7).1 = n) := by
 unfold Zd3
 exact Qxo l n hl _ 0 (by unfold Zf9; omega) (by omega)
structure Zt0 (K : Nat) (l : List Zo) : Prop where
 len : l.length ≤ K
 all : ∀ s ∈ l, Ka K s
theorem Zt0.mono {K K' : Nat} {l : List Zo} (h : Zt0 K l) (hK : K ≤ K') : Zt0 K' l := ⟨Nat.le_trans h.len hK, fun s hs => (h.all s hs).mono hK⟩
theorem Q0p {K : Nat} {l : List Zo} {s : Zo} (h : Zt0 K l) (hs : Ka K s) (hK : K ≤ 500000) (a : Int) : ∀ (N i : Nat) (out : List Zo) (p : Bool), l.length - i < N → i ≤ l.length → (∀ x ∈ out, Ka K x) → out.length ≤ i + (if p then 1 else 0) →
  ∃ y, Jg N l s out a p (i : Int) = some (y, ()) ∧ y.length ≤ l.length + 1 ∧ ∀ x ∈ y, Ka K x
 | 0, _, _, _, h, _, _, _ => by omega
 | N + 1, i, out, p, hN, hi, ho, hl => by
  have hlen := h.len
  have ho' : out.length ≤ i + 1 := by split at hl <;> omega
  have app : ∀ {o : List Zo} {x}, (∀ x ∈ o, Ka K x) → Ka K x → ∀ z ∈ o ++ [x], Ka K z := fun ho hx z hz => by
   rcases List.mem_append.1 hz with hz | hz
   ·exact ho z hz
   ·rw [List.mem_singleton.1 hz]; exact hx
  unfold Jg
  by_cases hh : i < l.length
  ·have hm := h.all _ (Xc (d := Q7) hh)
   rw [Zj (Zk (by omega)), Zc (by omega), show (i : Int).toNat = i from rfl, Z8m hm (by omega), Z8m hs (by omega)]
   simp only [Option.bind_some]
   have j : ∀ (o : List Zo) (q : Bool) x, (∀ x ∈ o, Ka K x) → Ka K x → o.length ≤ i + (if q then 1 else 0) →
     ∃ y, Za9 (fun v => Jg N v.1 v.2.1 v.2.2.1 v.2.2.2.1 v.2.2.2.2.1 v.2.2.2.2.2.1) l s o a q (i : Int) x = some (y, ()) ∧ y.length ≤ l.length + 1 ∧ ∀ x ∈ y, Ka K x := by
    intro o q x h1 h2 h3
    have h3' : o.length ≤ i + 1 := by split at h3 <;> omega
    unfold Za9
    rw [Zc (by unfold Qp; simp only [List.length_singleton]; omega), Zs hh (by omega)]
    exact Q0p h hs hK a N (i + 1) (o ++ [x]) q (by omega) (by omega) (app h1 h2) (by simp only [List.length_append, List.length_singleton]; omega)
   cases (i : Int) == a
   ·rw [cond_false, Zc (fun _ => by omega)]
    cases p
    ·simp only [Bool.not_false, Bool.true_and]
     cases decide ((l.getD i Q7).1 > s.1)
     ·exact j _ _ _ ho hm hl
     ·rw [cond_true, Zc (by unfold Qp; simp only [List.length_singleton]; omega)]
      exact j _ _ _ (app ho hs) hm (by simp at hl ⊢; omega)
    ·exact j _ _ _ ho hm hl
   ·exact j _ _ _ ho hs hl
  ·rw [Zh (Zl (by omega)), Z8m hs (by omega)]
   cases p
   ·simp only [Bool.not_false, cond_true, Option.bind_some]
    rw [Zc (by unfold Qp; simp only [List.length_singleton]; omega)]
    exact ⟨_, rfl, by simp at hl ⊢; omega, app ho hs⟩
   ·exact ⟨_, rfl, by simp at hl; omega, ho⟩
theorem Qwg {K : Nat} {l : List Zo} {s : Zo} (h : Zt0 K l) (hs : Ka K s) (hK : K ≤ 500000) : ∃ y, Xu l s = some (y, ()) ∧ y.length ≤ l.length + 1 ∧ ∀ x ∈ y, Ka K x := by
 unfold Xu
 obtain ⟨v, e, -⟩ := Z4l l s.1 (by have := h.len; omega)
 rw [e, Option.bind_some]
 exact Q0p h hs hK _ _ 0 [] _ (by unfold Zht; omega) (by omega) (by simp) (by simp)
theorem Qy1 : Ka 0 (((0 : Int), (((0 : Int), (((0 : Int), ((0 : Int), ((0 : Int), (([] : List Int), ())))), (([] : List Ze), (([] : List Ze), (([] : List Ze), ((0 : Int), ((0 : Int), ((0 : Int), ((0 : Int), ()))))))))), (((0 : Int), ((0 : Int), ((0 : Int), ((0 : Int), ())))), (((0 : Int), (((0 : Int), (([] : List Q2), ())), ((0 : Int), ((0 : Int), ((0 : Int), ()))))), (((0 : Int), ((0 : Int), ((0 : Int), ((0 : Int), ((0 : Int), ((0 : Int), ())))))), (((0 : Int), (false, ())), (false, (false, (false, (false, (false, (false, ((0 : Int), (false, ())))))))))))))) : Zo) :=
 ⟨{ cells := (by simp), e0 := Int.le_refl _, eK := Int.le_refl _, pend := Zil _, flight := Zil _, acked := Zil _ }, ⟨by simp, by simp [Zkn]⟩⟩
theorem Qyr {K : Nat} {c : Zi} (h : Zt0 K c.2.2.2.1) (hK : K ≤ 1000000) (n : Int) : ∃ s b, Q0 c n = some (s, b, ()) ∧ Ka K s := by
 unfold Q0
 obtain ⟨v, e, h1, -⟩ := Z4l c.2.2.2.1 n (by have := h.len; omega)
 rw [e, Option.bind_some]
 by_cases hv : v < 0
 ·rw [Zj (Zk hv)]
  exact ⟨_, _, rfl, Qy1.mono (by omega)⟩
 ·have hm := h.all _ (Xc (l := c.2.2.2.1) (i := v.toNat) (d := Q7) (by omega))
  rw [Zh (Zl hv), Zc (by simp only; omega), Z8m hm hK]
  exact ⟨_, _, rfl, hm⟩
theorem Qzi (n : Int) : ∃ v, Znt n = some (v, ()) := by
 unfold Znt
 rw [Zdk, Option.bind_some, Zc (by omega), Kh]
 exact ⟨_, rfl⟩
theorem Zsl (c : Qq) : ∃ b, Vr c = some (b, ()) := by
 unfold Vr
 simp only [Zqi, Kh, Option.bind_some]
 exact ⟨_, rfl⟩
theorem Zsm (c : Zja) : ∃ b, Zeh c = some (b, ()) := by
 unfold Zeh
 simp only [Zqi, Kh, Option.bind_some]
 exact ⟨_, rfl⟩
theorem Q0g {K : Nat} {l : List Zo} (h : Zt0 K l) (hK : K ≤ 1000000) : ∀ (N i : Nat), l.length - i < N → i ≤ l.length → ∃ b, Yt N l (i : Int) = some (b, ())
 | 0, _, h, _ => by omega
 | N + 1, i, hN, hi => by
  have hlen := h.len
  unfold Yt
  by_cases hh : i < l.length
  ·obtain ⟨b, e⟩ := Zy8 (h.all _ (Xc (d := Q7) hh)) hK
   rw [Zj (Zk (by omega)), Zc (by omega), show (i : Int).toNat = i from rfl, e, Option.bind_some, Zc (fun _ _ => by omega),
    Zc (fun _ h => by have := of_decide_eq_true h; rw [Zx (by omega) (by omega)]; omega), Zs hh (by omega)]
   exact Qov (P := fun m b => m = some (b, ())) ⟨_, rfl⟩ (Q0g h hK N (i + 1) (by omega) (by omega))
  ·rw [Zh (Zl (by omega))]
   exact ⟨_, rfl⟩
theorem Zn9 {K : Nat} {l : List Zo} (h : Zt0 K l) (hK : K ≤ 1000000) : ∃ b, Ky l = some (b, ()) := by
 unfold Ky
 exact Q0g h hK _ 0 (by unfold Za3; omega) (by omega)
theorem Qdd {K : Nat} {l : List Zo} (h : Zt0 K l) (hK : K ≤ 1000000) : ∃ v, Zgq l = some (v, ()) := by
 obtain ⟨b, e⟩ := Zn9 h hK
 have hlen := h.len
 have lp : ∀ (N i : Nat) (n : Int), l.length - i < N → i ≤ l.length → ∃ v, Ji N l n (i : Int) = some (v, ()) := by
  intro N
  induction N with
  | zero => intro i n h; omega
  | succ N ih =>
   intro i n hN hi
   unfold Ji
   rw [e, Kh, Option.bind_some]
   by_cases hh : i < l.length
   ·rw [Zc (by omega), Zs hh (by omega)]
    exact Qov (P := fun m b => m = some (b, ())) (ih (i + 1) _ (by omega) (by omega)) ⟨_, rfl⟩
   ·rw [Zl (by omega)]
    exact ⟨_, rfl⟩
 unfold Zgq
 exact lp _ 0 0 (by unfold Yx; omega) (by omega)
theorem Qdc {K : Nat} {l : List Zo} (h : Zt0 K l) (hK : K ≤ 1000000) : ∃ v, Zgp l = some (v, ()) := by
 obtain ⟨b, e⟩ := Zn9 h hK
 have hlen := h.len
 have lp : ∀ (N i : Nat) (n : Int), l.length - i < N → i ≤ l.length → ∃ v, Jh N l n (i : Int) = some (v, ()) := by
  intro N
  induction N with
  | zero => intro i n h; omega
  | succ N ih =>
   intro i n hN hi
   unfold Jh
   rw [e, Kh, Option.bind_some]
   by_cases hh : i < l.length
   ·rw [Zc (by omega), Zs hh (by omega)]
    exact Qov (P := fun m b => m = some (b, ())) (ih (i + 1) _ (by omega) (by omega)) ⟨_, rfl⟩
   ·rw [Zl (by omega)]
    exact ⟨_, rfl⟩
 unfold Zgp
 exact lp _ 0 0 (by unfold Yw; omega) (by omega)
def T {α : Type} (m : Option α) (Q : α → Prop) : Prop := ∃ y, m = some y ∧ Q y
abbrev TT {α : Type} (m : Option α) : Prop := T m fun _ => True
section
variable {α β : Type} {m n : Option α} {f : α → Option β} {Q : α → Prop} {R : β → Prop}
theorem T.bind (h : T m Q) (k : ∀ y, Q y → T (f y) R) : T (Option.bind m f) R := by
 obtain ⟨y, e, hy⟩ := h; rw [e]; exact k y hy
theorem T.pure {y : α} (h : Q y) : T (some y) Q := ⟨y, rfl, h⟩
theorem T.tt {y : α} : TT (some y) := ⟨y, rfl, trivial⟩
theorem T.ite {c : Bool} (h1 : c = true → T m Q) (h2 : c = false → T n Q) : T (bif c then m else n) Q := by
 cases c
 ·exact h2 rfl
 ·exact h1 rfl
theorem T.if {c : Bool} (h1 : T m Q) (h2 : T n Q) : T (bif c then m else n) Q := T.ite (fun _ => h1) fun _ => h2
theorem T.guard {p : Prop} (hp : p) (h : T m Q) : T (Zb p m) Q := by rw [Zc hp]; exact h
theorem T.mono {Q' : α → Prop} (h : T m Q) (k : ∀ y, Q y → Q' y) : T m Q' := by
 obtain ⟨y, e, hy⟩ := h; exact ⟨y, e, k y hy⟩
theorem T.of {y : α} (e : m = some y) (h : Q y) : T m Q := ⟨y, e, h⟩
end
theorem tt1 {α : Type} {m : Option (α × Unit)} (h : ∃ b, m = some (b, ())) : TT m := by obtain ⟨b, e⟩ := h; exact ⟨_, e, trivial⟩
def FOK (f : Zg) : Prop := f.2.2.2.1.length ≤ 1000
def Qos (l : List Zg) : Prop := l.length ≤ 1000 ∧ ∀ f ∈ l, FOK f
def Qqj (K : Nat) (l : List Xn) : Prop := l.length ≤ K ∧ ∀ p ∈ l, Qos p.2.1
theorem Qqj.mono {K K' : Nat} {l : List Xn} (h : Qqj K l) (hK : K ≤ K') : Qqj K' l := ⟨Nat.le_trans h.1 hK, h.2⟩
structure Qo (K : Nat) (c : Zi) : Prop where
 str : Zt0 K c.2.2.2.1
 pk : Qqj K c.2.2.2.2.2.2.2.2.2.2.2.2.2.2.2.1
theorem Qo.mono {K K' : Nat} {c : Zi} (h : Qo K c) (hK : K ≤ K') : Qo K' c := ⟨h.str.mono hK, h.pk.mono hK⟩
theorem Qn7 {K : Nat} {l : List Xn} (h : Qqj K l) (hK : K ≤ 1000000) : ∀ (N i : Nat), l.length - i < N → i ≤ l.length → Zda N l (l.take i) (i : Int) = some (l, ())
 | 0, _, h, _ => by omega
 | N + 1, i, hN, hi => by
  have hl := h.1
  unfold Zda
  by_cases hh : i < l.length
  ·have hm := (h.2 _ (Xc (d := Jz) hh)).1
   rw [Zj (Zk (by omega)), Zc (by omega), Zc (by omega), show (i : Int).toNat = i from rfl, Zc (by unfold Qp; simp only [List.length_nil]; omega)]
   simp only [List.nil_append]
   rw [Zc (by unfold Qp; simp only [List.length_take, List.length_singleton]; omega), Zs hh (by omega)]
   have e : l.take i ++ [((l.getD i Jz).1, ((l.getD i Jz).2.1, ()))] = l.take (i + 1) := by
    rw [List.take_succ_eq_append_getElem hh, List.getD_eq_getElem?_getD, List.getElem?_eq_getElem hh]; rfl
   rw [e]
   exact Qn7 h hK N (i + 1) (by omega) (by omega)
  ·rw [Zh (Zl (by omega)), List.take_of_length_le (by omega)]
theorem Qtm {K : Nat} {l : List Xn} (h : Qqj K l) (hK : K ≤ 1000000) : Zl4 l = some (l, ()) := by
 unfold Zl4
 exact Qn7 h hK _ 0 (by unfold Zgu; omega) (by omega)
theorem Qnv {K : Nat} {c : Zi} (h : Qo K c) (hK : K ≤ 1000000) (t : Zi) : ∀ (N i : Nat), c.2.2.2.1.length - i < N → i ≤ c.2.2.2.1.length →
  Zh7 N c t (c.1, (c.2.1, (c.2.2.1, (c.2.2.2.1.take i, c.2.2.2.2)))) (i : Int) = some (c, ())
 | 0, _, h, _ => by omega
 | N + 1, i, hN, hi => by
  have hl := h.str.len
  unfold Zh7
  by_cases hh : i < c.2.2.2.1.length
  ·rw [Zj (Zk (by omega)), Zc (by omega), show (i : Int).toNat = i from rfl, Z8m (h.str.all _ (Xc (d := Q7) hh)) hK, Option.bind_some,
    Zc (by unfold Qp; simp only [List.length_take, List.length_singleton]; omega), Zs hh (by omega)]
   have e : c.2.2.2.1.take i ++ [c.2.2.2.1.getD i Q7] = c.2.2.2.1.take (i + 1) := by
    rw [List.take_succ_eq_append_getElem hh, List.getD_eq_getElem?_getD, List.getElem?_eq_getElem hh]; rfl
   simp only [e]
   exact Qnv h hK t N (i + 1) (by omega) (by omega)
  ·rw [Zh (Zl (by omega)), List.take_of_length_le (by omega), Qtm h.pk hK]; rfl
theorem Zdi {K : Nat} {c : Zi} (h : Qo K c) (hK : K ≤ 1000000) : Z8 c = some (c, ()) := by
 unfold Z8
 exact Qnv h hK _ _ 0 (by unfold Zjz; omega) (by omega)
theorem Z1c {f : Zg} (h : FOK f) : TT (Vt f) := ⟨_, Zq2 f (by unfold FOK at h; omega), trivial⟩
theorem Qnw {l : List Zg} (h : Qos l) : TT (Zgt l) := by
 have lp : ∀ (N i : Nat), l.length - i < N → i ≤ l.length → TT (Vx N l (i : Int)) := by
  intro N
  induction N with
  | zero => intro i h; omega
  | succ N ih =>
   intro i hN hi
   have hl := h.1
   unfold Vx
   refine T.ite (fun hc => ?_) fun _ => T.tt
   have hc := of_decide_eq_true hc
   refine T.guard (by omega) ((Z1c (h.2 _ (Xc (by omega)))).bind fun t _ => T.if T.tt ?_)
   rw [Zs (m := l.length) (by omega) (by omega)]
   exact ih (i + 1) (by omega) (by omega)
 unfold Zgt
 exact lp _ 0 (by unfold K8; omega) (by omega)
theorem tIn (n a b : Int) : TT (Z4 n a b) := ⟨_, Zqi n a b, trivial⟩
theorem Qst (n : Int) : TT (Qe n) := ⟨_, Zdk n, trivial⟩
theorem Qea {K : Nat} {l : List Zo} (h : Zt0 K l) (hK : K ≤ 1000000) : T (Ky l) fun r => r.1 = true → l.length ≤ 24 := by
 have hlen := h.len
 have lp : ∀ (N i : Nat), l.length - i < N → i ≤ l.length → T (Yt N l (i : Int)) fun r => r.1 = true → l.length ≤ 24 := by
  intro N
  induction N with
  | zero => intro i h; omega
  | succ N ih =>
   intro i hN hi
   unfold Yt
   refine T.ite (fun hc => ?_) fun _ => T.pure fun h => by have := of_decide_eq_true h; omega
   have hc := of_decide_eq_true hc
   refine T.guard (by omega) ((tt1 (Zy8 (h.all _ (Xc (by omega))) hK)).bind fun t _ => T.guard (fun _ _ => by omega) (T.guard (fun _ h => ?_) (T.if (T.pure fun h => by cases h) ?_)))
   ·have := of_decide_eq_true h
    rw [Zx (by omega) (by omega)]; omega
   ·rw [Zs (m := l.length) (by omega) (by omega)]
    exact ih (i + 1) (by omega) (by omega)
 unfold Ky
 exact lp _ 0 (by unfold Za3; omega) (by omega)
theorem Qhk {K : Nat} {c : Zi} (h : Qo K c) (hK : K ≤ 1000000) : T (Xy c) fun r => r.1 = true → c.2.2.2.1.length ≤ 24 := by
 have lp : ∀ (N i : Nat), c.2.2.2.2.2.2.2.2.2.2.2.2.2.2.2.1.length - i < N → i ≤ c.2.2.2.2.2.2.2.2.2.2.2.2.2.2.2.1.length → TT (Vs N c (i : Int)) := by
  intro N
  induction N with
  | zero => intro i h; omega
  | succ N ih =>
   intro i hN hi
   have hl := h.pk.1
   unfold Vs
   refine T.ite (fun hc => ?_) fun _ => ?_
   ·have hc := of_decide_eq_true hc
    refine T.guard (by omega) ((tIn _ _ _).bind fun t _ => T.guard (fun _ _ => by omega) (T.guard (fun _ h => ?_) (T.guard (fun _ => by omega) (T.bind (Q := fun _ => True) (T.if T.tt (Qnw (h.pk.2 _ (Xc (by omega))))) fun t2 _ => T.if T.tt ?_))))
    ·have := of_decide_eq_true h
     rw [Zx (by omega) (by omega)]; omega
    ·rw [Zs (m := c.2.2.2.2.2.2.2.2.2.2.2.2.2.2.2.1.length) (by omega) (by omega)]
     exact ih (i + 1) (by omega) (by omega)
   ·exact (tIn _ _ _).bind fun t _ => T.bind (Q := fun _ => True) (T.if (tIn _ _ _) T.tt) fun t _ => T.bind (Q := fun _ => True) (T.if (tIn _ _ _) T.tt) fun t _ => T.bind (Q := fun _ => True) (T.if (tIn _ _ _) T.tt) fun t _ =>
     T.bind (Q := fun _ => True) (T.if (tt1 (Qdd h.str hK)) T.tt) fun t _ => T.bind (Q := fun _ => True) (T.if (tt1 (Qdc h.str hK)) T.tt) fun t _ => T.tt
 unfold Xy
 have B : ∀ {α β : Type} {b : Bool} {m n : Option α} {f : α → Option β} {R : β → Prop}, TT m → TT n → (∀ y, T (f y) R) → T (Option.bind (bif b then m else n) f) R := fun h1 h2 h3 => (T.if h1 h2).bind fun y _ => h3 y
 exact (tt1 (Zp2 _)).bind fun t _ => B T.tt (tt1 (Zp2 _)) fun t => T.bind (Q := fun r => r.1 = true → c.2.2.2.1.length ≤ 24) (T.if (T.pure fun h => by cases h) (Qea h.str hK)) fun t hs => B T.tt (tt1 (Zhy _)) fun t => B T.tt (tt1 (Znb _)) fun t => B T.tt (tt1 (Zsm _)) fun t => B T.tt (tt1 (Zsm _)) fun t => B T.tt (tt1 (Zsl _)) fun t => B T.tt (tt1 (Zsl _)) fun t =>
  T.ite (fun _ => T.pure fun h => by cases h) fun hc => (lp _ 0 (by unfold Jc; omega) (by omega)).mono fun _ _ _ => hs (by simp at hc; simp [hc])
theorem Zy7 {K : Nat} {c : Zi} (h : Qo K c) (hK : K ≤ 1000000) : TT (Xy c) := (Qhk h hK).mono fun _ _ => trivial
theorem Qrt {K : Nat} {c : Zi} (h : Qo K c) (hK : K ≤ 1000000) : T (Kd c) fun r => r.1 = true → c.2.2.2.1.length ≤ 24 := by
 unfold Kd
 exact (Qhk h hK).bind fun t ht => T.bind (Q := fun _ => True) (T.if ⟨_, rfl, trivial⟩ T.tt) fun t2 _ => T.pure fun h => ht (by simp at h; exact h.1)
theorem Zqw {K : Nat} {c : Zi} (h : Qo K c) (hK : K ≤ 1000000) : TT (Kd c) := (Qrt h hK).mono fun _ _ => trivial
theorem Q28 (n : Int) : T (Zaf n) fun r => r.1 = true → 0 < n ∧ n ≤ 64 := ⟨_, rfl, fun h => by simp at h; omega⟩
theorem Qtw (n : Int) : T (Zc2 n) fun r => Jl 0 r.1 := by
 unfold Zc2 Zq1
 have z : Jl 0 Jk := { cells := (by simp [Jk]), e0 := Int.le_refl _, eK := Int.le_refl _, pend := Zil _, flight := Zil _, acked := Zil _ }
 refine T.bind (Q := fun r => r.2.1 = true → r.1.2.2.2.1.length ≤ 64 ∧ r.1.2.2.1 = 0) ((Q28 n).bind fun t ht => T.ite (fun _ => T.pure fun h => by cases h) fun hc => ?_) fun t ht => T.ite (fun _ => T.pure z) fun hc => T.pure ?_
 ·have := ht (by simpa using hc)
  exact T.guard (by unfold Qp; omega) (T.pure fun _ => ⟨by simp; omega, rfl⟩)
 ·have := ht (by simpa using hc)
  exact { cells := this.1, e0 := by simp only [this.2]; omega, eK := by simp only [this.2]; omega, pend := Zil _, flight := Zil _, acked := Zil _ }
theorem Qkj (v : Bool) (i : Int) (o p : Zrg) : T (Vu v i o p) fun r => Ka 0 r.1 := by
 obtain ⟨b1, e1⟩ := Zp2 o
 obtain ⟨b2, e2⟩ := Zp2 p
 obtain ⟨b3, e3⟩ := Qoz v i
 obtain ⟨b4, e4⟩ := Z3s v i
 obtain ⟨⟨s, b5, u⟩, e5, h5⟩ := Qtw o.1
 obtain ⟨c6, b6, e6⟩ := Qn2 p.2.1
 obtain ⟨c7, b7, e7⟩ := Qb8 o.2.1 o.2.2.1
 obtain ⟨r, e8, h8⟩ := Zy9
 unfold Vu Ve
 simp only [e1, e2, e3, e4, e5, e6, e7, e8, Zdk, Kh, Option.bind_some]
 generalize ((_ || _) || _ : Bool) = x
 cases x
 ·exact T.pure (by exact ⟨h5, h8⟩)
 ·exact T.pure Qy1
theorem Q2n (v : Bool) (n : Int) : TT (Zhp v n) := by
 unfold Zhp Zh1
 simp only [Zdk, Option.bind_some, Kh]
 exact ⟨_, rfl, trivial⟩
theorem Q2f (n : Int) : TT (Zad n) := by
 unfold Zad
 simp only [Zdk, Option.bind_some]
 exact ⟨_, rfl, trivial⟩
theorem Qwd (c : Zja) : TT (Zo6 c) := by
 unfold Zo6
 exact (tt1 (Zsm c)).bind fun t _ => T.if T.tt (T.if T.tt T.tt)
theorem Qzu (n : Int) (s u : Bool) : TT (Zs4 n s u) := by
 unfold Zs4
 have j : ∀ u i, TT (Zjq u i) := fun u i => by unfold Zjq; exact T.if T.tt T.tt
 exact (tIn _ _ _).bind fun t _ => T.if T.tt (T.guard (by omega) (T.if (j _ _) (j _ _)))
theorem Jb {K K' : Nat} {l : List Zo} {s : Zo} (h : Zt0 K l) (hs : Ka K' s) (hk : K ≤ K') (hK : K' + 1 ≤ 500000) : T (Xu l s) fun r => Zt0 (K' + 1) r.1 := by
 obtain ⟨y, e, h1, h2⟩ := Qwg (h.mono hk) hs (by omega)
 have := h.len
 exact ⟨_, e, ⟨by simp only; omega, fun x hx => (h2 x hx).mono (by omega)⟩⟩
theorem Zhw {K : Nat} {c : Zi} (h : Qo K c) (hK : K ≤ 1000000) (n : Int) : T (Q0 c n) fun r => Ka K r.1 := by
 obtain ⟨s, b, e, hs⟩ := Qyr h.str hK n
 exact ⟨_, e, hs⟩
theorem Qo.up {K K' : Nat} {c : Zi} (h : Qo K c) (hk : K ≤ K') {l : List Zo} (hl : Zt0 K' l) : Qo K' (c.1, (c.2.1, (c.2.2.1, (l, c.2.2.2.2)))) := ⟨hl, h.pk.mono hk⟩
theorem Qt0 {K : Nat} {c : Zi} (h : Qo K c) (hK : K + 1 ≤ 500000) (u : Bool) : T (Zl1 c u) fun r => Qo (K + 1) r.2.1 := by
 unfold Zl1
 rw [Zdi h (by omega), Option.bind_some]
 have j2 : ∀ u x t i b, Qo K x → T (Zc6 u c t x i b) fun r => Qo (K + 1) r.2.1 := fun u x t i b hx => by
  unfold Zc6
  exact T.if (T.pure (hx.mono (by omega))) ((Qzu _ _ _).bind fun t1 _ => (Qkj _ _ _ _).bind fun t2 h2 => (Jb hx.str (h2.mono (by omega)) (Nat.le_refl _) (by omega)).bind fun t3 h3 => T.pure (hx.up (by omega) h3))
 have j1 : ∀ u t n, T (Zc5 u c t c n) fun r => Qo (K + 1) r.2.1 := fun u t n => by
  unfold Zc5
  exact (Qwd _).bind fun t1 _ => T.if (j2 _ _ _ _ _ ⟨h.str, h.pk⟩) (j2 _ _ _ _ _ ⟨h.str, h.pk⟩)
 exact (Zqw h (by omega)).bind fun t _ => T.if (T.pure (h.mono (by omega))) (T.if (j1 _ _ _) (j1 _ _ _))
theorem Qsy {K : Nat} {c : Zi} (h : Qo K c) (i : Int) (d : List UInt8) (hK : K + d.length + 1 ≤ 500000) : T (Zkk c i d) fun r => Qo (K + d.length + 1) r.2.1 := by
 unfold Zkk
 rw [Zdi h (by omega), Option.bind_some]
 refine (Zhw h (by omega) i).bind fun s hs => (Zqw h (by omega)).bind fun t _ => T.if (T.pure (h.mono (by omega))) ?_
 obtain ⟨x, n, e, h1⟩ := Qe3 hs.snd d (by omega)
 rw [e, Option.bind_some]
 exact (Jb h.str (K' := K + d.length) (by exact ⟨h1.mono (by omega), hs.rcv.mono (by omega)⟩) (by omega) (by omega)).bind fun t3 h3 => T.pure (h.up (by omega) h3)
theorem Qpb {K : Nat} {c : Zi} (h : Qo K c) (hK : K + 1 ≤ 500000) (i : Int) : T (Zi4 c i) fun r => Qo (K + 1) r.1 := by
 unfold Zi4
 rw [Zdi h (by omega), Option.bind_some]
 refine (Zhw h (by omega) i).bind fun s hs => (Zqw h (by omega)).bind fun t _ => T.if (T.pure (h.mono (by omega))) ?_
 obtain ⟨x, ok, e, h1⟩ := Qee hs.snd (by omega)
 rw [e, Option.bind_some]
 exact T.if (T.pure (h.mono (by omega))) ((Jb h.str (by exact ⟨h1, hs.rcv⟩) (Nat.le_refl _) (by omega)).bind fun t3 h3 => T.pure (h.up (by omega) h3))
theorem Qla (w : Y3) (n : Int) : TT (Zjt w n) := by
 unfold Zjt
 exact (tt1 (Znb w)).bind fun t _ => T.if T.tt T.tt
theorem Qu4 {K : Nat} {x : Zi} {s : Zo} (h : Qo K x) (hs : Ka K s) (n : Int) : T (Znz x s n) fun r => Qo K r.2.1 ∧ Ka K r.2.2.1 := by
 unfold Znz
 exact (Qla _ _).bind fun t _ => (Qla _ _).bind fun t2 _ => T.pure ⟨⟨h.str, h.pk⟩, ⟨hs.snd, hs.rcv⟩⟩
theorem Qwl {K : Nat} {r : Qb} (h : Zi8 K r.2.1) (hK : K ≤ 1000000) : TT (Zlx r) := by
 unfold Zlx
 exact (tt1 (Zjg h hK)).bind fun t _ => T.tt
theorem Q06 {K : Nat} {s : Zo} (h : Ka K s) (hK : K ≤ 1000000) : TT (Zs3 s) := by
 unfold Zs3 Zqc Zqb
 exact (tt1 (Zy8 h hK)).bind fun t _ => T.bind (Q := fun _ => True) (T.if T.tt T.tt) fun t _ => T.bind (Q := fun _ => True) (T.if (T.bind (Q := fun _ => True) (T.if T.tt (Qwl h.rcv hK)) fun t _ => T.tt) T.tt) fun t _ => T.tt
theorem Qnf (a : Qq) : TT (Zk8 a) := by
 unfold Zk8
 exact (tt1 (Zsl a)).bind fun t _ => T.if T.tt T.tt
theorem Qzm {K : Nat} {x : Zi} {s : Zo} (h : Qo K x) (hs : Ka K s) (hK : K ≤ 1000000) : T (Zq5 x s) fun r => Qo K r.2.1 ∧ Ka K r.2.2.1 := by
 unfold Zq5
 exact T.bind (Q := fun _ => True) (T.if T.tt (Q2n _ _)) fun t _ => T.bind (Q := fun _ => True) (T.if T.tt (Q06 hs hK)) fun t _ => T.if (T.pure ⟨h, hs⟩) ((Q2f _).bind fun t _ => T.if ((Qnf _).bind fun t _ => T.pure ⟨⟨h.str, h.pk⟩, ⟨hs.snd, hs.rcv⟩⟩) ((Qnf _).bind fun t _ => T.pure ⟨⟨h.str, h.pk⟩, ⟨hs.snd, hs.rcv⟩⟩))
theorem Z1d {K K' : Nat} {x : Zi} {s : Zo} (h : Qo K x) (hs : Ka K' s) (hk : K ≤ K') (hK : K' + 1 ≤ 500000) : T (Zb1 x s) fun r => Qo (K' + 1) r.2.1 := by
 unfold Zb1
 exact (Qzm (h.mono hk) hs (by omega)).bind fun t ht => (Jb ht.1.str ht.2 (Nat.le_refl _) hK).bind fun t3 h3 => T.pure (ht.1.up (by omega) h3)
theorem Qt4 {K : Nat} {c : Zi} (h : Qo K c) (hK : K + 1 ≤ 500000) (i m : Int) : T (Zl3 c i m) fun r => Qo (K + 1) r.1.2.2.1 := by
 unfold Zl3
 rw [Zdi h (by omega), Option.bind_some]
 refine (Zhw h (by omega) i).bind fun s hs => (Zqw h (by omega)).bind fun t _ => T.if (T.pure (h.mono (by omega))) ?_
 obtain ⟨d, r, e, h1, -⟩ := Z9o hs.rcv (by omega) m
 rw [e, Option.bind_some]
 have j : ∀ t x s d r, Qo K x → Ka K s → T (Zc8 t x s d r) fun r => Qo (K + 1) r.1.2.2.1 := fun t x s d r hx hs => by
  unfold Zc8
  exact (Z1d hx hs (Nat.le_refl _) hK).bind fun t3 h3 => T.pure h3
 exact T.if ((Qu4 h (by exact ⟨hs.snd, h1⟩) _).bind fun t ht => j _ _ _ _ _ ht.1 ht.2) (j _ _ _ _ _ h (by exact ⟨hs.snd, h1⟩))
theorem Qsf {K : Nat} {c : Zi} (h : Qo K c) (hK : K + 1 ≤ 500000) (i k : Int) : T (Zki c i k) fun r => Qo (K + 1) r.1.1 := by
 unfold Zki
 rw [Zdi h (by omega), Option.bind_some]
 refine (Zhw h (by omega) i).bind fun s hs => (Zqw h (by omega)).bind fun t _ => T.if (T.pure (h.mono (by omega))) ?_
 obtain ⟨x, ok, e, h1⟩ := Zzv hs.snd k (by omega)
 rw [e, Option.bind_some]
 exact T.if (T.pure (h.mono (by omega))) ((Z1d h (by exact ⟨h1, hs.rcv⟩) (Nat.le_refl _) hK).bind fun t3 h3 => T.pure h3)
theorem Qxi (s : List UInt8) (hs : s.length ≤ 1000000) (b : Int) : ∀ (N i : Nat) (out : List (List UInt8)) (p : List UInt8), s.length - i < N → i ≤ s.length → out.length ≤ i → p.length ≤ i → (∀ x ∈ out, x.length ≤ i) →
  T (Vw N s b out p (i : Int)) fun r => r.1.length ≤ s.length + 1 ∧ ∀ x ∈ r.1, x.length ≤ s.length
 | 0, _, _, _, h, _, _, _, _ => by omega
 | N + 1, i, out, p, hN, hi, ho, hp, hx => by
  have app : ∀ {k : Nat} {o : List (List UInt8)} {x}, (∀ x ∈ o, x.length ≤ k) → x.length ≤ k → ∀ z ∈ o ++ [x], z.length ≤ k := fun ho hx z hz => by
   rcases List.mem_append.1 hz with hz | hz
   ·exact ho z hz
   ·rw [List.mem_singleton.1 hz]; exact hx
  unfold Vw
  refine T.ite (fun hc => ?_) fun _ => T.guard (by unfold Qp; simp only [List.length_singleton]; omega) (T.pure ⟨by simp; omega, app (fun x h => by have := hx x h; omega) (by omega)⟩)
  have hc : i < s.length := by have := of_decide_eq_true hc; omega
  refine T.guard (by omega) (T.if (T.guard (by unfold Qp; simp only [List.length_singleton]; omega) ?_) (T.guard ?_ (T.guard ?_ ?_)))
  ·unfold Zc9
   rw [Zs hc (by omega)]
   exact Qxi s hs b N (i + 1) _ _ (by omega) (by omega) (by simp; omega) (by simp) (app (fun x h => by have := hx x h; omega) (by omega))
  ·rw [Zs hc (by omega)]; omega
  ·unfold Z5; simp only [List.length_take, List.length_drop]; rw [Zs hc (by omega)]; omega
  ·unfold Zc9
   rw [Zs hc (by omega)]
   exact Qxi s hs b N (i + 1) _ _ (by omega) (by omega) (by simp only; omega) (by simp only [List.length_append, List.length_take, List.length_drop]; omega) (fun x h => by have := hx x h; omega)
theorem Q24 (s : List UInt8) (hs : s.length ≤ 1000000) (b : Int) : T (Zjw s b) fun r => r.1.length ≤ s.length + 1 ∧ ∀ x ∈ r.1, x.length ≤ s.length := by
 unfold Zjw
 exact Qxi s hs b _ 0 _ _ (by unfold Zfm; omega) (by omega) (by simp) (by simp) (by simp)
theorem Qvj : ∀ (N : Nat) (s : List UInt8), s.length < N → s.length ≤ 1000000 → T (Zh6 N s) fun r => r.1.length ≤ s.length
 | 0, _, h, _ => by omega
 | N + 1, s, hN, hs => by
  unfold Zh6
  refine T.guard (fun h => ?_) (T.ite (fun hc => ?_) fun _ => T.pure (Nat.le_refl _))
  ·have := of_decide_eq_true h
   rw [Zx (by omega) (by omega)]; omega
  ·have : (s.length : Int) > 0 := by simp at hc; omega
   refine T.guard (by rw [Zx (by omega) (by omega)]; omega) ((Qvj N _ ?_ ?_).mono fun y hy => ?_)
   all_goals (simp only [List.length_take, List.length_drop] at *; rw [Zx (by omega) (by omega)] at *; omega)
theorem Qvi : ∀ (N : Nat) (s : List UInt8), s.length < N → s.length ≤ 1000000 → T (Zh5 N s) fun r => r.1.length ≤ s.length
 | 0, _, h, _ => by omega
 | N + 1, s, hN, hs => by
  unfold Zh5
  refine T.guard (fun h => ?_) (T.ite (fun hc => ?_) fun _ => Qvj _ s (by unfold Zjy; omega) hs)
  ·have := of_decide_eq_true h
   omega
  ·have : (s.length : Int) > 0 := by simp at hc; omega
   refine T.guard (by omega) ((Qvi N _ ?_ ?_).mono fun y hy => ?_)
   all_goals (simp only [List.length_take, List.length_drop] at *; omega)
theorem Q20 (s : List UInt8) (hs : s.length ≤ 1000000) : T (Zq3 s) fun r => r.1.length ≤ s.length := by
 unfold Zq3
 exact Qvi _ s (by unfold Zjx; omega) hs
theorem Q1j (p : Xm) (s : List UInt8) (hs : s.length ≤ 100000) : TT (Zhr p s) := by
 have lp : ∀ (l : List (List UInt8)), l.length ≤ 100001 → (∀ x ∈ l, x.length ≤ 100000) → ∀ (t : Xm) (N i : Nat) (b : Xm), l.length - i < N → i ≤ l.length → TT (Xx N b t l (i : Int)) := by
  intro l hl hx t N
  induction N with
  | zero => intro i b h; omega
  | succ N ih =>
   intro i b hN hi
   unfold Xx
   refine T.ite (fun hc => ?_) fun _ => T.tt
   have hc : i < l.length := by have := of_decide_eq_true hc; omega
   have j : ∀ b, TT (Y8 (fun v => Xx N v.1 v.2.1 v.2.2.1 v.2.2.2.1) b t l (i : Int)) := fun b => by
    unfold Y8
    rw [Zs hc (by omega)]
    exact ih (i + 1) _ (by omega) (by omega)
   refine T.guard (by omega) ((Q20 _ (by have := hx _ (Xc (d := []) hc); rw [show (i : Int).toNat = i from rfl]; omega)).bind fun t _ => T.if (j _) (T.if (j _) (T.guard (fun h => ?_) (T.guard (fun h => ?_) (T.guard (fun h => ?_) (T.ite (fun h => T.guard ?_ (j _)) fun _ => j _))))))
   all_goals (simp at h; omega)
 have j : ∀ b t, TT (Wx s b t) := fun b t => by
  unfold Wx
  exact (Q24 s (by omega) 44).bind fun r hr => lp _ (by omega) (fun x hx => by have := hr.2 x hx; omega) _ _ 0 _ (by unfold Zcz; omega) (by omega)
 unfold Zhr
 have d : TT Ve := ⟨_, rfl, trivial⟩
 exact (tt1 (Zrl p)).bind fun t _ => T.if (d.bind fun t _ => j _ _) (j _ _)
theorem Qsm {K : Nat} {c : Zi} (h : Qo K c) (hK : K + 1 ≤ 500000) (i : Int) (x : List UInt8) (hx : x.length ≤ 100000) : T (Zkj c i x) fun r => Qo (K + 1) r.1 := by
 unfold Zkj
 rw [Zdi h (by omega), Option.bind_some]
 exact (Zhw h (by omega) i).bind fun s hs => (Zqw h (by omega)).bind fun t _ => T.if (T.pure (h.mono (by omega))) ((Q1j _ x hx).bind fun t _ => (Jb h.str (by exact ⟨hs.snd, hs.rcv⟩) (Nat.le_refl _) hK).bind fun t3 h3 => T.pure (h.up (by omega) h3))
theorem Z4z (w : Y3) : TT (Zgd w) := by
 unfold Zgd
 exact (tt1 (Znb w)).bind fun t _ => T.guard (fun _ => by omega) T.tt
theorem Z9j (w : Y3) (n t : Int) : TT (Zgo w n t) := by
 unfold Zgo
 have j : ∀ n w t, TT (Zfi n w t) := fun n w t => ⟨_, rfl, trivial⟩
 exact (Z4z w).bind fun t _ => T.bind (Q := fun _ => True) (T.if T.tt (tIn _ _ _)) fun t _ => T.bind (Q := fun _ => True) (T.if T.tt (tIn _ _ _)) fun t _ => T.if T.tt (T.if (j _ _ _) (j _ _ _))
theorem Qru (c : Zi) : TT (Zlg c) := by
 unfold Zlg
 exact (Z4z _).bind fun t _ => T.if ((Z9j _ _ _).bind fun t _ => T.tt) T.tt
theorem Qki (a : Qq) : TT (Zjs a) := by
 unfold Zjs
 exact (tt1 (Zsl a)).bind fun t _ => T.guard (fun _ => by omega) T.tt
theorem Qr8 (a : Qq) : TT (Zl2 a) := by
 unfold Zl2
 exact (Qki a).bind fun t _ => T.if T.tt T.tt
theorem Z8n (a : Qq) (b : Bool) : TT (Ze5 a b) := by
 unfold Ze5
 exact (Qki a).bind fun t _ => T.if ((Qr8 a).bind fun t _ => T.tt) T.tt
theorem Qnx (c : Zi) (s : Zo) : TT (Zj8 c s) := by
 unfold Zj8
 exact T.if T.tt ((Z4z _).bind fun t _ => T.if ((Z9j _ _ _).bind fun t _ => T.tt) T.tt)
theorem Qnz (c : Qq) : TT (Zla c) := by
 unfold Zla
 exact (tt1 (Zhy c)).bind fun t _ => T.tt
theorem Qxf (c : Qq) : TT (Zec c) := by
 unfold Zec
 exact (tt1 (Zhy c)).bind fun t _ => T.if T.tt T.tt
theorem Q0m (c : Qq) : TT (Zgi c) := by
 unfold Zgi
 exact (tt1 (Zhy c)).bind fun t _ => T.if T.tt T.tt
def FL (n : Nat) (l : List Zg) : Prop := l.length ≤ n ∧ ∀ f ∈ l, FOK f
theorem FL.one {n : Nat} {l : List Zg} {f : Zg} (h : FL n l) (hf : FOK f) : FL (n + 1) (l ++ [f]) := ⟨by have := h.1; simp; omega, fun x hx => by
 rcases List.mem_append.1 hx with hx | hx
 ·exact h.2 x hx
 ·rw [List.mem_singleton.1 hx]; exact hf⟩
theorem FL.app {n m : Nat} {l k : List Zg} (h : FL n l) (hk : FL m k) : FL (n + m) (l ++ k) := ⟨by have := h.1; have := hk.1; simp; omega, fun x hx => by
 rcases List.mem_append.1 hx with hx | hx
 ·exact h.2 x hx
 ·exact hk.2 x hx⟩
theorem FL.mono {n m : Nat} {l : List Zg} (h : FL n l) (hn : n ≤ m) : FL m l := ⟨Nat.le_trans h.1 hn, h.2⟩
theorem FL.nil : FL 0 [] := ⟨Nat.le_refl _, by simp⟩
theorem Qgt (k : Int) (i o : Int) (x) : FOK ((k, (i, (o, (([] : List UInt8), x)))) : Zg) := Nat.zero_le _
theorem FL.cap {n : Nat} {l k : List Zg} (h : FL n l) (hn : n + k.length ≤ 10000) : l.length + k.length ≤ Qp := by have := h.1; unfold Qp; omega
theorem Qv9 (c : Zi) (s : Zo) : T (Zn0 c s) fun r => FL 4 r.1 := by
 have j3 : ∀ o, FL 3 o → T (Zew s o) fun r => FL 4 r.1 := fun o ho => by
  unfold Zew
  exact (Qnz _).bind fun t _ => T.if (T.guard (ho.cap (by simp)) (T.pure (ho.one (Qgt _ _ _ _)))) (T.pure (ho.mono (by omega)))
 have j2 : ∀ o, FL 2 o → T (Zev c s o) fun r => FL 4 r.1 := fun o ho => by
  unfold Zev
  exact (Qnx _ _).bind fun t _ => T.if (T.guard (ho.cap (by simp)) (j3 _ (ho.one (Qgt _ _ _ _)))) (j3 _ (ho.mono (by omega)))
 have j1 : ∀ o, FL 1 o → T (Zeu c s o) fun r => FL 4 r.1 := fun o ho => by
  unfold Zeu
  exact T.if (T.guard (ho.cap (by simp)) (j2 _ (ho.one (Qgt _ _ _ _)))) (j2 _ (ho.mono (by omega)))
 unfold Zn0
 exact T.if (T.guard (FL.nil.cap (by simp)) (j1 _ (FL.nil.one (Qgt _ _ _ _)))) (j1 _ (FL.nil.mono (by omega)))
theorem Qly {K : Nat} {c : Zi} (h : Qo K c) (hK : K ≤ 1000000) : T (Zhj c) fun r => FL (4 * c.2.2.2.1.length + 6) r.1 := by
 have hl := h.str.len
 have cap : ∀ {n : Nat} {l k : List Zg}, FL n l → n + k.length ≤ 10000000 → l.length + k.length ≤ Qp := fun h hn => by have := h.1; unfold Qp; omega
 generalize hn : c.2.2.2.1.length = n at hl
 have j5 : ∀ o, FL (4 * n + 5) o → T (Wr c o) fun r => FL (4 * n + 6) r.1 := fun o ho => by
  unfold Wr
  exact T.if (T.guard (cap ho (by simp; omega)) (T.pure (ho.one (Qgt _ _ _ _)))) (T.pure (ho.mono (by omega)))
 have j4 : ∀ o, FL (4 * n + 4) o → T (Wq c o) fun r => FL (4 * n + 6) r.1 := fun o ho => by
  unfold Wq
  exact T.if (T.guard (cap ho (by simp; omega)) (j5 _ (ho.one (Qgt _ _ _ _)))) (j5 _ (ho.mono (by omega)))
 have lp : ∀ (N i : Nat) (o : List Zg), n - i < N → i ≤ n → FL (4 * i + 3) o → T (Ws N c o (i : Int)) fun r => FL (4 * n + 6) r.1 := by
  intro N
  induction N with
  | zero => intro i o h; omega
  | succ N ih =>
   intro i o hN hi ho
   unfold Ws
   refine T.ite (fun hc => ?_) fun hc => ?_
   ·have hc := of_decide_eq_true hc
    refine T.guard (by omega) ((Qv9 _ _).bind fun t ht => T.guard (cap ho (by have := ht.1; omega)) ?_)
    rw [Zs (m := n) (by omega) (by omega)]
    exact ih (i + 1) _ (by omega) (by omega) ((ho.app ht).mono (by omega))
   ·have hc := of_decide_eq_false hc
    have ho := ho.mono (m := 4 * n + 3) (by omega)
    exact (Qnz _).bind fun t _ => T.if (T.guard (cap ho (by simp; omega)) (j4 _ (ho.one (Qgt _ _ _ _)))) (j4 _ (ho.mono (by omega)))
 have j3 : ∀ o, FL 3 o → T (Wp c o) fun r => FL (4 * n + 6) r.1 := fun o ho => by
  unfold Wp
  exact lp _ 0 o (by unfold Zcp; omega) (by omega) ho
 have j2 : ∀ o, FL 2 o → T (Wo c o) fun r => FL (4 * n + 6) r.1 := fun o ho => by
  unfold Wo
  exact (Z8n _ _).bind fun t _ => T.if (T.guard (cap ho (by simp)) (j3 _ (ho.one (Qgt _ _ _ _)))) (j3 _ (ho.mono (by omega)))
 have j1 : ∀ o, FL 1 o → T (Wn c o) fun r => FL (4 * n + 6) r.1 := fun o ho => by
  unfold Wn
  exact (Z8n _ _).bind fun t _ => T.if (T.guard (cap ho (by simp)) (j2 _ (ho.one (Qgt _ _ _ _)))) (j2 _ (ho.mono (by omega)))
 unfold Zhj
 exact (Zqw h hK).bind fun t _ => T.if (T.pure (FL.nil.mono (by omega))) ((Qru c).bind fun t _ => T.if (T.guard (cap FL.nil (by simp)) (j1 _ (FL.nil.one (Qgt _ _ _ _)))) (j1 _ (FL.nil.mono (by omega))))
end Go.Proofs.YtahooemkbchdeaaGreatDoor

/- FnExactFormatLetters returns true for all arguments. No condition. -/
import Derived.Test.YtifcipnimblkpabDoorModExactFormatLetters
import Derived.KernelRfl
import Derived.Test.YtifcipnimblkpabDoorCards
import Derived.Test.YtifcipnimblkpabDoorTie
import Derived.ProofKit
import Derived.LaidMore
import Derived.OpenShut
import Derived.Stop.Joined
import Derived.SevenTiedAt
import Derived.Lib.LaidTab
import Derived.Stop.LaidErr
import Derived.LaidHandle
import Derived.Lib.ItoaLen
namespace Go.Proofs.YtifcipnimblkpabDoor
open Go.Am Go.ChangeShapes Go.WideShapes Go.ChangeAt Go.RowKit
set_option linter.unusedVariables false
/-! numbers as texts -/
theorem u8_ok (n : Int) (h0 : 0 ≤ n) (h1 : n < 256) : IntKind.u8.wrap n = n := by
  have : n % 2 ^ 8 = n := Int.emod_eq_of_lt h0 (by omega)
  simp only [IntKind.wrap, IntKind.bits, IntKind.signed, this]
  simp
def digs (u : Nat) : List UInt8 := if u = 0 then [] else Go.Lib.decDigits u
theorem digs_step {u : Nat} (h : u ≠ 0) : digs u = digs (u / 10) ++ [UInt8.ofNat (48 + u % 10)] := by
  unfold digs
  rw [if_neg h, Go.Lib.decDigits]
  by_cases h10 : u < 10
  · rw [dif_pos h10, if_pos (by omega), List.nil_append, Nat.mod_eq_of_lt h10]
  · rw [dif_neg h10, if_neg (by omega)]
theorem fmt_j1 {K1 : (Int × List UInt8 × Bool × Unit) → Option (List UInt8 × Unit)} {n : Int} {out : List UInt8} {neg : Bool} {d : Nat} (hd : d < 10) (hl : 1 + out.length ≤ capS) :
    spec_FormatInt_j1 K1 n out neg (d : Int) = K1 (IntKind.i64.wrap (Int.tdiv n 10), UInt8.ofNat (48 + d) :: out, neg, ()) := by
  unfold spec_FormatInt_j1
  have h1 : bytesOf [IntKind.u8.wrap (IntKind.i64.wrap ((48 : Int) + (d : Int)))] = [UInt8.ofNat (48 + d)] := by
    rw [i64_ok (by omega) (by omega), u8_ok _ (by omega) (by omega)]
    simp only [bytesOf, List.map_cons, List.map_nil]
    congr 2
  simp only [h1]
  rw [guardP_pos (by simpa using hl), guardP_pos (by decide)]
  rfl
theorem fmt_loop : ∀ (k u N : Nat) (n : Int) (out : List UInt8) (neg : Bool), u < 10 ^ k → k < N → u ≤ 9223372036854775808 → (n = (u : Int) ∨ n = -(u : Int)) → out.length + k ≤ 1000 → (n = 9223372036854775808 → False) →
    spec_FormatInt_l1 N n out neg = some ((bif neg then 45 :: (digs u ++ out) else digs u ++ out), ())
  | k, u, 0, n, out, neg, h1, h2, _, _, _, _ => by omega
  | k, u, N + 1, n, out, neg, h1, h2, h3, h4, h5, h6 => by
    unfold spec_FormatInt_l1
    by_cases hu : u = 0
    · have hn : n = 0 := by omega
      rw [bif_false (by simp [hn])]
      rw [guardP_pos (by simp only [capS, List.length_cons, List.length_nil]; omega)]
      have : digs u = [] := by rw [hu]; rfl
      rw [this]
      cases neg <;> rfl
    · have hn : n ≠ 0 := by omega
      rw [bif_true (by simp [hn]), guardP_pos (by decide)]
      cases k with
      | zero => simp at h1; omega
      | succ k =>
        have hd : u / 10 < 10 ^ k := by
          rw [Nat.pow_succ] at h1
          omega
        have hm : u % 10 < 10 := Nat.mod_lt _ (by decide)
        have hq : IntKind.i64.wrap (Int.tdiv n 10) = ((u / 10 : Nat) : Int) ∨ IntKind.i64.wrap (Int.tdiv n 10) = -((u / 10 : Nat) : Int) := by
          rcases h4 with rfl | rfl
          · left; rw [Int.tdiv_eq_ediv_of_nonneg (by omega), i64_ok (by omega) (by omega)]; omega
          · right; rw [Int.neg_tdiv, Int.tdiv_eq_ediv_of_nonneg (by omega), i64_ok (by omega) (by omega)]; omega
        have go : spec_FormatInt_j1 (fun v => spec_FormatInt_l1 N v.1 v.2.1 v.2.2.1) n out neg ((u % 10 : Nat) : Int) = some ((bif neg then 45 :: (digs u ++ out) else digs u ++ out), ()) := by
          rw [fmt_j1 hm (by simp only [capS]; omega)]
          show spec_FormatInt_l1 N (IntKind.i64.wrap (Int.tdiv n 10)) (UInt8.ofNat (48 + u % 10) :: out) neg = _
          rw [fmt_loop k (u / 10) N _ _ neg hd (by omega) (by omega) hq (by simp only [List.length_cons]; omega) (by intro h; rcases hq with hq | hq <;> omega)]
          rw [digs_step hu, List.append_assoc]
          rfl
        rcases h4 with rfl | rfl
        · have e : Int.tmod (u : Int) 10 = ((u % 10 : Nat) : Int) := by rw [Int.tmod_eq_emod_of_nonneg (by omega)]; omega
          rw [e, bif_false (dec_false (by omega))]
          exact go
        · have e : Int.tmod (-(u : Int)) 10 = -((u % 10 : Nat) : Int) := by rw [Int.neg_tmod, Int.tmod_eq_emod_of_nonneg (by omega)]; omega
          rw [e]
          by_cases hz : u % 10 = 0
          · rw [bif_false (dec_false (by omega))]
            have : -((u % 10 : Nat) : Int) = ((u % 10 : Nat) : Int) := by omega
            rw [this]; exact go
          · rw [bif_true (dec_true (by omega)), i64_ok (by omega) (by omega)]
            have : 0 - -((u % 10 : Nat) : Int) = ((u % 10 : Nat) : Int) := by omega
            rw [this]; exact go
theorem fmtInt (n : Int) (h0 : -9223372036854775808 ≤ n) (h1 : n ≤ 9223372036854775807) : spec_FormatInt n = some (Go.Lib.itoa n, ()) := by
  unfold spec_FormatInt
  by_cases hz : n = 0
  · rw [bif_true (by simp [hz]), hz]
    unfold Go.Lib.itoa
    rw [if_neg (by omega), Go.Lib.decDigits, dif_pos (by decide)]
    rfl
  · rw [bif_false (by simp [hz])]
    have hp : n.natAbs < 10 ^ 20 := by
      have : (9223372036854775809 : Nat) ≤ 10 ^ 20 := by decide
      omega
    rw [fmt_loop 20 n.natAbs _ n [] _ hp (by unfold spec_FormatInt_l1_fuel; omega) (by omega) (by omega) (by simp) (by omega)]
    unfold Go.Lib.itoa digs
    rw [if_neg (by omega), List.append_nil]
    by_cases hn : n < 0
    · rw [dec_true hn, if_pos hn]; rfl
    · rw [dec_false hn, if_neg hn]
      have : n.natAbs = n.toNat := by omega
      rw [this]; rfl
theorem itoa_len (n : Int) (h0 : -9223372036854775808 ≤ n) (h1 : n ≤ 9223372036854775807) : (Go.Lib.itoa n).length ≤ 21 := Go.Lib.itoa_length_le n h0 h1
theorem implInt (n : Int) (h0 : -9223372036854775808 ≤ n) (h1 : n ≤ 9223372036854775807) : impl_FormatInt n = some (Go.Lib.itoa n, ()) := by
  unfold impl_FormatInt strconv_Itoa
  rw [guardP_pos ⟨h0, h1⟩]
  rfl
/-! lists as texts -/
theorem lit_i64 {x : Int} (h : (Lit.int .i64 x).wf = true) : -9223372036854775808 ≤ x ∧ x ≤ 9223372036854775807 := by
  simp only [Lit.wf, Bool.and_eq_true, decide_eq_true_eq] at h
  exact h
theorem join_snoc (xs : List (List UInt8)) (y sep : List UInt8) (h : xs ≠ []) : Go.Lib.join (xs ++ [y]) sep = Go.Lib.join xs sep ++ sep ++ y := by
  cases xs with
  | nil => exact absurd rfl h
  | cons x r =>
    rw [List.cons_append, Go.Lib.join_cons, Go.Lib.join_cons]
    simp [Go.Lib.joinTail]
theorem join_len (sep : List UInt8) (K : Nat) : ∀ (xs : List (List UInt8)), (∀ x ∈ xs, x.length ≤ K) → (Go.Lib.join xs sep).length ≤ (K + sep.length) * xs.length
  | [], _ => by simp [Go.Lib.join_nil]
  | x :: r, h => by
    rw [Go.Lib.join_cons, List.length_append, Go.Lib.joinTail_length]
    have h1 : x.length ≤ K := h x (by simp)
    have h2 : Go.Lib.lens r ≤ K * r.length := by
      have hr : ∀ z ∈ r, z.length ≤ K := fun z hz => h z (by simp [hz])
      clear h
      induction r with
      | nil => simp [Go.Lib.lens]
      | cons z r ih =>
        have := ih fun q hq => hr q (by simp [hq])
        have hz := hr z (by simp)
        simp only [Go.Lib.lens, List.map_cons, List.sum_cons, List.length_cons] at this ⊢
        rw [Nat.mul_succ]; omega
    rw [List.length_cons, Nat.add_mul, Nat.mul_succ, Nat.mul_succ]
    omega
theorem take_snoc {α : Type} {d : α} {l : List α} {i : Nat} (h : i < l.length) : l.take (i + 1) = l.take i ++ [l.getD i d] := by
  rw [List.take_add_one, List.getElem?_eq_getElem h, List.getD_eq_getElem?_getD, List.getElem?_eq_getElem h]; rfl
theorem sep_loop {α : Type} {d : α} {txt : α → List UInt8} {sep : List UInt8} {ok : α → Prop} {K : Nat} (hK : ∀ x, ok x → (txt x).length ≤ K)
    {L : Nat → List α → List UInt8 → Int → Option (List UInt8 × Unit)} {fin : List UInt8 → Option (List UInt8 × Unit)}
    (hL : ∀ N l (s : List UInt8) (i : Nat), i < l.length → l.length ≤ 1048576 → ok (l.getD i d) → s.length ≤ (K + sep.length) * 1048576 →
      L (N + 1) l s (i : Int) = L N l ((if 0 < i then s ++ sep else s) ++ txt (l.getD i d)) ((i + 1 : Nat) : Int))
    (hE : ∀ N (l : List α) s, L (N + 1) l s (l.length : Int) = fin s) : ∀ (N : Nat) (l : List α) (s : List UInt8) (i : Nat), (∀ x ∈ l, ok x) → l.length ≤ 1048576 → i ≤ l.length → l.length - i < N →
      s = Go.Lib.join ((l.take i).map txt) sep → L N l s (i : Int) = fin (Go.Lib.join (l.map txt) sep)
  | 0, _, _, _, _, _, _, h, _ => by omega
  | N + 1, l, s, i, ho, hl, hi, hN, hs => by
    by_cases h : i < l.length
    · have hx : ok (l.getD i d) := by
        rw [List.getD_eq_getElem?_getD, List.getElem?_eq_getElem h]
        exact ho _ (List.getElem_mem h)
      have hb : s.length ≤ (K + sep.length) * 1048576 := by
        rw [hs]
        refine Nat.le_trans (join_len sep K _ ?_) (Nat.mul_le_mul_left _ ?_)
        · intro x hx
          obtain ⟨y, hy, rfl⟩ := List.mem_map.1 hx
          exact hK y (ho y (List.mem_of_mem_take hy))
        · rw [List.length_map, List.length_take]; omega
      rw [hL N l s i h hl hx hb]
      refine sep_loop hK hL hE N l _ (i + 1) ho hl h (by omega) ?_
      rw [take_snoc (d := d) h, List.map_append, List.map_cons, List.map_nil]
      by_cases h0 : 0 < i
      · rw [if_pos h0, hs, join_snoc]
        intro e
        have := congrArg List.length e
        rw [List.length_map, List.length_take, List.length_nil] at this
        omega
      · have : i = 0 := by omega
        subst this
        rw [if_neg h0, hs]
        simp [Go.Lib.join_one, Go.Lib.join_nil]
    · have : i = l.length := by omega
      subst this
      rw [hE, hs, List.take_length]
theorem push_loop {α β : Type} {d : α} {txt : α → β} {ok : α → Prop} {ρ : Type}
    {L : Nat → List β → List α → Int → Int → Option ρ} {fin : List β → Option ρ}
    (hL : ∀ N out (l : List α) (i : Nat), i < l.length → l.length ≤ 1048576 → ok (l.getD i d) → out.length ≤ i → L (N + 1) out l (l.length : Int) (i : Int) = L N (out ++ [txt (l.getD i d)]) l (l.length : Int) ((i + 1 : Nat) : Int))
    (hE : ∀ N out (l : List α), L (N + 1) out l (l.length : Int) (l.length : Int) = fin out) : ∀ (N : Nat) (l : List α) (out : List β) (i : Nat), (∀ x ∈ l, ok x) → l.length ≤ 1048576 → i ≤ l.length → l.length - i < N →
      out = (l.take i).map txt → L N out l (l.length : Int) (i : Int) = fin (l.map txt)
  | 0, _, _, _, _, _, _, h, _ => by omega
  | N + 1, l, out, i, ho, hl, hi, hN, hs => by
    by_cases h : i < l.length
    · have hx : ok (l.getD i d) := by
        rw [List.getD_eq_getElem?_getD, List.getElem?_eq_getElem h]
        exact ho _ (List.getElem_mem h)
      rw [hL N out l i h hl hx (by rw [hs, List.length_map, List.length_take]; omega)]
      refine push_loop hL hE N l _ (i + 1) ho hl h (by omega) ?_
      rw [take_snoc (d := d) h, List.map_append, List.map_cons, List.map_nil, hs]
    · have : i = l.length := by omega
      subst this
      rw [hE, hs, List.take_length]
theorem orNone_eq (s : List UInt8) : impl_orNone s = (bif s == ([] : List UInt8) then some (([110, 111, 110, 101] : List UInt8), ()) else some (s, ())) := by
  unfold impl_orNone impl_told
  cases h : s == ([] : List UInt8) <;> rfl
theorem sz_laws_szLetter (a : TLetter) (hw : wf (tyLetter) a) : SzOK (fun left => laws_szLetter a left) (small 1048576 (tyLetter) a) := by
  exact SzOK.imp (SzOK.len a.2.1 hw.2.1 SzOK.last) (fun h => ⟨trivial, ⟨h.1, trivial⟩⟩)

theorem sz_laws_szLetterS (a : List TLetter) (hw : wf (.slice 63 (tyLetter)) a) : SzOK (fun left => laws_szLetterS a left) (small 1048576 (.slice 63 (tyLetter)) a) := by
  exact SzOK.len a hw.1 (SzOK.loop (d := zLetter) (g := laws_szLetter) (L := laws_szLetterS_l1) (fun _ _ _ _ => rfl) (fuel := laws_szLetterS_l1_fuel) (fun a left => by unfold laws_szLetterS_l1_fuel; omega) hw.1 (fun x hx => sz_laws_szLetter x (hw.2 x hx)))

theorem to_laws_toLetter (a : TLetter) (h : small 1048576 (tyLetter) a) : laws_toLetter a = some (a, ()) := by
  rfl

theorem to_laws_toLetterS (a : List TLetter) (h : small 1048576 (.slice 63 (tyLetter)) a) : laws_toLetterS a = some (a, ()) := by
  unfold laws_toLetterS
  have hl := h.1
  simp only []
  rw [guardP_pos (by unfold capN; omega)]
  exact copy_loop_by (d := zLetter) (g := laws_toLetter) (ok := small 1048576 (tyLetter)) to_laws_toLetter (L := laws_toLetterS_l1) (fun _ _ _ _ => rfl) _ a _ 0 h.2 (by omega) (by simp) (by omega) (by simp) (by unfold laws_toLetterS_l1_fuel; omega)

theorem eq_laws_eqLetter (a : TLetter) (h : small 1048576 (tyLetter) a) : laws_eqLetter a a = some (true, ()) := by
  unfold laws_eqLetter
  simp only [bne_self_eq_false, beq_self_eq_true, Bool.not_true, cond_false]

theorem eq_laws_eqLetterS (a : List TLetter) (h : small 1048576 (.slice 64 (tyLetter)) a) : laws_eqLetterS a a = some (true, ()) := by
  unfold laws_eqLetterS
  have hl := h.1
  rw [bif_false (by simp)]
  exact eq_loop_in (d := zLetter) (g := laws_eqLetter) (L := laws_eqLetterS_l1) (fun _ _ _ _ => rfl) _ a 0 (fun x hx => eq_laws_eqLetter x (h.2 x hx)) (by omega) (by omega) (by unfold laws_eqLetterS_l1_fuel; omega)

def ltxt (x : TLetter) : List UInt8 := (Go.Lib.itoa x.1 ++ ([58] : List UInt8)) ++ Go.Lib.itoa (x.2.1.length : Int)
def lok (x : TLetter) : Prop := (-9223372036854775808 ≤ x.1 ∧ x.1 ≤ 9223372036854775807) ∧ x.2.1.length ≤ 1048576
theorem ltxt_len (x : TLetter) (h : lok x) : (ltxt x).length ≤ 43 := by
  have l1 := itoa_len x.1 h.1.1 h.1.2
  have l2 := itoa_len (x.2.1.length : Int) (by omega) (by have := h.2; omega)
  unfold ltxt
  simp only [List.length_append, List.length_cons, List.length_nil]; omega
def lfin (s : List UInt8) : Option (List UInt8 × Unit) := bif s == ([] : List UInt8) then some (([110, 111, 110, 101] : List UInt8), ()) else some (s, ())
theorem spec_letters (l : List TLetter) (ho : ∀ x ∈ l, lok x) (hl : l.length ≤ 1048576) : spec_FormatLetters l = lfin (Go.Lib.join (l.map ltxt) [32]) := by
  unfold spec_FormatLetters
  refine sep_loop (d := zLetter) (ok := lok) (K := 43) ltxt_len (L := spec_FormatLetters_l1) (fin := lfin) ?_ ?_ _ l [] 0 ho hl (by omega) (by unfold spec_FormatLetters_l1_fuel; omega) (by simp [Go.Lib.join_nil])
  · intro N l s i h hl hx hs
    have hs : s.length ≤ 46137344 := hs
    have f1 := fmtInt (l.getD i zLetter).1 hx.1.1 hx.1.2
    have l1 := itoa_len (l.getD i zLetter).1 hx.1.1 hx.1.2
    have f2 := fmtInt ((l.getD i zLetter).2.1.length : Int) (by omega) (by have := hx.2; omega)
    have l2 := itoa_len ((l.getD i zLetter).2.1.length : Int) (by omega) (by have := hx.2; omega)
    conv => lhs; unfold spec_FormatLetters_l1 spec_FormatLetters_j1
    rw [bif_true (dec_true (by omega))]
    have e : (i : Int).toNat = i := rfl
    have key : ∀ s' : List UInt8, s'.length ≤ 46137345 → (guardP (0 ≤ (i : Int) ∧ (i : Int) < l.length) <| guardP (0 ≤ (i : Int) ∧ (i : Int) < l.length) <|
        Option.bind (spec_FormatInt (l.getD (i : Int).toNat zLetter).1) fun t21 =>
        guardP (s'.length + t21.1.length ≤ capS) <| guardP ((s' ++ t21.1).length + ([58] : List UInt8).length ≤ capS) <|
        Option.bind (spec_FormatInt ((l.getD (i : Int).toNat zLetter).2.1.length : Int)) fun t30 =>
        guardP (((s' ++ t21.1) ++ ([58] : List UInt8)).length + t30.1.length ≤ capS) <|
        spec_FormatLetters_l1 N l (((s' ++ t21.1) ++ ([58] : List UInt8)) ++ t30.1) (IntKind.i64.wrap ((i : Int) + (1 : Int)))) = spec_FormatLetters_l1 N l (s' ++ ltxt (l.getD i zLetter)) ((i + 1 : Nat) : Int) := by
      intro s' hs'
      rw [e, guardP_pos (by omega), guardP_pos (by omega), f1]
      simp only [Option.bind_some]
      rw [guardP_pos (by simp only [capS]; omega), guardP_pos (by simp only [List.length_append, List.length_cons, List.length_nil, capS]; omega), f2]
      simp only [Option.bind_some]
      rw [guardP_pos (by simp only [List.length_append, List.length_cons, List.length_nil, capS]; omega), i64_succ h (by omega)]
      unfold ltxt
      simp only [List.append_assoc]
    by_cases h0 : 0 < i
    · rw [bif_true (dec_true (by omega)), guardP_pos (by simp only [List.length_cons, List.length_nil, capS]; omega), if_pos h0]
      exact key (s ++ [32]) (by simp only [List.length_append, List.length_cons, List.length_nil]; omega)
    · rw [bif_false (dec_false (by omega)), if_neg h0]
      exact key s (by omega)
  · intro N l s
    unfold spec_FormatLetters_l1
    rw [bif_false (dec_false (by omega))]
    rfl
theorem impl_letters (l : List TLetter) (ho : ∀ x ∈ l, lok x) (hl : l.length ≤ 1048576) : impl_FormatLetters l = lfin (Go.Lib.join (l.map ltxt) [32]) := by
  unfold impl_FormatLetters
  have hj : (Go.Lib.join (l.map ltxt) [32]).length ≤ 46137344 := by
    refine Nat.le_trans (join_len [32] 43 _ fun x hx => ?_) ?_
    · obtain ⟨y, hy, rfl⟩ := List.mem_map.1 hx
      exact ltxt_len y (ho y hy)
    · rw [List.length_map, List.length_cons, List.length_nil]; omega
  refine Eq.trans (push_loop (d := zLetter) (ok := lok) (txt := ltxt) (L := impl_FormatLetters_l1) (fin := fun out => Option.bind (strings_Join out ([32] : List UInt8)) fun t27 => Option.bind (impl_orNone t27.1) fun t28 => some (t28.1, ())) ?_ ?_ _ l [] 0 ho hl (by omega) (by unfold impl_FormatLetters_l1_fuel; omega) (by simp)) ?_
  rotate_left 2
  · show Option.bind (strings_Join (l.map ltxt) [32]) _ = _
    unfold strings_Join
    rw [guardP_pos ⟨by rw [List.length_map]; omega, by omega⟩]
    simp only [Option.bind_some, orNone_eq]
    unfold lfin
    cases Go.Lib.join (l.map ltxt) [32] == [] <;> rfl
  · intro N out l i h hl hx hout
    have f1 := implInt (l.getD i zLetter).1 hx.1.1 hx.1.2
    have l1 := itoa_len (l.getD i zLetter).1 hx.1.1 hx.1.2
    have f2 := implInt ((l.getD i zLetter).2.1.length : Int) (by omega) (by have := hx.2; omega)
    have l2 := itoa_len ((l.getD i zLetter).2.1.length : Int) (by omega) (by have := hx.2; omega)
    conv => lhs; unfold impl_FormatLetters_l1
    have e : (i : Int).toNat = i := rfl
    rw [bif_true (dec_true (by omega)), guardP_pos (by omega), e, f1]
    simp only [Option.bind_some]
    rw [guardP_pos (by simp only [List.length_cons, List.length_nil, capS]; omega), f2]
    simp only [Option.bind_some]
    rw [guardP_pos (by simp only [List.length_append, List.length_cons, List.length_nil, capS]; omega), guardP_pos (by simp only [List.length_cons, List.length_nil, capN]; omega), i64_succ h (by omega)]
    rfl
  · intro N out l
    unfold impl_FormatLetters_l1
    rw [bif_false (dec_false (by omega))]
theorem law_true : ∀ xs : dens [.slice 63 tyLetter], wfA [.slice 63 tyLetter] xs → laws_FnExactFormatLetters xs.1 = some (true, ()) := by
  intro ⟨l, _⟩ ⟨hw, _⟩
  obtain ⟨r, hr, _, hs⟩ := sz_laws_szLetterS l hw 1048576 (by omega) (by omega)
  unfold laws_FnExactFormatLetters
  simp only [hr, Option.bind_some]
  by_cases h0 : r < 0
  · rw [bif_true (dec_true h0)]
  · rw [bif_false (dec_false h0)]
    have hs := hs (by omega)
    have ho : ∀ x ∈ l, lok x := fun x hx => ⟨lit_i64 (hw.2 x hx).1, (hs.2 x hx).2.1⟩
    have e := to_laws_toLetterS l hs
    have e2 := eq_laws_eqLetterS l hs
    simp only [e, Option.bind_some, spec_letters l ho hs.1, impl_letters l ho hs.1]
    unfold lfin
    cases Go.Lib.join (l.map ltxt) [32] == [] <;> simp [e2]

theorem fnExactFormatLetters_own : ownKnob Tryd.prog.godebug = none := by kernel_rfl
theorem fnExactFormatLetters_door (os : Os) (args : Array Value) : laidMetH Tryd.prog Rows.fnExactFormatLettersRow.laid ((World.doorLaid Tryd.prog 400 os).forCall (fun _ _ => 0) ⟨#[], args, []⟩).memory :=
  laidMetH_of_parts3 (fuel := 8) (laidMet_of_run' 8 (by kernel_rfl) (by kernel_rfl)) (by kernel_rfl) (by kernel_rfl)
theorem fnExactFormatLetters_tab {W : World} (h : laidMetH Tryd.prog Rows.fnExactFormatLettersRow.laid W) : glob.G W := by
  rw [MakeChecks.laidMetH_plain _ _ _ (by kernel_rfl)] at h
  have ht : Go.Lib.TabIs Tryd.prog W "internal/strconv.uint64pow10" .u64 Go.Lib.pow10Tab :=
    Go.Lib.tabIs_of_head (g := 2) (t := 115) (e := 108) (n := 20) (by kernel_rfl) (by kernel_rfl) (by kernel_rfl) (by kernel_rfl) (by kernel_rfl) (by kernel_rfl) (show laidMet Tryd.prog [("internal/strconv.uint64pow10", Go.Lib.tabData .u64 Go.Lib.pow10Tab)] W from h.tail.tail)
  intro p hp
  simp only [List.mem_singleton] at hp
  subst hp
  exact ht
set_option maxRecDepth 100000 in
theorem fnExactFormatLetters_lifted (os : Os) (started : os.Started) (H : Type) (enc : TypeId × Value → H) :
    ReturnsInHanded {} Tryd.checked os 4 .any (fun w args => (Rows.fnExactFormatLettersSpec.pre enc Tryd.prog Tryd.f4 [] false w args ∧ laidMetH Tryd.prog Rows.fnExactFormatLettersRow.laid w) ∧ sizedMet enc Tryd.prog Tryd.f4 (OpenSpec.ofChange Rows.fnExactFormatLettersSpec) false w args)
      (Rows.fnExactFormatLettersSpec.post enc Tryd.prog Tryd.f4 false true false false) := by
  refine returnsInHanded_of_change_and (C := Tryd.checked) (X := fun w _ => laidMetH Tryd.prog Rows.fnExactFormatLettersRow.laid w) (fun _ _ _ hh h => h.of_heap hh) fnExactFormatLetters_own started (by kernel_rfl) Tryd.func4
    (ChangeSpec.witness_shaped (enc := enc) (C := Tryd.checked) (os := os) (X := fun w _ => laidMetH Tryd.prog Rows.fnExactFormatLettersRow.laid w) false (World.doorLaid Tryd.prog 400 os) #[.slice none 0 0] 8 rfl (World.shaped_of_RefB (by kernel_rfl) (by kernel_rfl)) (by kernel_rfl) (by kernel_rfl) (by kernel_rfl) (fnExactFormatLetters_door os _)) ?_
  intro W base args ds gs before hval hW _ _ hL _
  exact law_contract ok_laws_FnExactFormatLetters law_true rfl (fun H ds h => by
    match ds, h with
    | [d0], _ => rfl) (by kernel_rfl) (by kernel_rfl) rfl Tryd.underlying4 W base args ds gs before hval (fnExactFormatLetters_tab hL) hW
theorem fnExactFormatLetters_said : Rows.FnExactFormatLettersSaid :=
  OpenClaim.holds_of_wide 4 Tryd.f4 rfl rfl rfl rfl rfl rfl rfl ⟨rfl, rfl, rfl, rfl, rfl⟩ rfl rfl rfl rfl rfl (by kernel_rfl) Tryd.func4 (by kernel_rfl)
    (of_decide_eq_true (by kernel_rfl)) (by unfold Func.isWrapper; first | (rw [if_pos (by decide +kernel)]; kernel_rfl) | (rw [if_neg (by decide +kernel)]; exact ⟨rfl, rfl⟩))
    (fun os started H enc _ => fnExactFormatLetters_lifted os started H enc)
/-- The law returns true for all arguments; the tables that the program text lays are tied. -/
theorem fnExactFormatLetters_proved : Rows.FnExactFormatLettersCardSaid :=
  Claim7.holds_tied_plain_at .later [] Rows.fnExactFormatLettersCard.laidKinds true Rows.fnExactFormatLettersCard.stood.harness false
    fnExactFormatLetters_said (fun _ h => by cases h) (by kernel_rfl) (fun _ h => by cases h) fnExactFormatLetters_row_tie rfl ⟨rfl, rfl⟩ (by kernel_rfl) rfl
    (fun f fn hf hfn => by
      obtain rfl : f = 4 := Option.some.inj ((show Tryd.prog.funcNamed Rows.fnExactFormatLettersRow.func = some 4 by kernel_rfl).symm.trans hf) |>.symm
      obtain rfl : fn = Tryd.f4 := (Option.some.inj (Tryd.func4.symm.trans hfn)).symm
      exact ⟨by kernel_rfl, fun j t ht => by
        rw [Tryd.params4] at ht
        have hm : t ∈ [29] := by simpa using Array.mem_of_getElem? ht
        have hall : ([29].all fun u => !Tryd.prog.wantsStandIn u) = true := by kernel_rfl
        exact (show Tryd.prog.wantsStandIn t = false by simpa using List.all_eq_true.1 hall t hm)⟩)
    (by kernel_rfl)
#print axioms fnExactFormatLetters_proved
end Go.Proofs.YtifcipnimblkpabDoor

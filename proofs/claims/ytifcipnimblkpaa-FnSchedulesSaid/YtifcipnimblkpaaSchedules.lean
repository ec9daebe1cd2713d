/- FnSchedules returns true for all arguments. No condition. -/
import Derived.Test.YtifcipnimblkpaaModSchedules
import Derived.KernelRfl
namespace Go.Proofs.Ytifcipnimblkpaa
open Go.Am Go.ChangeShapes Go.WideShapes Go.ChangeAt Go.RowKit
set_option linter.unusedVariables false
/-! the draws' cursor: it never fails -/
theorem bits255 (x : Int) : 0 ≤ bits .and .i64 x 255 ∧ bits .and .i64 x 255 ≤ 255 := by
  have h : bits .and .i64 x 255 = IntKind.i64.wrap (((BitVec.ofInt 64 x &&& BitVec.ofInt 64 255).toNat : Nat) : Int) := rfl
  rw [h, BitVec.toNat_and]
  have h2 : (BitVec.ofInt 64 255).toNat = 255 := by decide
  rw [h2]
  have h3 : (BitVec.ofInt 64 x).toNat &&& 255 ≤ 255 := Nat.and_le_right
  rw [i64_ok (by omega) (by omega)]
  omega
def CurOK (c : Tl1Cur) : Prop := c.1.length ≤ 1048576 ∧ 0 ≤ c.2.1 ∧ c.2.1 ≤ c.1.length
theorem cur_new (code : List Int) (h : code.length ≤ 1048576) : ∃ c, spec_l1New code = some (c, ()) ∧ CurOK c := by
  have loop : ∀ (N : Nat) (x : Int) (i : Nat), i ≤ code.length → code.length - i < N → ∃ c, spec_l1New_l1 N code x (i : Int) = some (c, ()) ∧ CurOK c := by
    intro N
    induction N with
    | zero => intro x i _ h; omega
    | succ N ih =>
      intro x i hi hN
      unfold spec_l1New_l1
      by_cases hl : i < code.length ∧ i < 4000
      · rw [bif_true (by simp; omega), guardP_pos (by omega), i64_succ hl.1 (by omega)]
        exact ih _ (i + 1) (by omega) (by omega)
      · rw [bif_false (by simp; omega)]
        exact ⟨_, rfl, h, Int.le_refl 0, by simp⟩
  unfold spec_l1New
  exact loop _ _ 0 (by omega) (by unfold spec_l1New_l1_fuel; omega)
theorem cur_byte (c : Tl1Cur) (h : CurOK c) : ∃ x c', spec_l1Byte c = some ((x, ()), (c', ())) ∧ CurOK c' ∧ 0 ≤ x ∧ x ≤ 255 := by
  obtain ⟨h1, h2, h3⟩ := h
  unfold spec_l1Byte
  simp only []
  rw [guardP_pos (by decide), guardP_pos (by decide)]
  by_cases hl : c.2.1 < (c.1.length : Int)
  · rw [bif_true (dec_true hl), guardP_pos ⟨h2, hl⟩, i64_ok (n := c.2.1 + 1) (by omega) (by omega)]
    exact ⟨_, _, rfl, ⟨h1, by show 0 ≤ c.2.1 + 1; omega, by show c.2.1 + 1 ≤ (c.1.length : Int); omega⟩, bits255 _⟩
  · rw [bif_false (dec_false hl)]
    exact ⟨_, _, rfl, ⟨h1, h2, h3⟩, bits255 _⟩
theorem cur_below (c : Tl1Cur) (n : Int) (h : CurOK c) : ∃ x c', spec_l1Below c n = some ((x, ()), (c', ())) ∧ CurOK c' ∧ 0 ≤ x ∧ (0 < n → x < n) := by
  unfold spec_l1Below
  by_cases h0 : n ≤ 0
  · rw [bif_true (dec_true h0)]
    exact ⟨_, _, rfl, h, Int.le_refl 0, fun hn => by omega⟩
  · rw [bif_false (dec_false h0)]
    by_cases h1 : n ≤ 256
    · rw [bif_true (dec_true h1)]
      obtain ⟨x, c1, e1, k1, b1, b2⟩ := cur_byte c h
      rw [e1, Option.bind_some, guardP_pos (by omega)]
      exact ⟨_, _, rfl, k1, Int.tmod_nonneg n b1, fun hn => Int.tmod_lt_of_pos x hn⟩
    · rw [bif_false (dec_false h1)]
      obtain ⟨x, c1, e1, k1, b1, b2⟩ := cur_byte c h
      obtain ⟨y, c2, e2, k2, b3, b4⟩ := cur_byte c1 k1
      obtain ⟨z, c3, e3, k3, b5, b6⟩ := cur_byte c2 k2
      obtain ⟨u, c4, e4, k4, b7, b8⟩ := cur_byte c3 k3
      rw [e1, Option.bind_some, e2, Option.bind_some, e3, Option.bind_some, e4, Option.bind_some, guardP_pos (by omega)]
      simp only []
      rw [i64_ok (n := x * 16777216) (by omega) (by omega), i64_ok (n := y * 65536) (by omega) (by omega), i64_ok (n := x * 16777216 + y * 65536) (by omega) (by omega), i64_ok (n := z * 256) (by omega) (by omega), i64_ok (n := x * 16777216 + y * 65536 + z * 256) (by omega) (by omega), i64_ok (n := x * 16777216 + y * 65536 + z * 256 + u) (by omega) (by omega)]
      exact ⟨_, _, rfl, k4, Int.tmod_nonneg n (by omega), fun hn => Int.tmod_lt_of_pos _ hn⟩
theorem cur_pick (c : Tl1Cur) (l : List Int) (h : CurOK c) (hl : 0 < l.length) : ∃ x c', spec_l1PickInt c l = some ((x, ()), (c', ())) ∧ CurOK c' ∧ x ∈ l := by
  unfold spec_l1PickInt
  obtain ⟨x, c1, e1, k1, b1, b2⟩ := cur_below c (l.length : Int) h
  have b2 := b2 (by omega)
  rw [e1, Option.bind_some]
  simp only []
  rw [guardP_pos ⟨b1, b2⟩]
  refine ⟨_, _, rfl, k1, ?_⟩
  have hx : x.toNat < l.length := by omega
  rw [List.getD_eq_getElem?_getD, List.getElem?_eq_getElem hx]
  exact List.getElem_mem hx
theorem bifS {α : Type} {c : Bool} {x y : α} : (bif c then some x else some y) = some (bif c then x else y) := by cases c <;> rfl
theorem bifF {α β : Type} {c : Bool} {x y : α × β} : (bif c then x else y).1 = bif c then x.1 else y.1 := by cases c <;> rfl
/-! lists of candidates -/
theorem getD_mid {α : Type} (d : α) (pre : List α) (x : α) (rest : List α) : (pre ++ x :: rest).getD ((pre.length : Int).toNat) d = x := by
  rw [show (pre.length : Int).toNat = pre.length from rfl, List.getD_eq_getElem?_getD, List.getElem?_append_right (Nat.le_refl _)]
  simp
theorem app1 {α : Type} (pre : List α) (x : α) (rest : List α) : pre ++ x :: rest = (pre ++ [x]) ++ rest := by simp
theorem len1 {α : Type} (pre : List α) (x : α) : ((pre.length : Nat) : Int) + 1 = (((pre ++ [x]).length : Nat) : Int) := by simp
theorem step_i {α : Type} (pre : List α) (x : α) (rest : List α) (h : (pre ++ x :: rest).length ≤ 100000) : IntKind.i64.wrap ((pre.length : Int) + 1) = (((pre ++ [x]).length : Nat) : Int) := by
  rw [i64_ok (by omega) (by simp at h; omega)]; simp
theorem inb {α : Type} (pre : List α) (x : α) (rest : List α) : 0 ≤ (pre.length : Int) ∧ (pre.length : Int) < ((pre ++ x :: rest).length : Int) := by simp; omega
theorem lt_true {α : Type} (pre : List α) (x : α) (rest : List α) : decide ((pre.length : Int) < ((pre ++ x :: rest).length : Int)) = true := dec_true (inb pre x rest).2
theorem lt_false {α : Type} (pre : List α) : decide ((pre.length : Int) < ((pre ++ ([] : List α)).length : Int)) = false := dec_false (by simp)

def vC (x : TCandidate) : Bool := (decide (0 ≤ x.1) && decide (x.1 ≤ 4611686018427387903)) && (decide (0 ≤ x.2.1.1) && decide (x.2.1.1 ≤ 7))
def acF : Option Int → List TCandidate → Bool
  | _, [] => true
  | p, x :: r => vC x && (match p with | none => true | some q => decide (q < x.1)) && acF (some x.1) r
abbrev ac (l : List TCandidate) : Bool := acF none l
theorem acF_cons (p : Option Int) (x : TCandidate) (r : List TCandidate) : acF p (x :: r) = (vC x && (match p with | none => true | some q => decide (q < x.1)) && acF (some x.1) r) := by cases p <;> rfl
def prevOf (pre : List TCandidate) : Option Int := pre.getLast?.map (·.1)
theorem prev_snoc (pre : List TCandidate) (x : TCandidate) : prevOf (pre ++ [x]) = some x.1 := by simp [prevOf]
theorem prev_get (pre : List TCandidate) (x : TCandidate) (rest : List TCandidate) (h : 0 < pre.length) (hl : pre.length ≤ 100000) : 0 ≤ IntKind.i64.wrap ((pre.length : Int) - 1) ∧ IntKind.i64.wrap ((pre.length : Int) - 1) < ((pre ++ x :: rest).length : Int) ∧
    prevOf pre = some ((pre ++ x :: rest).getD (IntKind.i64.wrap ((pre.length : Int) - 1)).toNat zCandidate).1 := by
  rw [i64_ok (by omega) (by omega)]
  refine ⟨by omega, by simp; omega, ?_⟩
  have e : ((pre.length : Int) - 1).toNat = pre.length - 1 := by omega
  rw [e, List.getD_eq_getElem?_getD, List.getElem?_append_left (by omega)]
  unfold prevOf
  rw [List.getLast?_eq_getElem?]
  cases hx : pre[pre.length - 1]? with
  | none => rw [List.getElem?_eq_none_iff] at hx; omega
  | some y => rfl
theorem spec_ac : ∀ (N : Nat) (pre rest : List TCandidate), (pre ++ rest).length ≤ 100000 → rest.length < N → spec_AreCandidates_l1 N (pre ++ rest) (pre.length : Int) = some (acF (prevOf pre) rest, ())
  | 0, _, _, _, h => by omega
  | N + 1, pre, [], hl, hN => by
    unfold spec_AreCandidates_l1
    rw [bif_false (lt_false pre)]
    rfl
  | N + 1, pre, x :: rest, hl, hN => by
    have hp : pre.length ≤ 100000 := by simp at hl; omega
    unfold spec_AreCandidates_l1 spec_l4Quic spec_IsPriority spec_l1In
    rw [bif_true (lt_true pre x rest), guardP_pos (inb pre x rest)]
    simp only [getD_mid, Option.bind_some]
    rw [guardP_pos (fun _ => inb pre x rest)]
    have ih := spec_ac N (pre ++ [x]) rest (by simpa using hl) (by simp at hN; omega)
    rw [← app1, prev_snoc] at ih
    simp only [bifS, bifF, Option.bind_some]
    by_cases h0 : 0 < pre.length
    · obtain ⟨g1, g2, g3⟩ := prev_get pre x rest h0 hp
      by_cases hv : vC x = true
      · have hv' := hv
        simp only [vC, Bool.and_eq_true, decide_eq_true_eq] at hv'
        simp only [ge_iff_le, hv'.1.1, hv'.1.2, hv'.2.1, hv'.2.2, decide_true, Bool.and_self, Bool.not_true, cond_false, Bool.or_self, Bool.false_or]
        rw [guardP_pos (fun _ _ => inb pre x rest), guardP_pos (fun _ _ => ⟨g1, g2⟩)]
        rw [dec_true (show (pre.length : Int) > 0 by omega), Bool.true_and]
        have hd : decide (x.1 ≤ ((pre ++ x :: rest).getD (IntKind.i64.wrap ((pre.length : Int) - 1)).toNat zCandidate).1) = !(decide (((pre ++ x :: rest).getD (IntKind.i64.wrap ((pre.length : Int) - 1)).toNat zCandidate).1 < x.1)) := by
          rw [Bool.eq_iff_iff]; simp
        rw [hd, acF_cons, g3, hv, step_i pre x rest hl, ih]
        generalize ((pre ++ x :: rest).getD (IntKind.i64.wrap ((pre.length : Int) - 1)).toNat zCandidate).1 = y
        by_cases hy : y < x.1 <;> simp [hy]
      · have hv2 : vC x = false := by simpa using hv
        have hv3 : ((!((decide (x.1 ≥ 0)) && (decide (x.1 ≤ 4611686018427387903)))) || (!(bif !((decide (x.1 ≥ 0)) && (decide (x.1 ≤ 4611686018427387903))) then false else ((decide (x.2.1.1 ≥ 0)) && (decide (x.2.1.1 ≤ 7)))))) = true := by
          simp only [vC, ge_iff_le] at hv2 ⊢
          revert hv2
          cases (decide (0 ≤ x.1) && decide (x.1 ≤ 4611686018427387903)) <;> cases (decide (0 ≤ x.2.1.1) && decide (x.2.1.1 ≤ 7)) <;> simp
        rw [guardP_pos (fun h => by rw [hv3] at h; cases h), guardP_pos (fun h => by rw [hv3] at h; cases h), hv3, Bool.true_or, bif_true rfl, acF_cons, hv2]
        simp
    · have hpe : pre = [] := List.eq_nil_of_length_eq_zero (by omega)
      subst hpe
      rw [guardP_pos (fun _ h => by simp at h), guardP_pos (fun _ h => by simp at h)]
      have hd0 : decide (((([] : List TCandidate).length : Nat) : Int) > 0) = false := dec_false (by simp)
      rw [hd0, Bool.false_and, Bool.or_false]
      have hv3 : ((!((decide (x.1 ≥ 0)) && (decide (x.1 ≤ 4611686018427387903)))) || (!(bif !((decide (x.1 ≥ 0)) && (decide (x.1 ≤ 4611686018427387903))) then false else ((decide (x.2.1.1 ≥ 0)) && (decide (x.2.1.1 ≤ 7)))))) = !vC x := by
        simp only [vC, ge_iff_le]
        cases (decide (0 ≤ x.1) && decide (x.1 ≤ 4611686018427387903)) <;> cases (decide (0 ≤ x.2.1.1) && decide (x.2.1.1 ≤ 7)) <;> simp
      rw [hv3, step_i [] x rest hl]
      rw [ih, acF_cons]
      cases hv : vC x
      · simp
      · simp [prevOf]
theorem impl_ac : ∀ (N : Nat) (pre rest : List TCandidate), (pre ++ rest).length ≤ 100000 → rest.length < N → impl_AreCandidates_l1 N (pre ++ rest) (pre ++ rest) ((pre ++ rest).length : Int) (pre.length : Int) = some (acF (prevOf pre) rest, ())
  | 0, _, _, _, h => by omega
  | N + 1, pre, [], hl, hN => by
    unfold impl_AreCandidates_l1
    rw [bif_false (lt_false pre)]
    rfl
  | N + 1, pre, x :: rest, hl, hN => by
    have hp : pre.length ≤ 100000 := by simp at hl; omega
    unfold impl_AreCandidates_l1 impl_isQuic impl_IsPriority impl_within
    rw [bif_true (lt_true pre x rest), guardP_pos (inb pre x rest)]
    simp only [getD_mid, Option.bind_some]
    have ih := impl_ac N (pre ++ [x]) rest (by simpa using hl) (by simp at hN; omega)
    rw [← app1, prev_snoc] at ih
    simp only [bifS, bifF, Option.bind_some]
    have hv3 : ((!((decide (0 ≤ x.1)) && (decide (x.1 ≤ 4611686018427387903)))) || (!(bif !((decide (0 ≤ x.1)) && (decide (x.1 ≤ 4611686018427387903))) then false else ((decide (0 ≤ x.2.1.1)) && (decide (x.2.1.1 ≤ 7)))))) = !vC x := by
      simp only [vC]
      cases (decide (0 ≤ x.1) && decide (x.1 ≤ 4611686018427387903)) <;> cases (decide (0 ≤ x.2.1.1) && decide (x.2.1.1 ≤ 7)) <;> simp
    simp only [hv3]
    by_cases h0 : 0 < pre.length
    · obtain ⟨g1, g2, g3⟩ := prev_get pre x rest h0 hp
      rw [guardP_pos (fun _ _ => ⟨g1, g2⟩), dec_true (show (pre.length : Int) > 0 by omega), Bool.true_and]
      have hd : decide (((pre ++ x :: rest).getD (IntKind.i64.wrap ((pre.length : Int) - 1)).toNat zCandidate).1 ≥ x.1) = !(decide (((pre ++ x :: rest).getD (IntKind.i64.wrap ((pre.length : Int) - 1)).toNat zCandidate).1 < x.1)) := by
        rw [Bool.eq_iff_iff]; simp
      rw [hd, acF_cons, g3, step_i pre x rest hl, ih]
      generalize ((pre ++ x :: rest).getD (IntKind.i64.wrap ((pre.length : Int) - 1)).toNat zCandidate).1 = y
      cases vC x <;> by_cases hy : y < x.1 <;> simp [hy]
    · have hpe : pre = [] := List.eq_nil_of_length_eq_zero (by omega)
      subst hpe
      rw [guardP_pos (fun _ h => by simp at h)]
      have hd0 : decide (((([] : List TCandidate).length : Nat) : Int) > 0) = false := dec_false (by simp)
      rw [hd0, Bool.false_and, Bool.or_false, step_i [] x rest hl, ih, acF_cons]
      cases hv : vC x
      · simp
      · simp [prevOf]
theorem spec_are (l : List TCandidate) (h : l.length ≤ 100000) : spec_AreCandidates l = some (ac l, ()) := by
  have := spec_ac (spec_AreCandidates_l1_fuel l 0) [] l (by simpa using h) (by unfold spec_AreCandidates_l1_fuel; omega)
  simpa [spec_AreCandidates, prevOf] using this
theorem impl_are (l : List TCandidate) (h : l.length ≤ 100000) : impl_AreCandidates l = some (ac l, ()) := by
  have := impl_ac (impl_AreCandidates_l1_fuel l l (l.length : Int) 0) [] l (by simpa using h) (by unfold impl_AreCandidates_l1_fuel; omega)
  simpa [impl_AreCandidates, prevOf] using this
/-- what a list of candidates says of its members -/
theorem ac_facts : ∀ (l : List TCandidate) (p : Option Int), acF p l = true → (∀ x, x ∈ l → 0 ≤ x.1 ∧ 0 ≤ x.2.1.1 ∧ x.2.1.1 ≤ 7 ∧ ∀ q, p = some q → q < x.1) ∧ l.Pairwise (fun a b => a.1 < b.1)
  | [], _, _ => ⟨by simp, List.Pairwise.nil⟩
  | x :: r, p, h => by
    simp only [acF, Bool.and_eq_true] at h
    obtain ⟨⟨h1, h2⟩, h3⟩ := h
    obtain ⟨k1, k2⟩ := ac_facts r (some x.1) h3
    simp only [vC, Bool.and_eq_true, decide_eq_true_eq] at h1
    refine ⟨fun y hy => ?_, List.Pairwise.cons (fun y hy => (k1 y hy).2.2.2 _ rfl) k2⟩
    rcases List.mem_cons.1 hy with rfl | hy
    · refine ⟨h1.1.1, h1.2.1, h1.2.2, fun q hq => ?_⟩
      subst hq; simpa using h2
    · obtain ⟨g1, g2, g3, g4⟩ := k1 y hy
      refine ⟨g1, g2, g3, fun q hq => ?_⟩
      subst hq
      have := g4 _ rfl
      have h2 : q < x.1 := by simpa using h2
      omega
theorem ac_filter (f : TCandidate → Bool) : ∀ (l : List TCandidate) (p : Option Int), acF p l = true → acF p (l.filter f) = true
  | [], _, _ => rfl
  | x :: r, p, h => by
    simp only [acF, Bool.and_eq_true] at h
    obtain ⟨⟨h1, h2⟩, h3⟩ := h
    have ih := ac_filter f r (some x.1) h3
    simp only [List.filter_cons]
    split
    · simp only [acF, Bool.and_eq_true]; exact ⟨⟨h1, h2⟩, ih⟩
    · -- x is left out: what follows is above p as well
      have weak : ∀ (l : List TCandidate) (a : Int) (p : Option Int), (∀ q, p = some q → q ≤ a) → acF (some a) l = true → acF p l = true := by
        intro l a p hp hl
        cases l with
        | nil => rfl
        | cons y l =>
          simp only [acF, Bool.and_eq_true, decide_eq_true_eq] at hl ⊢
          refine ⟨⟨hl.1.1, ?_⟩, hl.2⟩
          cases p with
          | none => rfl
          | some q => have := hp q rfl; have := hl.1.2; simp; omega
      refine weak _ x.1 p (fun q hq => ?_) ih
      subst hq
      have h2 : q < x.1 := by simpa using h2
      omega
def lst (b : Int) (l : List TCandidate) : Int := l.foldl (fun b x => min b x.2.1.1) b
def isU (b : Int) (x : TCandidate) : Bool := x.2.1.1 == b
abbrev urg (l : List TCandidate) : List TCandidate := l.filter (isU (lst 7 l))
abbrev ids (l : List TCandidate) : List Int := l.map (fun x => x.1)
def after (L : List Int) (last : Int) : Int := match L.find? (fun x => decide (x > last)) with | some x => x | none => L.headD (-1)
theorem urgent2 (b : Int) : ∀ (N : Nat) (out pre rest : List TCandidate), (pre ++ rest).length ≤ 100000 → out.length + rest.length ≤ 100000 → rest.length < N →
    impl_urgent_l2 N b out (pre ++ rest) ((pre ++ rest).length : Int) (pre.length : Int) = some (out ++ rest.filter (isU b), ())
  | 0, _, _, _, _, _, h => by omega
  | N + 1, out, pre, [], hl, ho, hN => by
    unfold impl_urgent_l2
    rw [bif_false (lt_false pre)]
    simp
  | N + 1, out, pre, x :: rest, hl, ho, hN => by
    have hN' : rest.length < N := by simp at hN; omega
    have ho' : out.length + 1 + rest.length ≤ 100000 := by simp at ho; omega
    unfold impl_urgent_l2
    rw [bif_true (lt_true pre x rest), guardP_pos (inb pre x rest)]
    simp only [getD_mid]
    rw [step_i pre x rest hl, guardP_pos (by unfold capN; simp; omega)]
    have e := app1 pre x rest
    by_cases h : isU b x = true
    · rw [bif_true (show (x.2.1.1 == b) = true from h), e, urgent2 b N (out ++ [x]) (pre ++ [x]) rest (by simpa using hl) (by simp; omega) hN']
      simp [h]
    · have h : isU b x = false := by simpa using h
      rw [bif_false (show (x.2.1.1 == b) = false from h), e, urgent2 b N out (pre ++ [x]) rest (by simpa using hl) (by omega) hN']
      simp [h]
theorem urgent1 (l0 : List TCandidate) : ∀ (N : Nat) (b : Int) (out pre rest : List TCandidate), (pre ++ rest).length ≤ 100000 → rest.length < N →
    impl_urgent_l1 N l0 b out (pre ++ rest) ((pre ++ rest).length : Int) (pre.length : Int) = impl_urgent_l2 (impl_urgent_l2_fuel (lst b rest) out l0 (l0.length : Int) (0 : Int)) (lst b rest) out l0 (l0.length : Int) (0 : Int)
  | 0, _, _, _, _, _, h => by omega
  | N + 1, b, out, pre, [], hl, hN => by
    unfold impl_urgent_l1
    rw [bif_false (lt_false pre)]
    rfl
  | N + 1, b, out, pre, x :: rest, hl, hN => by
    unfold impl_urgent_l1
    rw [bif_true (lt_true pre x rest), guardP_pos (inb pre x rest)]
    simp only [getD_mid]
    rw [step_i pre x rest hl, app1 pre x rest, urgent1 l0 N _ out (pre ++ [x]) rest (by simpa using hl) (by simp at hN; omega)]
    rfl
theorem urgent_eq (l : List TCandidate) (h : l.length ≤ 100000) : impl_urgent l = some (urg l, ()) := by
  have h1 := urgent1 l (impl_urgent_l1_fuel l 7 [] l (l.length : Int) 0) 7 [] [] l (by simpa using h) (by unfold impl_urgent_l1_fuel; omega)
  have h2 := urgent2 (lst 7 l) (impl_urgent_l2_fuel (lst 7 l) [] l (l.length : Int) 0) [] [] l (by simpa using h) (by simpa using h) (by unfold impl_urgent_l2_fuel; omega)
  simp only [List.nil_append, List.length_nil] at h1 h2
  unfold impl_urgent
  exact h1.trans h2
theorem most_impl_loop : ∀ (N : Nat) (out : List Int) (pre rest : List TCandidate), (pre ++ rest).length ≤ 100000 → out.length + rest.length ≤ 100000 → rest.length < N →
    impl_MostUrgent_l1 N out (pre ++ rest) ((pre ++ rest).length : Int) (pre.length : Int) = some (out ++ ids rest, ())
  | 0, _, _, _, _, _, h => by omega
  | N + 1, out, pre, [], hl, ho, hN => by
    unfold impl_MostUrgent_l1
    rw [bif_false (lt_false pre)]
    simp
  | N + 1, out, pre, x :: rest, hl, ho, hN => by
    have ho' : out.length + 1 + rest.length ≤ 100000 := by simp at ho; omega
    unfold impl_MostUrgent_l1
    rw [bif_true (lt_true pre x rest), guardP_pos (inb pre x rest)]
    simp only [getD_mid]
    rw [step_i pre x rest hl, guardP_pos (by unfold capN; simp; omega), app1 pre x rest, most_impl_loop N _ (pre ++ [x]) rest (by simpa using hl) (by simp; omega) (by simp at hN; omega)]
    simp
def mostF (l : List TCandidate) : List Int := bif ac l then ids (urg l) else []
theorem most_impl (l : List TCandidate) (h : l.length ≤ 100000) : impl_MostUrgent l = some (mostF l, ()) := by
  unfold impl_MostUrgent mostF
  rw [impl_are l h, Option.bind_some]
  cases ac l
  · rfl
  · rw [Bool.not_true, bif_false rfl, urgent_eq l h, Option.bind_some]
    have hu : (urg l).length ≤ 100000 := Nat.le_trans (List.length_filter_le _ _) h
    have := most_impl_loop (impl_MostUrgent_l1_fuel ([] : List Int) (urg l) ((urg l).length : Int) 0) [] [] (urg l) (by simpa using hu) (by simpa using hu) (by unfold impl_MostUrgent_l1_fuel; omega)
    simpa using this
theorem most_spec_loop : ∀ (N : Nat) (out : List Int) (b : Int) (pre rest : List TCandidate), (pre ++ rest).length ≤ 100000 → ac (pre ++ rest) = true → out = ids (pre.filter (isU b)) → (∀ x, x ∈ pre → b ≤ x.2.1.1) → rest.length < N →
    spec_MostUrgent_l1 N (pre ++ rest) out b (pre.length : Int) = some (ids ((pre ++ rest).filter (isU (lst b rest))), ())
  | 0, _, _, _, _, _, _, _, _, h => by omega
  | N + 1, out, b, pre, [], hl, ha, ho, hb, hN => by
    unfold spec_MostUrgent_l1
    simp only [lt_false pre, cond_false, Option.bind_some, Bool.false_and]
    simp [ho, lst]
  | N + 1, out, b, pre, x :: rest, hl, ha, ho, hb, hN => by
    have hN' : rest.length < N := by simp at hN; omega
    have hp : pre.length ≤ 100000 := by simp at hl; omega
    have hol : out.length ≤ 100000 := by rw [ho, List.length_map]; exact Nat.le_trans (List.length_filter_le _ _) hp
    unfold spec_MostUrgent_l1 spec_MostUrgent_j2 spec_MostUrgent_j1
    simp only [lt_true pre x rest, cond_true, spec_are _ hl, Option.bind_some, ha, Bool.and_self, getD_mid]
    rw [guardP_pos (inb pre x rest)]
    have e := app1 pre x rest
    by_cases h : x.2.1.1 < b
    · rw [bif_true (dec_true h), guardP_pos (inb pre x rest), guardP_pos (inb pre x rest), bif_true (by simp), guardP_pos (inb pre x rest), guardP_pos (by unfold capN; simp), List.nil_append, step_i pre x rest hl, e,
        most_spec_loop N [x.1] x.2.1.1 (pre ++ [x]) rest (by simpa using hl) (by rw [← e]; exact ha) ?_ ?_ hN']
      · have : lst b (x :: rest) = lst x.2.1.1 rest := by simp only [lst, List.foldl_cons]; rw [Int.min_eq_right (by omega)]
        rw [this]
      · have hf : pre.filter (isU x.2.1.1) = [] := List.filter_eq_nil_iff.2 fun y hy => by have := hb y hy; simp [isU]; omega
        simp [List.filter_append, hf, isU]
      · intro y hy
        rcases List.mem_append.1 hy with hy | hy
        · have := hb y hy; omega
        · simp at hy; rw [hy]; exact Int.le_refl _
    · rw [bif_false (dec_false h), guardP_pos (inb pre x rest)]
      have hm : lst b (x :: rest) = lst b rest := by simp only [lst, List.foldl_cons]; rw [Int.min_eq_left (by omega)]
      have hb' : ∀ y, y ∈ pre ++ [x] → b ≤ y.2.1.1 := fun y hy => by
        rcases List.mem_append.1 hy with hy | hy
        · exact hb y hy
        · simp at hy; rw [hy]; omega
      by_cases hx : isU b x = true
      · rw [bif_true (show (x.2.1.1 == b) = true from hx), guardP_pos (inb pre x rest), guardP_pos (by unfold capN; simp; omega), step_i pre x rest hl, e, hm,
          most_spec_loop N (out ++ [x.1]) b (pre ++ [x]) rest (by simpa using hl) (by rw [← e]; exact ha) (by simp [List.filter_append, hx, ho]) hb' hN']
      · have hx : isU b x = false := by simpa using hx
        rw [bif_false (show (x.2.1.1 == b) = false from hx), step_i pre x rest hl, e, hm, most_spec_loop N out b (pre ++ [x]) rest (by simpa using hl) (by rw [← e]; exact ha) (by simp [List.filter_append, hx, ho]) hb' hN']
theorem lst87 (l : List TCandidate) (h : ac l = true) : l.filter (isU (lst 8 l)) = urg l := by
  cases l with
  | nil => rfl
  | cons x r =>
    have := (ac_facts _ _ h).1 x (by simp)
    have e : lst 8 (x :: r) = lst 7 (x :: r) := by simp only [lst, List.foldl_cons]; rw [Int.min_eq_right (by omega), Int.min_eq_right (by omega)]
    rw [e]
theorem most_spec (l : List TCandidate) (h : l.length ≤ 100000) : spec_MostUrgent l = some (mostF l, ()) := by
  unfold spec_MostUrgent mostF
  by_cases ha : ac l = true
  · have := most_spec_loop (spec_MostUrgent_l1_fuel l [] 8 0) [] 8 [] l (by simpa using h) ha rfl (by simp) (by unfold spec_MostUrgent_l1_fuel; omega)
    simp only [List.nil_append, List.length_nil] at this
    rw [show ((0 : Nat) : Int) = 0 from rfl] at this
    rw [this, ha, lst87 l ha]
    rfl
  · have ha : ac l = false := by simpa using ha
    unfold spec_MostUrgent_l1_fuel spec_MostUrgent_l1
    rw [spec_are l h, ha]
    cases decide ((0 : Int) < (l.length : Int)) <;> rfl
theorem after_loop (last : Int) : ∀ (N : Nat) (pre rest : List Int), (pre ++ rest).length ≤ 100000 → rest.length < N → spec_l14After_l1 N (pre ++ rest) last (pre.length : Int) = some ((match rest.find? (fun x => decide (x > last)) with | some x => x | none => (pre ++ rest).headD (-1)), ())
  | 0, _, _, _, h => by omega
  | N + 1, pre, [], hl, hN => by
    unfold spec_l14After_l1
    rw [bif_false (lt_false pre)]
    cases pre with
    | nil => rfl
    | cons y pre =>
      rw [bif_false (beq_eq_false_iff_ne.2 (by simp only [List.append_nil, List.length_cons]; omega)), guardP_pos ⟨Int.le_refl 0, by simp only [List.append_nil, List.length_cons]; omega⟩]
      rfl
  | N + 1, pre, x :: rest, hl, hN => by
    unfold spec_l14After_l1
    rw [bif_true (lt_true pre x rest), guardP_pos (inb pre x rest)]
    simp only [getD_mid, List.find?_cons]
    rw [step_i pre x rest hl]
    by_cases h : x > last
    · rw [bif_true (dec_true h), guardP_pos (inb pre x rest), dec_true h]
    · rw [bif_false (dec_false h), dec_false h, app1 pre x rest, after_loop last N (pre ++ [x]) rest (by simpa using hl) (by simp at hN; omega)]
theorem after_eq (l : List Int) (last : Int) (h : l.length ≤ 100000) : spec_l14After l last = some (after l last, ()) := by
  have := after_loop last (spec_l14After_l1_fuel l last 0) [] l (by simpa using h) (by unfold spec_l14After_l1_fuel; omega)
  simpa [spec_l14After, after] using this
theorem plain_impl_loop (l0 : List TCandidate) (last : Int) (h0 : 0 < l0.length) : ∀ (N : Nat) (pre rest : List TCandidate), (pre ++ rest).length ≤ 100000 → rest.length < N →
    impl_PlainNext_l1 N l0 last (pre ++ rest) ((pre ++ rest).length : Int) (pre.length : Int) = some ((match (ids rest).find? (fun x => decide (x > last)) with | some x => x | none => (ids l0).headD (-1)), ())
  | 0, _, _, _, h => by omega
  | N + 1, pre, [], hl, hN => by
    unfold impl_PlainNext_l1
    rw [bif_false (lt_false pre), guardP_pos (by omega)]
    cases l0 with
    | nil => simp at h0
    | cons y l0 => rfl
  | N + 1, pre, x :: rest, hl, hN => by
    unfold impl_PlainNext_l1
    rw [bif_true (lt_true pre x rest), guardP_pos (inb pre x rest)]
    simp only [getD_mid, List.map_cons, List.find?_cons]
    rw [step_i pre x rest hl]
    by_cases h : x.1 > last
    · rw [bif_true (dec_true h), dec_true h]
    · rw [bif_false (dec_false h), dec_false h, app1 pre x rest, plain_impl_loop l0 last h0 N (pre ++ [x]) rest (by simpa using hl) (by simp at hN; omega)]
def plainF (l : List TCandidate) (last : Int) : Int := bif ac l then after (ids l) last else -1
theorem plain_impl (l : List TCandidate) (last : Int) (h : l.length ≤ 100000) : impl_PlainNext l last = some (plainF l last, ()) := by
  unfold impl_PlainNext plainF
  by_cases h0 : l.length = 0
  · have := List.eq_nil_of_length_eq_zero h0
    subst this
    rfl
  · have hz : ((l.length : Int) == 0) = false := beq_eq_false_iff_ne.2 (by omega)
    simp only [hz, cond_false, impl_are l h, Option.bind_some, Bool.false_or]
    cases ac l
    · rfl
    · have := plain_impl_loop l last (by omega) (impl_PlainNext_l1_fuel l last l (l.length : Int) 0) [] l (by simpa using h) (by unfold impl_PlainNext_l1_fuel; omega)
      simpa [after] using this
theorem plain_spec_loop (last : Int) : ∀ (N : Nat) (out : List Int) (pre rest : List TCandidate), (pre ++ rest).length ≤ 100000 → ac (pre ++ rest) = true → out = ids pre → rest.length < N →
    spec_PlainNext_l1 N (pre ++ rest) last out (pre.length : Int) = some (after (ids (pre ++ rest)) last, ())
  | 0, _, _, _, _, _, _, h => by omega
  | N + 1, out, pre, [], hl, ha, ho, hN => by
    unfold spec_PlainNext_l1
    simp only [lt_false pre, cond_false, Option.bind_some, Bool.false_and]
    rw [ho, after_eq _ _ (by simp at hl ⊢; omega)]
    simp
  | N + 1, out, pre, x :: rest, hl, ha, ho, hN => by
    have hp : pre.length ≤ 100000 := by simp at hl; omega
    unfold spec_PlainNext_l1
    simp only [lt_true pre x rest, cond_true, spec_are _ hl, Option.bind_some, ha, Bool.and_self, getD_mid]
    have e := app1 pre x rest
    rw [guardP_pos (inb pre x rest), guardP_pos (by unfold capN; rw [ho]; simp; omega), step_i pre x rest hl, e, plain_spec_loop last N (out ++ [x.1]) (pre ++ [x]) rest (by simpa using hl) (by rw [← e]; exact ha) (by simp [ho]) (by simp at hN; omega)]
theorem plain_spec (l : List TCandidate) (last : Int) (h : l.length ≤ 100000) : spec_PlainNext l last = some (plainF l last, ()) := by
  unfold spec_PlainNext plainF
  by_cases ha : ac l = true
  · have := plain_spec_loop last (spec_PlainNext_l1_fuel l last [] 0) [] [] l (by simpa using h) ha rfl (by unfold spec_PlainNext_l1_fuel; omega)
    simp only [List.nil_append, List.length_nil] at this
    rw [show ((0 : Nat) : Int) = 0 from rfl] at this
    rw [this, ha]; rfl
  · have ha : ac l = false := by simpa using ha
    unfold spec_PlainNext_l1_fuel spec_PlainNext_l1
    rw [spec_are l h, ha, after_eq [] last (by simp)]
    cases decide ((0 : Int) < (l.length : Int)) <;> rfl
def incr (x : TCandidate) : Bool := x.2.1.2.1
def nextF (l : List TCandidate) (last : Int) : Int := bif ac l then (match (urg l).find? (fun x => !incr x) with | some x => x.1 | none => after (ids (urg l)) last) else -1
theorem next_impl_loop (last : Int) : ∀ (N : Nat) (pre rest : List TCandidate), (pre ++ rest).length ≤ 100000 → rest.length < N →
    impl_NextStream_l1 N last (pre ++ rest) ((pre ++ rest).length : Int) (pre.length : Int) = some ((match rest.find? (fun x => !incr x) with | some x => x.1 | none => plainF (pre ++ rest) last), ())
  | 0, _, _, _, h => by omega
  | N + 1, pre, [], hl, hN => by
    unfold impl_NextStream_l1
    rw [bif_false (lt_false pre), plain_impl _ _ hl]
    rfl
  | N + 1, pre, x :: rest, hl, hN => by
    unfold impl_NextStream_l1
    rw [bif_true (lt_true pre x rest), guardP_pos (inb pre x rest)]
    simp only [getD_mid, List.find?_cons]
    rw [step_i pre x rest hl]
    cases h : incr x
    · rw [bif_true (by show (!incr x) = true; rw [h]; rfl)]; rfl
    · rw [bif_false (by show (!incr x) = false; rw [h]; rfl), app1 pre x rest, next_impl_loop last N (pre ++ [x]) rest (by simpa using hl) (by simp at hN; omega)]
      rfl
theorem next_impl (l : List TCandidate) (last : Int) (h : l.length ≤ 100000) : impl_NextStream l last = some (nextF l last, ()) := by
  unfold impl_NextStream nextF
  by_cases h0 : l.length = 0
  · have := List.eq_nil_of_length_eq_zero h0
    subst this
    rfl
  · have hz : ((l.length : Int) == 0) = false := beq_eq_false_iff_ne.2 (by omega)
    simp only [hz, cond_false, impl_are l h, Option.bind_some, Bool.false_or]
    cases ha : ac l
    · rfl
    · rw [Bool.not_true, bif_false rfl, urgent_eq l h, Option.bind_some]
      have hu : (urg l).length ≤ 100000 := Nat.le_trans (List.length_filter_le _ _) h
      have := next_impl_loop last (impl_NextStream_l1_fuel last (urg l) ((urg l).length : Int) 0) [] (urg l) (by simpa using hu) (by unfold impl_NextStream_l1_fuel; omega)
      simp only [List.nil_append, List.length_nil] at this
      rw [show ((0 : Nat) : Int) = 0 from rfl] at this
      rw [this]
      have hau : ac (urg l) = true := ac_filter _ l none ha
      unfold plainF
      rw [hau]; rfl
theorem next_spec2 (K1 : (List TCandidate × Int × List Int × List Int × Int × Unit) → Option (Int × Unit)) (l : List TCandidate) (last : Int) (i : Nat) (hi : i < l.length) (hl : l.length ≤ 100000) :
    ∀ (N : Nat) (some0 preM restM : List Int), (preM ++ restM).length ≤ 100000 → some0.length + restM.length ≤ 200000 → restM.Nodup → restM.length < N →
    spec_NextStream_l2 K1 N l last (preM ++ restM) some0 (i : Int) (preM.length : Int) =
      bif decide ((l.getD (i : Int).toNat zCandidate).1 ∈ restM) && !incr (l.getD (i : Int).toNat zCandidate) then some ((l.getD (i : Int).toNat zCandidate).1, ())
      else K1 (l, last, preM ++ restM, some0 ++ (if (l.getD (i : Int).toNat zCandidate).1 ∈ restM then [(l.getD (i : Int).toNat zCandidate).1] else []), ((i + 1 : Nat) : Int), ())
  | 0, _, _, _, _, _, _, h => by omega
  | N + 1, some0, preM, [], hm, hs, hn, hN => by
    unfold spec_NextStream_l2
    rw [bif_false (lt_false preM), i64_succ hi (by omega)]
    simp
  | N + 1, some0, preM, y :: restM, hm, hs, hn, hN => by
    have hN' : restM.length < N := by simp at hN; omega
    have hn' := List.nodup_cons.1 hn
    unfold spec_NextStream_l2 spec_NextStream_j1
    rw [bif_true (lt_true preM y restM), guardP_pos (inb preM y restM), guardP_pos (by omega)]
    simp only [getD_mid]
    rw [guardP_pos (fun _ => by omega)]
    generalize hx : l.getD (i : Int).toNat zCandidate = x
    have e := app1 preM y restM
    have ih := fun some0 h => next_spec2 K1 l last i hi hl N some0 (preM ++ [y]) restM (by simpa using hm) h hn'.2 hN'
    rw [hx, ← e] at ih
    rw [step_i preM y restM hm, guardP_pos (inb preM y restM), guardP_pos (by omega), guardP_pos (by omega), guardP_pos (by omega), guardP_pos (by unfold capN; simp; omega)]
    by_cases hy : y = x.1
    · subst hy
      simp only [beq_self_eq_true, Bool.true_and, List.mem_cons, true_or, decide_true]
      cases hxi : incr x
      · rw [bif_true (by show (!incr x) = true; rw [hxi]; rfl)]; rfl
      · rw [bif_false (by show (!incr x) = false; rw [hxi]; rfl), bif_true rfl]
        rw [ih _ (by simp at hs ⊢; omega)]
        simp [hn'.1]
    · have hb : (y == x.1) = false := by simpa using hy
      rw [hb, Bool.false_and, bif_false rfl, bif_false rfl, ih some0 (by simp at hs; omega)]
      have : (x.1 ∈ y :: restM) ↔ x.1 ∈ restM := by simp [Ne.symm hy]
      simp only [this]
def inU (m : List Int) (x : TCandidate) : Bool := decide (x.1 ∈ m)
theorem next_spec1 (last : Int) (m : List Int) (hmn : m.Nodup) (hml : m.length ≤ 100000) : ∀ (N : Nat) (some0 : List Int) (pre rest : List TCandidate), (pre ++ rest).length ≤ 100000 → some0.length + rest.length ≤ 100000 → rest.length < N →
    spec_NextStream_l1 N (pre ++ rest) last m some0 (pre.length : Int) = some ((match (rest.filter (inU m)).find? (fun x => !incr x) with | some x => x.1 | none => after (some0 ++ ids (rest.filter (inU m))) last), ())
  | 0, _, _, _, _, _, h => by omega
  | N + 1, some0, pre, [], hl, hs, hN => by
    unfold spec_NextStream_l1
    rw [bif_false (lt_false pre), after_eq _ _ (by simp at hs; omega)]
    simp
  | N + 1, some0, pre, x :: rest, hl, hs, hN => by
    have hN' : rest.length < N := by simp at hN; omega
    have hi : pre.length < (pre ++ x :: rest).length := by simp
    unfold spec_NextStream_l1
    rw [bif_true (lt_true pre x rest)]
    have h2 := next_spec2 (fun v => spec_NextStream_l1 N v.1 v.2.1 v.2.2.1 v.2.2.2.1 v.2.2.2.2.1) (pre ++ x :: rest) last pre.length hi hl (spec_NextStream_l2_fuel (pre ++ x :: rest) last m some0 (pre.length : Int) 0) some0 [] m (by simpa using hml) (by simp at hs; omega) hmn (by unfold spec_NextStream_l2_fuel; omega)
    simp only [List.nil_append, List.length_nil, getD_mid] at h2
    rw [show ((0 : Nat) : Int) = 0 from rfl] at h2
    rw [h2]
    have e := app1 pre x rest
    have hL : ((pre.length + 1 : Nat) : Int) = (((pre ++ [x]).length : Nat) : Int) := by simp
    have ih := fun some0 h => next_spec1 last m hmn hml N some0 (pre ++ [x]) rest (by simpa using hl) h hN'
    rw [← e] at ih
    rw [hL]
    by_cases hx : x.1 ∈ m
    · have hf : (x :: rest).filter (inU m) = x :: rest.filter (inU m) := by simp [inU, hx]
      rw [hf]
      cases hi : incr x
      · simp [hx, hi]
      · simp only [hx, decide_true, Bool.not_true, Bool.and_false, cond_false, if_true]
        rw [ih _ (by simp at hs ⊢; omega)]
        simp [hi]
    · have hf : (x :: rest).filter (inU m) = rest.filter (inU m) := by simp [inU, hx]
      rw [hf]
      simp only [hx, decide_false, Bool.false_and, cond_false, if_false, List.append_nil]
      rw [ih _ (by simp at hs; omega)]
theorem pw_inj : ∀ {l : List TCandidate}, l.Pairwise (fun a b => a.1 < b.1) → ∀ {x y : TCandidate}, x ∈ l → y ∈ l → x.1 = y.1 → x = y
  | [], _, _, _, h, _, _ => by cases h
  | z :: l, hp, x, y, hx, hy, e => by
    obtain ⟨h1, h2⟩ := List.pairwise_cons.1 hp
    rcases List.mem_cons.1 hx with hx' | hx' <;> rcases List.mem_cons.1 hy with hy' | hy'
    · rw [hx', hy']
    · have := h1 y hy'; rw [← hx'] at this; omega
    · have := h1 x hx'; rw [← hy'] at this; omega
    · exact pw_inj h2 hx' hy' e
theorem ids_sorted {l : List TCandidate} (h : l.Pairwise (fun a b => a.1 < b.1)) : (ids l).Pairwise (· < ·) := List.pairwise_map.2 h
theorem urg_sorted {l : List TCandidate} (h : ac l = true) : (ids (urg l)).Pairwise (· < ·) := ids_sorted ((ac_facts _ _ h).2.filter _)
theorem mostF_nodup (l : List TCandidate) : (mostF l).Nodup := by
  unfold mostF
  cases h : ac l
  · exact List.nodup_nil
  · exact (urg_sorted h).imp (fun h => by omega)
theorem mem_urg {l : List TCandidate} (h : ac l = true) {x : TCandidate} (hx : x ∈ l) : x.1 ∈ ids (urg l) ↔ isU (lst 7 l) x = true := by
  constructor
  · intro hm
    obtain ⟨y, hy, e⟩ := List.mem_map.1 hm
    obtain ⟨hy1, hy2⟩ := List.mem_filter.1 hy
    have := pw_inj (ac_facts _ _ h).2 hx hy1 e.symm
    rw [this]; exact hy2
  · intro hu
    exact List.mem_map.2 ⟨x, List.mem_filter.2 ⟨hx, hu⟩, rfl⟩
theorem next_spec (l : List TCandidate) (last : Int) (h : l.length ≤ 100000) : spec_NextStream l last = some (nextF l last, ()) := by
  unfold spec_NextStream nextF
  rw [most_spec l h, Option.bind_some]
  have hml : (mostF l).length ≤ 100000 := by
    unfold mostF
    cases ac l
    · simp
    · simp only [cond_true, List.length_map]; exact Nat.le_trans (List.length_filter_le _ _) h
  have := next_spec1 last (mostF l) (mostF_nodup l) hml (spec_NextStream_l1_fuel l last (mostF l) [] 0) [] [] l (by simpa using h) (by simpa using h) (by unfold spec_NextStream_l1_fuel; omega)
  simp only [List.nil_append, List.length_nil] at this
  rw [show ((0 : Nat) : Int) = 0 from rfl] at this
  simp only []
  rw [this]
  cases ha : ac l
  · have hf : l.filter (inU (mostF l)) = [] := List.filter_eq_nil_iff.2 fun x _ => by simp [inU, mostF, ha]
    rw [hf]; rfl
  · have hf : l.filter (inU (mostF l)) = urg l := List.filter_congr fun x hx => by
      rw [Bool.eq_iff_iff]
      simp only [inU, mostF, ha, cond_true, decide_eq_true_eq]
      exact mem_urg ha hx
    rw [hf]; rfl
theorem lst_le (b : Int) : ∀ (l : List TCandidate) (b : Int), lst b l ≤ b ∧ ∀ x, x ∈ l → lst b l ≤ x.2.1.1
  | [], b => ⟨Int.le_refl _, by simp⟩
  | y :: l, b => by
    obtain ⟨h1, h2⟩ := lst_le b l (min b y.2.1.1)
    have e : lst b (y :: l) = lst (min b y.2.1.1) l := rfl
    rw [e]
    refine ⟨by omega, fun x hx => ?_⟩
    rcases List.mem_cons.1 hx with rfl | hx
    · omega
    · exact h2 x hx
theorem lst_mem : ∀ (l : List TCandidate) (b : Int), lst b l = b ∨ ∃ x, x ∈ l ∧ x.2.1.1 = lst b l
  | [], b => .inl rfl
  | y :: l, b => by
    have e : lst b (y :: l) = lst (min b y.2.1.1) l := rfl
    rw [e]
    rcases lst_mem l (min b y.2.1.1) with h | ⟨x, hx, h⟩
    · by_cases hy : y.2.1.1 ≤ b
      · exact .inr ⟨y, by simp, by omega⟩
      · exact .inl (by omega)
    · exact .inr ⟨x, by simp [hx], h⟩
theorem urg_ne {l : List TCandidate} (h : ac l = true) (h0 : l ≠ []) : urg l ≠ [] := by
  obtain ⟨h1, h2⟩ := lst_le 7 l 7
  have hm : ∃ x, x ∈ l ∧ x.2.1.1 = lst 7 l := by
    rcases lst_mem l 7 with e | e
    · cases l with
      | nil => exact absurd rfl h0
      | cons x l =>
        have := ((ac_facts _ _ h).1 x (by simp)).2.2.1
        have := h2 x (by simp)
        exact ⟨x, by simp, by omega⟩
    · exact e
  obtain ⟨x, hx, e⟩ := hm
  intro hn
  have := List.filter_eq_nil_iff.1 hn x hx
  simp [isU, e] at this
theorem after_mem {L : List Int} (h : L ≠ []) (last : Int) : after L last ∈ L := by
  unfold after
  split
  · rename_i x hx; exact List.mem_of_find?_eq_some hx
  · cases L with
    | nil => exact absurd rfl h
    | cons y L => simp
theorem nextF_mem {l : List TCandidate} (h : ac l = true) (h0 : l ≠ []) (last : Int) : nextF l last ∈ ids (urg l) := by
  unfold nextF
  rw [h, cond_true]
  split
  · rename_i x hx; exact List.mem_map.2 ⟨x, List.mem_of_find?_eq_some hx, rfl⟩
  · exact after_mem (fun e => urg_ne h h0 (List.map_eq_nil_iff.1 e)) last
theorem nextF_nil (last : Int) : nextF [] last = -1 := rfl
theorem urg_mem_nonneg {l : List TCandidate} (h : ac l = true) {i : Int} (hi : i ∈ ids (urg l)) : 0 ≤ i := by
  obtain ⟨x, hx, rfl⟩ := List.mem_map.1 hi
  exact ((ac_facts _ _ h).1 x (List.mem_filter.1 hx).1).1
/-! serving -/
def serveF (l : List TCandidate) : Int → Nat → List Int
  | _, 0 => []
  | last, n + 1 => nextF l last :: serveF l (nextF l last) n
def orderF (l : List TCandidate) (last n : Int) : List Int := bif !(decide (l.length = 0)) && ac l then serveF l last (min n 100).toNat else []
theorem serve_len (l : List TCandidate) : ∀ (n : Nat) (last : Int), (serveF l last n).length = n
  | 0, _ => rfl
  | n + 1, last => by simp [serveF, serve_len l n]
theorem orderF_len (l : List TCandidate) (last n : Int) : (orderF l last n).length ≤ 100 := by
  unfold orderF
  cases (!(decide (l.length = 0)) && ac l)
  · simp
  · rw [cond_true, serve_len]; omega
theorem serve_impl_loop (l : List TCandidate) (hl : l.length ≤ 100000) (n : Int) : ∀ (N : Nat) (last : Int) (out : List Int), (out.length : Int) ≤ 100 → ((min n 100) - (out.length : Int)).toNat < N →
    impl_ServeOrder_l1 N l last n out = some (out ++ serveF l last ((min n 100) - (out.length : Int)).toNat, ())
  | 0, _, _, _, h => by omega
  | N + 1, last, out, ho, hN => by
    unfold impl_ServeOrder_l1
    by_cases h : (out.length : Int) < min n 100
    · rw [bif_true (dec_true h), next_impl l last hl, Option.bind_some, guardP_pos (by unfold capN; simp; omega), serve_impl_loop l hl n N _ _ (by simp; omega) (by simp; omega)]
      have e : ((min n 100) - (out.length : Int)).toNat = ((min n 100) - (((out ++ [nextF l last]).length : Nat) : Int)).toNat + 1 := by simp; omega
      rw [e]
      simp [serveF]
    · rw [bif_false (dec_false h)]
      have e : ((min n 100) - (out.length : Int)).toNat = 0 := by omega
      rw [e]; simp [serveF]
theorem serve_impl (l : List TCandidate) (last n : Int) (hl : l.length ≤ 100000) : impl_ServeOrder l last n = some (orderF l last n, ()) := by
  unfold impl_ServeOrder orderF
  by_cases h0 : l.length = 0
  · have := List.eq_nil_of_length_eq_zero h0
    subst this
    rfl
  · have hz : ((l.length : Int) == 0) = false := beq_eq_false_iff_ne.2 (by omega)
    simp only [hz, cond_false, impl_are l hl, Option.bind_some, Bool.false_or, h0, decide_false, Bool.not_false, Bool.true_and]
    cases ac l
    · rfl
    · have := serve_impl_loop l hl n (impl_ServeOrder_l1_fuel l last n []) last [] (by simp) (by unfold impl_ServeOrder_l1_fuel; simp)
      simpa using this
theorem serve_spec_loop (l : List TCandidate) (hl : l.length ≤ 100000) (h0 : 0 < l.length) (ha : ac l = true) (n : Int) : ∀ (N : Nat) (last : Int) (out : List Int) (i : Nat), i ≤ 100 → out.length ≤ i → (n - (i : Int)).toNat < N →
    spec_ServeOrder_l1 N l last n out (i : Int) = some (out ++ serveF l last ((min n 100) - (i : Int)).toNat, ())
  | 0, _, _, _, _, _, h => by omega
  | N + 1, last, out, i, hi, ho, hN => by
    unfold spec_ServeOrder_l1
    simp only [dec_true (show (l.length : Int) > 0 by omega), Bool.and_true]
    by_cases h : (i : Int) < n ∧ (i : Int) < 100
    · simp only [dec_true h.1, dec_true h.2, Bool.and_self, cond_true, spec_are l hl, Option.bind_some, ha]
      rw [next_spec l last hl, Option.bind_some, guardP_pos (by unfold capN; simp; omega), i64_succ (m := 1000) (by omega) (by omega), serve_spec_loop l hl h0 ha n N _ _ (i + 1) (by omega) (by simp; omega) (by omega)]
      have e : ((min n 100) - (i : Int)).toNat = ((min n 100) - (((i + 1 : Nat)) : Int)).toNat + 1 := by omega
      rw [e]
      simp [serveF]
    · have hb : (decide ((i : Int) < n) && decide ((i : Int) < 100)) = false := by simp; omega
      simp only [hb, cond_false, Option.bind_some, Bool.and_false]
      have e : ((min n 100) - (i : Int)).toNat = 0 := by omega
      rw [e]; simp [serveF]
theorem serve_spec (l : List TCandidate) (last n : Int) (hl : l.length ≤ 100000) : spec_ServeOrder l last n = some (orderF l last n, ()) := by
  unfold spec_ServeOrder orderF
  by_cases h : 0 < l.length ∧ ac l = true
  · have := serve_spec_loop l hl h.1 h.2 n (spec_ServeOrder_l1_fuel l last n [] 0) last [] 0 (by omega) (by simp) (by unfold spec_ServeOrder_l1_fuel; omega)
    rw [show ((0 : Nat) : Int) = 0 from rfl] at this
    rw [this, h.2, show (!(decide (l.length = 0)) && true) = true by rw [dec_false (show ¬ l.length = 0 by omega)]; rfl]
    simp
  · have e : (!(decide (l.length = 0)) && ac l) = false := by
      by_cases h0 : l.length = 0
      · simp [h0]
      · have hf : ac l = false := by simpa using fun ha => h ⟨by omega, ha⟩
        rw [hf, Bool.and_false]
    rw [e, cond_false]
    unfold spec_ServeOrder_l1_fuel spec_ServeOrder_l1
    rw [spec_are l hl]
    by_cases h0 : l.length = 0
    · have hn : decide ((l.length : Int) > 0) = false := dec_false (by omega)
      simp only [hn, Bool.and_false, cond_false, Option.bind_some, Bool.false_and]
    · have ha : ac l = false := by simpa using fun ha => h ⟨by omega, ha⟩
      rw [ha]
      simp only []
      generalize (decide ((0 : Int) < n) && decide ((0 : Int) < 100) && decide ((l.length : Int) > 0)) = t
      cases t <;> rfl
/-! turns -/
theorem turns_spec_loop (id : Int) : ∀ (N : Nat) (pre rest : List Int) (n : Nat), (pre ++ rest).length ≤ 100000 → n + rest.length ≤ 100000 → rest.length < N → spec_TurnsOf_l1 N (pre ++ rest) id (n : Int) (pre.length : Int) = some (((n + rest.count id : Nat) : Int), ())
  | 0, _, _, _, _, _, h => by omega
  | N + 1, pre, [], n, hl, hn, hN => by
    unfold spec_TurnsOf_l1
    rw [bif_false (lt_false pre)]; simp
  | N + 1, pre, x :: rest, n, hl, hn, hN => by
    have hN' : rest.length < N := by simp at hN; omega
    have hn' : n + 1 + rest.length ≤ 100000 := by simp at hn; omega
    unfold spec_TurnsOf_l1 spec_TurnsOf_j1
    rw [bif_true (lt_true pre x rest), guardP_pos (inb pre x rest)]
    simp only [getD_mid]
    rw [step_i pre x rest hl, app1 pre x rest]
    by_cases h : x = id
    · rw [bif_true (by simpa using h), i64_succ (m := 1000000) (by omega) (by omega), turns_spec_loop id N (pre ++ [x]) rest (n + 1) (by simpa using hl) hn' hN']
      simp [h]; omega
    · rw [bif_false (by simpa using h), turns_spec_loop id N (pre ++ [x]) rest n (by simpa using hl) (by omega) hN']
      simp [h]
theorem turns_impl_loop (id : Int) : ∀ (N : Nat) (pre rest : List Int) (n : Nat), (pre ++ rest).length ≤ 100000 → n + rest.length ≤ 100000 → rest.length < N → impl_TurnsOf_l1 N id (n : Int) (pre ++ rest) ((pre ++ rest).length : Int) (pre.length : Int) = some (((n + rest.count id : Nat) : Int), ())
  | 0, _, _, _, _, _, h => by omega
  | N + 1, pre, [], n, hl, hn, hN => by
    unfold impl_TurnsOf_l1
    rw [bif_false (lt_false pre)]; simp
  | N + 1, pre, x :: rest, n, hl, hn, hN => by
    have hN' : rest.length < N := by simp at hN; omega
    have hn' : n + 1 + rest.length ≤ 100000 := by simp at hn; omega
    unfold impl_TurnsOf_l1 impl_one
    rw [bif_true (lt_true pre x rest), guardP_pos (inb pre x rest)]
    simp only [getD_mid]
    rw [step_i pre x rest hl, app1 pre x rest]
    by_cases h : x = id
    · rw [bif_true (by simpa using h), Option.bind_some, i64_succ (m := 1000000) (by omega) (by omega), turns_impl_loop id N (pre ++ [x]) rest (n + 1) (by simpa using hl) hn' hN']
      simp [h]; omega
    · rw [bif_false (by simpa using h), Option.bind_some, Int.add_zero, i64_ok (n := (n : Int)) (by omega) (by omega), turns_impl_loop id N (pre ++ [x]) rest n (by simpa using hl) (by omega) hN']
      simp [h]
theorem turns_spec (l : List Int) (id : Int) (h : l.length ≤ 100000) : spec_TurnsOf l id = some ((l.count id : Int), ()) := by
  have := turns_spec_loop id (spec_TurnsOf_l1_fuel l id 0 0) [] l 0 (by simpa using h) (by simpa using h) (by unfold spec_TurnsOf_l1_fuel; omega)
  simpa [spec_TurnsOf] using this
theorem turns_impl (l : List Int) (id : Int) (h : l.length ≤ 100000) : impl_TurnsOf l id = some ((l.count id : Int), ()) := by
  have := turns_impl_loop id (impl_TurnsOf_l1_fuel id 0 l (l.length : Int) 0) [] l 0 (by simpa using h) (by simpa using h) (by unfold impl_TurnsOf_l1_fuel; omega)
  simpa [impl_TurnsOf] using this
theorem spread_loop (order : List Int) (ho : order.length ≤ 100000) (q : Nat) (u : List Int) (hq : ∀ x, x ∈ u → q ≤ order.count x ∧ order.count x ≤ q + 1) : ∀ (N : Nat) (pre rest : List Int) (low high : Int), (pre ++ rest).length ≤ 100000 → (∀ x, x ∈ rest → x ∈ u) →
    (pre = [] → low = 0 ∧ high = 0) → (pre ≠ [] → (q : Int) ≤ low ∧ low ≤ q + 1 ∧ 0 ≤ high ∧ high ≤ q + 1) → q ≤ 200000 → rest.length < N → ∃ r, spec_SpreadOf_l1 N order (pre ++ rest) low high (pre.length : Int) = some (r, ()) ∧ r ≤ 1
  | 0, _, _, _, _, _, _, _, _, _, h => by omega
  | N + 1, pre, [], low, high, hl, hr, h1, h2, hqq, hN => by
    unfold spec_SpreadOf_l1
    rw [bif_false (lt_false pre)]
    by_cases hp : pre = []
    · obtain ⟨rfl, rfl⟩ := h1 hp
      exact ⟨_, rfl, by rw [i64_ok (by omega) (by omega)]; omega⟩
    · have := h2 hp
      exact ⟨_, rfl, by rw [i64_ok (by omega) (by omega)]; omega⟩
  | N + 1, pre, x :: rest, low, high, hl, hr, h1, h2, hqq, hN => by
    unfold spec_SpreadOf_l1 spec_SpreadOf_j1
    rw [bif_true (lt_true pre x rest), guardP_pos (inb pre x rest)]
    simp only [getD_mid, turns_spec order _ ho, Option.bind_some]
    obtain ⟨k1, k2⟩ := hq x (hr x (by simp))
    rw [step_i pre x rest hl, app1 pre x rest]
    generalize order.count x = c at k1 k2
    have next : ∀ low' high' : Int, (q : Int) ≤ low' ∧ low' ≤ q + 1 ∧ 0 ≤ high' ∧ high' ≤ q + 1 → ∃ r, spec_SpreadOf_l1 N order (pre ++ [x] ++ rest) low' high' (((pre ++ [x]).length : Nat) : Int) = some (r, ()) ∧ r ≤ 1 :=
      fun low' high' hb => spread_loop order ho q u hq N (pre ++ [x]) rest low' high' (by simpa using hl) (fun y hy => hr y (by simp [hy])) (fun e => by simp at e) (fun _ => hb) hqq (by simp at hN; omega)
    by_cases hp : pre = []
    · obtain ⟨rfl, rfl⟩ := h1 hp
      subst hp
      rw [bif_true (by simp)]
      exact next (c : Int) (max 0 (c : Int)) (by omega)
    · have := h2 hp
      have hp0 : ((pre.length : Int) == 0) = false := beq_eq_false_iff_ne.2 (by have := List.length_pos_iff.2 hp; omega)
      rw [hp0, Bool.false_or]
      by_cases hc : (c : Int) < low
      · rw [bif_true (dec_true hc)]; exact next (c : Int) (max high (c : Int)) (by omega)
      · rw [bif_false (dec_false hc)]; exact next low (max high (c : Int)) (by omega)
theorem spread_le (order ids : List Int) (ho : order.length ≤ 100000) (hi : ids.length ≤ 100000) (q : Nat) (hqq : q ≤ 200000) (hq : ∀ x, x ∈ ids → q ≤ order.count x ∧ order.count x ≤ q + 1) : ∃ r, spec_SpreadOf order ids = some (r, ()) ∧ r ≤ 1 := by
  have := spread_loop order ho q ids hq (spec_SpreadOf_l1_fuel order ids 0 0 0) [] ids 0 0 (by simpa using hi) (fun _ h => h) (fun _ => ⟨rfl, rfl⟩) (fun h => absurd rfl h) hqq (by unfold spec_SpreadOf_l1_fuel; omega)
  simpa [spec_SpreadOf] using this
/-! in turn -/
theorem find_some_least : ∀ {L : List Int} {a x : Int}, L.Pairwise (· < ·) → L.find? (fun x => decide (x > a)) = some x → x > a ∧ ∀ y, y ∈ L → y > a → x ≤ y
  | [], a, x, _, h => by simp at h
  | z :: L, a, x, hp, h => by
    obtain ⟨h1, h2⟩ := List.pairwise_cons.1 hp
    rw [List.find?_cons] at h
    by_cases hz : z > a
    · rw [dec_true hz] at h
      have : z = x := by simpa using h
      subst this
      refine ⟨hz, fun y hy _ => ?_⟩
      rcases List.mem_cons.1 hy with rfl | hy
      · exact Int.le_refl _
      · have := h1 y hy; omega
    · rw [dec_false hz] at h
      obtain ⟨k1, k2⟩ := find_some_least h2 h
      refine ⟨k1, fun y hy hya => ?_⟩
      rcases List.mem_cons.1 hy with rfl | hy
      · exact absurd hya hz
      · exact k2 y hy hya
theorem after_facts {L : List Int} (hp : L.Pairwise (· < ·)) (h0 : L ≠ []) (a : Int) : after L a ∈ L ∧ ((a < after L a ∧ ∀ y, y ∈ L → y > a → after L a ≤ y) ∨ ((∀ y, y ∈ L → y ≤ a) ∧ ∀ y, y ∈ L → after L a ≤ y)) := by
  refine ⟨after_mem h0 a, ?_⟩
  unfold after
  split
  · rename_i x hx
    obtain ⟨h1, h2⟩ := find_some_least hp hx
    exact .inl ⟨h1, h2⟩
  · rename_i hx
    right
    refine ⟨fun y hy => by have := List.find?_eq_none.1 hx y hy; simpa using this, ?_⟩
    cases L with
    | nil => exact absurd rfl h0
    | cons z L =>
      intro y hy
      rcases List.mem_cons.1 hy with rfl | hy
      · exact Int.le_refl _
      · have := (List.pairwise_cons.1 hp).1 y hy
        show z ≤ y
        omega
def inCyc (a e x : Int) : Prop := (a ≤ e ∧ a ≤ x ∧ x < e) ∨ (e < a ∧ (x ≥ a ∨ x < e))
instance (a e x : Int) : Decidable (inCyc a e x) := by unfold inCyc; exact inferInstance
def turnF (L : List Int) : Int → Nat → List Int
  | _, 0 => []
  | a, n + 1 => a :: turnF L (after L a) n
theorem turn_counts {L : List Int} (hp : L.Pairwise (· < ·)) (h0 : L ≠ []) : ∀ (n : Nat) (a : Int), a ∈ L → ∃ q e, q ≤ n ∧ e ∈ L ∧ ∀ x, x ∈ L → (turnF L a n).count x = q + (if inCyc a e x then 1 else 0)
  | 0, a, ha => ⟨0, a, Nat.le_refl _, ha, fun x _ => by
    have : ¬ inCyc a a x := by unfold inCyc; omega
    simp [turnF, this]⟩
  | n + 1, a, ha => by
    obtain ⟨m1, m2⟩ := after_facts hp h0 a
    obtain ⟨q, e, hq, he, hc⟩ := turn_counts hp h0 n (after L a) m1
    have e1 : ∀ x, (turnF L a (n + 1)).count x = (turnF L (after L a) n).count x + (if a = x then 1 else 0) := fun x => by
      show (a :: turnF L (after L a) n).count x = _
      rw [List.count_cons]
      by_cases h : a = x <;> simp [h]
    have key : ∀ x, x ∈ L → (a < after L a ∧ (x > a → after L a ≤ x) ∧ (e > a → after L a ≤ e)) ∨ (x ≤ a ∧ e ≤ a ∧ after L a ≤ x ∧ after L a ≤ e) := fun x hx =>
      m2.imp (fun ⟨k1, k2⟩ => ⟨k1, k2 x hx, k2 e he⟩) fun ⟨k1, k2⟩ => ⟨k1 x hx, k1 e he, k2 x hx, k2 e he⟩
    by_cases hea : e = a
    · refine ⟨q + 1, a, by omega, ha, fun x hx => ?_⟩
      have h1 := hc x hx
      have h2 := key x hx
      rw [e1 x, h1]
      clear e1 m1 m2 hc h1 key
      generalize after L a = b at *
      by_cases p1 : inCyc b e x <;> by_cases p2 : inCyc a a x <;> by_cases p3 : a = x <;> (first | rw [if_pos p1] | rw [if_neg p1]) <;> (first | rw [if_pos p2] | rw [if_neg p2]) <;> (first | rw [if_pos p3] | rw [if_neg p3]) <;> unfold inCyc at p1 p2 <;> omega
    · refine ⟨q, e, by omega, he, fun x hx => ?_⟩
      have h1 := hc x hx
      have h2 := key x hx
      rw [e1 x, h1]
      clear e1 m1 m2 hc h1 key
      generalize after L a = b at *
      by_cases p1 : inCyc b e x <;> by_cases p2 : inCyc a e x <;> by_cases p3 : a = x <;> (first | rw [if_pos p1] | rw [if_neg p1]) <;> (first | rw [if_pos p2] | rw [if_neg p2]) <;> (first | rw [if_pos p3] | rw [if_neg p3]) <;> unfold inCyc at p1 p2 <;> omega
theorem serve_turn {l : List TCandidate} (ha : ac l = true) (hi : ∀ x, x ∈ urg l → incr x = true) : ∀ (n : Nat) (last : Int), serveF l last n = turnF (ids (urg l)) (after (ids (urg l)) last) n
  | 0, _ => rfl
  | n + 1, last => by
    have hn : ∀ last, nextF l last = after (ids (urg l)) last := fun last => by
      have : (urg l).find? (fun x => !incr x) = none := List.find?_eq_none.2 fun x hx => by simp [hi x hx]
      unfold nextF
      rw [ha, cond_true, this]
    simp only [serveF, turnF, hn, serve_turn ha hi n]
theorem serve_alone {l : List TCandidate} (ha : ac l = true) {x : TCandidate} (hx : x ∈ urg l) (hi : incr x = false) : ∃ c, ∀ (n : Nat) (last : Int), serveF l last n = List.replicate n c := by
  have hf : ∃ y, (urg l).find? (fun x => !incr x) = some y := by
    cases h : (urg l).find? (fun x => !incr x) with
    | some y => exact ⟨y, rfl⟩
    | none => have := List.find?_eq_none.1 h x hx; simp [hi] at this
  obtain ⟨y, hy⟩ := hf
  have hn : ∀ last, nextF l last = y.1 := fun last => by
    unfold nextF
    rw [ha, cond_true, hy]
  refine ⟨y.1, fun n => ?_⟩
  induction n with
  | zero => intro last; rfl
  | succ n ih => intro last; simp only [serveF, hn, ih, List.replicate_succ]
theorem order_counts (l : List TCandidate) (last n : Int) (hi : ∀ x, x ∈ l → x.1 ∈ mostF l → incr x = true) : ∃ q, q ≤ 100 ∧ ∀ x, x ∈ mostF l → q ≤ (orderF l last n).count x ∧ (orderF l last n).count x ≤ q + 1 := by
  unfold orderF
  cases h : (!(decide (l.length = 0)) && ac l)
  · exact ⟨0, by omega, fun x _ => by simp⟩
  · simp only [Bool.and_eq_true, Bool.not_eq_true', decide_eq_false_iff_not] at h
    have h0 : l ≠ [] := fun e => h.1 (by rw [e]; rfl)
    have hm : mostF l = ids (urg l) := by unfold mostF; rw [h.2]; rfl
    have hiu : ∀ x, x ∈ urg l → incr x = true := fun x hx => hi x (List.mem_filter.1 hx).1 (by rw [hm]; exact List.mem_map.2 ⟨x, hx, rfl⟩)
    have hne : ids (urg l) ≠ [] := fun e => urg_ne h.2 h0 (List.map_eq_nil_iff.1 e)
    rw [cond_true, serve_turn h.2 hiu, hm]
    obtain ⟨q, e, h1, h2, h3⟩ := turn_counts (urg_sorted h.2) hne (min n 100).toNat (after (ids (urg l)) last) (after_mem hne last)
    refine ⟨q, by omega, fun x hx => ?_⟩
    rw [h3 x hx]
    split <;> omega
theorem has_loop (x : Int) : ∀ (N : Nat) (pre rest : List Int), (pre ++ rest).length ≤ 100000 → rest.length < N → laws_has_l1 N (pre ++ rest) x (pre.length : Int) = some (decide (x ∈ rest), ())
  | 0, _, _, _, h => by omega
  | N + 1, pre, [], hl, hN => by
    unfold laws_has_l1
    rw [bif_false (lt_false pre)]; simp
  | N + 1, pre, y :: rest, hl, hN => by
    unfold laws_has_l1
    rw [bif_true (lt_true pre y rest), guardP_pos (inb pre y rest)]
    simp only [getD_mid]
    rw [step_i pre y rest hl, app1 pre y rest]
    by_cases h : y = x
    · rw [bif_true (by simpa using h)]; simp [h]
    · rw [bif_false (by simpa using h), has_loop x N (pre ++ [y]) rest (by simpa using hl) (by simp at hN; omega)]
      simp [Ne.symm h]
theorem has_eq (l : List Int) (x : Int) (h : l.length ≤ 100000) : laws_has l x = some (decide (x ∈ l), ()) := by
  have := has_loop x (laws_has_l1_fuel l x 0) [] l (by simpa using h) (by unfold laws_has_l1_fuel; omega)
  simpa [laws_has] using this
theorem sameInts_refl (a : List Int) (h : a.length ≤ 1048576) : laws_sameInts a a = some (true, ()) := by
  unfold laws_sameInts
  rw [bif_false (by simp)]
  exact eq_loop (d := (0 : Int)) (ne := fun x y => x != y) (by simp) (L := laws_sameInts_l1) (fun _ _ _ _ => rfl) _ a 0 (by omega) (by omega) (by unfold laws_sameInts_l1_fuel; omega)
/-! draws -/
theorem cur_once (c : Tl1Cur) (n : Int) (h : CurOK c) : ∃ x c', spec_l1Once c n = some ((x, ()), (c', ())) ∧ CurOK c' := by
  unfold spec_l1Once
  obtain ⟨x, c1, e1, k1, _⟩ := cur_below c n h
  rw [e1, Option.bind_some]
  exact ⟨_, _, rfl, k1⟩
theorem l13_priority (c : Tl1Cur) (h : CurOK c) : ∃ x c', spec_l13Priority c = some ((x, ()), (c', ())) ∧ CurOK c' := by
  unfold spec_l13Priority
  obtain ⟨x, c1, e1, k1, _⟩ := cur_pick c [(0 : Int), (1 : Int), (3 : Int), (3 : Int), (3 : Int), (7 : Int)] h (by simp)
  rw [e1, Option.bind_some]
  obtain ⟨y, c2, e2, k2⟩ := cur_once c1 2 k1
  rw [e2, Option.bind_some]
  exact ⟨_, _, rfl, k2⟩
theorem l13_any (c : Tl1Cur) (h : CurOK c) : ∃ x c', spec_l13Any c = some ((x, ()), (c', ())) ∧ CurOK c' := by
  unfold spec_l13Any
  obtain ⟨x, c1, e1, k1⟩ := l13_priority c h
  rw [e1, Option.bind_some]
  obtain ⟨y, c2, e2, k2⟩ := cur_once c1 8 k1
  rw [e2, Option.bind_some]
  obtain ⟨z, c3, e3, k3, _⟩ := cur_pick c2 [(-1 : Int), (8 : Int)] k2 (by simp)
  simp only [e3, Option.bind_some]
  cases y
  · exact ⟨_, _, rfl, k2⟩
  · exact ⟨_, _, rfl, k3⟩
theorem l14_loop : ∀ (N : Nat) (c : Tl1Cur) (l : List TCandidate) (id n : Int), CurOK c → 0 ≤ n → l.length + n ≤ 1000 → n.toNat < N → ∃ l' c', spec_l14List_l1 N c l id n = some ((l', ()), (c', ())) ∧ CurOK c' ∧ l'.length ≤ 1001
  | 0, _, _, _, _, _, _, _, h => by omega
  | N + 1, c, l, id, n, hc, h0, h1, hN => by
    unfold spec_l14List_l1
    by_cases h : n > 0
    · rw [bif_true (dec_true h)]
      obtain ⟨x, c1, e1, k1, _⟩ := cur_below c 3 hc
      rw [e1, Option.bind_some]
      obtain ⟨p, c2, e2, k2⟩ := l13_priority c1 k1
      simp only [e2, Option.bind_some]
      rw [guardP_pos (by unfold capN; simp; omega), i64_ok (n := n - 1) (by omega) (by omega)]
      exact l14_loop N c2 _ _ (n - 1) k2 (by omega) (by simp; omega) (by omega)
    · rw [bif_false (dec_false h)]
      obtain ⟨y, c1, e1, k1⟩ := cur_once c 14 hc
      rw [e1, Option.bind_some]
      obtain ⟨x, c2, e2, k2, _⟩ := cur_below c1 4 k1
      obtain ⟨p, c3, e3, k3⟩ := l13_any c2 k2
      simp only [e2, e3, Option.bind_some]
      cases y
      · exact ⟨_, _, rfl, k1, by omega⟩
      · rw [cond_true, guardP_pos (by unfold capN; simp; omega)]
        exact ⟨_, _, rfl, k3, by simp; omega⟩
theorem l14_list (c : Tl1Cur) (hc : CurOK c) : ∃ l c', spec_l14List c = some ((l, ()), (c', ())) ∧ CurOK c' ∧ l.length ≤ 1001 := by
  unfold spec_l14List
  obtain ⟨n, c1, e1, k1, n0, n1⟩ := cur_below c 6 hc
  have n1 := n1 (by omega)
  rw [e1, Option.bind_some]
  exact l14_loop _ c1 [] 0 n k1 n0 (by simp; omega) (by unfold spec_l14List_l1_fuel; simp)
theorem draw_next (code : List Int) (h : code.length ≤ 1048576) : ∃ l x, spec_DrawNextStream code = some (l, x, ()) ∧ l.length ≤ 1001 := by
  unfold spec_DrawNextStream spec_DrawPlainNext
  obtain ⟨c, e, k⟩ := cur_new code h
  rw [e, Option.bind_some]
  obtain ⟨l, c1, e1, k1, hl⟩ := l14_list c k
  rw [e1, Option.bind_some]
  obtain ⟨n, c2, e2, k2, _⟩ := cur_below c1 16 k1
  rw [e2]
  exact ⟨_, _, rfl, hl⟩
theorem draw_serve (code : List Int) (h : code.length ≤ 1048576) : ∃ l x n, spec_DrawServeOrder code = some (l, x, n, ()) ∧ l.length ≤ 1001 := by
  unfold spec_DrawServeOrder
  obtain ⟨c, e, k⟩ := cur_new code h
  rw [e, Option.bind_some]
  obtain ⟨l, c1, e1, k1, hl⟩ := l14_list c k
  rw [e1, Option.bind_some]
  obtain ⟨n, c2, e2, k2, _⟩ := cur_below c1 12 k1
  rw [e2, Option.bind_some]
  obtain ⟨m, c3, e3, k3, _⟩ := cur_below c2 14 k2
  rw [e3]
  exact ⟨_, _, _, rfl, hl⟩
/-! the law -/
noncomputable def tailE (code order share : List Int) (alone : Bool) : Option (Bool × Unit) :=
  Option.bind (bif (!alone) then (spec_SpreadOf order share) else some ((0 : Int), ())) fun t138 =>
  bif (!alone) && (decide (t138.1 > (1 : Int))) then
    some (false, ())
  else
    Option.bind (spec_DrawTurnsOf code) fun t143 =>
    Option.bind (impl_TurnsOf t143.1 t143.2.1) fun t148 =>
    Option.bind (spec_TurnsOf t143.1 t143.2.1) fun t151 =>
    let t160 : Bool := (!alone) || ((order.length : Int) == (0 : Int))
    guardP (((t148.1 == t151.1) = true → (t160 = false → (0 ≤ (0 : Int) ∧ (0 : Int) < order.length)))) <|
    Option.bind (bif t160 then some ((0 : Int), ()) else (bif (t148.1 == t151.1) then (impl_TurnsOf order (order.getD (0 : Int).toNat (0 : Int))) else some ((0 : Int), ()))) fun t166 =>
    some ((t148.1 == t151.1) && (t160 || (t166.1 == (order.length : Int))), ())
theorem law_loop (code order u : List Int) (hu : u.length ≤ 100000) (c : List TCandidate)
    (hfin : ∀ share alone, share.length ≤ 100000 → (∀ x, x ∈ share → x ∈ u) → (alone = false → ∀ x, x ∈ c → x.1 ∈ u → incr x = true) → (alone = true → ∃ x, x ∈ c ∧ x.1 ∈ u ∧ incr x = false) → tailE code order share alone = some (true, ())) :
    ∀ (N : Nat) (share : List Int) (alone : Bool) (pre rest : List TCandidate), pre ++ rest = c → (pre ++ rest).length ≤ 100000 → share.length + rest.length ≤ 100000 → (∀ x, x ∈ share → x ∈ u) →
    (alone = false → ∀ x, x ∈ pre → x.1 ∈ u → incr x = true) → (alone = true → ∃ x, x ∈ pre ∧ x.1 ∈ u ∧ incr x = false) → rest.length < N →
    laws_FnSchedules_l1 N code (pre ++ rest) order share alone u (pre.length : Int) = some (true, ())
  | 0, _, _, _, _, _, _, _, _, _, _, h => by omega
  | N + 1, share, alone, pre, [], hc, hl, hs, h1, h2, h3, hN => by
    unfold laws_FnSchedules_l1
    rw [bif_false (lt_false pre)]
    have hc : pre = c := by simpa using hc
    subst hc
    exact hfin share alone (by simpa using hs) h1 h2 h3
  | N + 1, share, alone, pre, x :: rest, hc, hl, hs, h1, h2, h3, hN => by
    have hN' : rest.length < N := by simp at hN; omega
    have hs' : share.length + 1 + rest.length ≤ 100000 := by simp at hs; omega
    unfold laws_FnSchedules_l1 laws_FnSchedules_j1
    rw [bif_true (lt_true pre x rest), guardP_pos (inb pre x rest)]
    simp only [getD_mid, has_eq u _ hu, Option.bind_some]
    rw [guardP_pos (fun _ => inb pre x rest), guardP_pos (inb pre x rest), guardP_pos (inb pre x rest), guardP_pos (by unfold capN; simp; omega), step_i pre x rest hl, app1 pre x rest]
    rw [app1 pre x rest] at hc
    have ih := fun share alone a b d e f => law_loop code order u hu c hfin N share alone (pre ++ [x]) rest hc a b d e f hN'
    have hl' : (pre ++ [x] ++ rest).length ≤ 100000 := by simpa using hl
    have mem : ∀ y, y ∈ pre ++ [x] → y ∈ pre ∨ y = x := fun y hy => by simpa using hy
    by_cases hx : x.1 ∈ u
    · rw [dec_true hx, Bool.true_and]
      cases hi : incr x
      · rw [bif_false (show x.2.1.2.1 = false from hi), bif_true rfl]
        exact ih share true hl' (by omega) h1 (fun h => by cases h) (fun _ => ⟨x, by simp, hx, hi⟩)
      · rw [bif_true (show x.2.1.2.1 = true from hi)]
        refine ih (share ++ [x.1]) alone hl' (by simp; omega) (fun y hy => ?_) (fun ha y hy hyu => ?_) (fun ha => ?_)
        · rcases List.mem_append.1 hy with hy | hy
          · exact h1 y hy
          · simp at hy; rw [hy]; exact hx
        · rcases mem y hy with hy | rfl
          · exact h2 ha y hy hyu
          · exact hi
        · obtain ⟨y, k1, k2, k3⟩ := h3 ha
          exact ⟨y, by simp [k1], k2, k3⟩
    · rw [dec_false hx, Bool.false_and, bif_false rfl, bif_false rfl]
      refine ih share alone hl' (by omega) h1 (fun ha y hy hyu => ?_) (fun ha => ?_)
      · rcases mem y hy with hy | rfl
        · exact h2 ha y hy hyu
        · exact absurd hyu hx
      · obtain ⟨y, k1, k2, k3⟩ := h3 ha
        exact ⟨y, by simp [k1], k2, k3⟩
theorem tail_ok (code : List Int) (hc : code.length ≤ 1048576) (c : List TCandidate) (hcl : c.length ≤ 100000) (last n : Int) (share : List Int) (alone : Bool) (hs : share.length ≤ 100000) (h1 : ∀ x, x ∈ share → x ∈ mostF c)
    (h2 : alone = false → ∀ x, x ∈ c → x.1 ∈ mostF c → incr x = true) (h3 : alone = true → ∃ x, x ∈ c ∧ x.1 ∈ mostF c ∧ incr x = false) : tailE code (orderF c last n) share alone = some (true, ()) := by
  obtain ⟨l, a, m, e, hl⟩ := draw_serve code hc
  have ho := orderF_len c last n
  have hd : spec_DrawTurnsOf code = some (orderF l a m, Int.tmod (code.length : Int) 9, ()) := by
    unfold spec_DrawTurnsOf
    rw [e, Option.bind_some, serve_spec l _ _ (by omega), Option.bind_some, guardP_pos (by decide)]
  have ho2 := orderF_len l a m
  have t1 := turns_impl (orderF l a m) (Int.tmod (code.length : Int) 9) (by omega)
  have t2 := turns_spec (orderF l a m) (Int.tmod (code.length : Int) 9) (by omega)
  unfold tailE
  cases alone
  · obtain ⟨q, hq1, hq2⟩ := order_counts c last n (h2 rfl)
    obtain ⟨r, r1, r2⟩ := spread_le (orderF c last n) share (by omega) hs q (by omega) (fun x hx => hq2 x (h1 x hx))
    have hr : decide (r > 1) = false := dec_false (by omega)
    simp only [Bool.not_false, cond_true, r1, Option.bind_some, hr, Bool.and_false, cond_false, hd, t1, t2, Bool.true_or, beq_self_eq_true]
    rw [guardP_pos (fun _ h => by cases h)]
    rfl
  · obtain ⟨x, x1, x2, x3⟩ := h3 rfl
    have ha : ac c = true := by
      cases h : ac c
      · simp [mostF, h] at x2
      · rfl
    have hm : mostF c = ids (urg c) := by unfold mostF; rw [ha]; rfl
    rw [hm] at x2
    have hx : x ∈ urg c := List.mem_filter.2 ⟨x1, (mem_urg ha x1).1 x2⟩
    obtain ⟨v, hv⟩ := serve_alone ha hx x3
    have h0 : decide (c.length = 0) = false := dec_false (by have := List.length_pos_of_mem x1; omega)
    have hor : orderF c last n = List.replicate (min n 100).toNat v := by unfold orderF; rw [h0, ha]; exact hv _ _
    simp only [Bool.not_true, cond_false, Option.bind_some, Bool.false_and, hd, t1, t2, Bool.false_or, beq_self_eq_true, cond_true, Bool.true_and]
    by_cases hz : (orderF c last n).length = 0
    · have : (((orderF c last n).length : Int) == 0) = true := by simp [hz]
      rw [this, guardP_pos (fun _ h => by cases h)]
      rfl
    · have : (((orderF c last n).length : Int) == 0) = false := beq_eq_false_iff_ne.2 (by omega)
      rw [this, guardP_pos (fun _ _ => by omega), cond_false, turns_impl _ _ (by omega), Option.bind_some]
      have hlen : (orderF c last n).length = (min n 100).toNat := by rw [hor, List.length_replicate]
      have hg : (orderF c last n).getD (0 : Int).toNat 0 = v := by
        rw [hor, show (0 : Int).toNat = 0 from rfl, List.getD_eq_getElem?_getD, List.getElem?_replicate]
        rw [if_pos (by omega)]; rfl
      rw [hg]
      have hcnt : (orderF c last n).count v = (orderF c last n).length := by rw [hor, List.count_replicate_self, List.length_replicate]
      rw [hcnt]
      simp
theorem law_true : ∀ xs : dens e_laws_FnSchedules.args, wfA e_laws_FnSchedules.args xs → laws_FnSchedules xs.1 = some (true, ()) := by
  intro ⟨code, _⟩ _
  show laws_FnSchedules code = some (true, ())
  unfold laws_FnSchedules laws_big
  simp only [Option.bind_some]
  by_cases hb : (code.length : Int) > 1048576
  · rw [bif_true (dec_true hb)]
  rw [bif_false (dec_false hb)]
  have hc : code.length ≤ 1048576 := by omega
  obtain ⟨l, last, e1, hl⟩ := draw_next code hc
  have hl' : l.length ≤ 100000 := by omega
  obtain ⟨c, from0, n, e2, hcl⟩ := draw_serve code hc
  have hcl' : c.length ≤ 100000 := by omega
  have hmost : ∀ (l : List TCandidate), l.length ≤ 100000 → (mostF l).length ≤ 100000 := fun l h => by
    unfold mostF
    cases ac l
    · simp
    · simp only [cond_true, List.length_map]; exact Nat.le_trans (List.length_filter_le _ _) h
  have ho := orderF_len c from0 n
  simp only [e1, e2, Option.bind_some, next_impl l last hl', next_spec l last hl', most_impl l hl', most_spec l hl', plain_impl l last hl', plain_spec l last hl', impl_are l hl', spec_are l hl', serve_impl c from0 n hcl', serve_spec c from0 n hcl', most_spec c hcl',
    bne_self_eq_false, cond_false, sameInts_refl (mostF l) (by have := hmost l hl'; omega), sameInts_refl (orderF c from0 n) (by omega), Bool.not_true, Bool.false_or, beq_self_eq_true, has_eq (mostF l) _ (hmost l hl')]
  have hid : (ac l && !(decide (nextF l last ≥ 0) == decide ((l.length : Int) > 0))) = false := by
    cases ha : ac l
    · rfl
    · by_cases h0 : l = []
      · subst h0; rfl
      · have := urg_mem_nonneg ha (nextF_mem ha h0 last)
        have h1 : decide (nextF l last ≥ 0) = true := dec_true this
        have h2 : decide ((l.length : Int) > 0) = true := dec_true (by have := List.length_pos_iff.2 h0; omega)
        rw [h1, h2]; rfl
  have hmem : (decide (nextF l last ≥ 0) && !(decide (nextF l last ∈ mostF l))) = false := by
    cases ha : ac l
    · have : nextF l last = -1 := by unfold nextF; rw [ha]; rfl
      rw [this]; rfl
    · by_cases h0 : l = []
      · subst h0; rfl
      · have := nextF_mem ha h0 last
        have hm : nextF l last ∈ mostF l := by unfold mostF; rw [ha]; exact this
        rw [dec_true hm, Bool.not_true, Bool.and_false]
  simp only [hid, cond_false, Bool.false_or]
  have hfin : ∀ {β : Type} (k : Bool × Unit → Option β), (bif decide (nextF l last ≥ 0) then some (decide (nextF l last ∈ mostF l), ()) else some (false, ())).bind k = k (decide (nextF l last ≥ 0) && decide (nextF l last ∈ mostF l), ()) := fun k => by
    cases decide (nextF l last ≥ 0) <;> rfl
  rw [hfin]
  have hb2 : (decide (nextF l last ≥ 0) && !(decide (nextF l last ≥ 0) && decide (nextF l last ∈ mostF l))) = false := by
    revert hmem
    cases decide (nextF l last ≥ 0) <;> cases decide (nextF l last ∈ mostF l) <;> simp
  simp only [hb2, cond_false]
  have := law_loop code (orderF c from0 n) (mostF c) (hmost c hcl') c (fun share alone hs h1 h2 h3 => tail_ok code hc c hcl' from0 n share alone hs h1 h2 h3)
    (laws_FnSchedules_l1_fuel code c (orderF c from0 n) [] false (mostF c) 0) [] false [] c rfl (by simpa using hcl') (by simpa using hcl') (by simp) (fun _ x hx => by cases hx) (fun h => by cases h) (by unfold laws_FnSchedules_l1_fuel; omega)
  exact this

theorem fnSchedules_own : ownKnob Try.prog.godebug = none := by kernel_rfl
set_option maxRecDepth 100000 in
theorem fnSchedules_lifted (os : Os) (started : os.Started) (H : Type) (enc : TypeId × Value → H) :
    ReturnsInHanded {} Try.checked os 8 .any (Rows.fnSchedulesSpec.pre6 enc Try.prog Try.f8 Rows.fnSchedulesRow.domain false) (Rows.fnSchedulesSpec.post enc Try.prog Try.f8 false true false false) := by
  refine returnsInHanded_of_change (C := Try.checked) fnSchedules_own started (by kernel_rfl) Try.func8
    (ChangeSpec.witness6 (enc := enc) (C := Try.checked) false ⟨#[], #[.slice none 0 0], []⟩ 8 (by kernel_rfl) (by kernel_rfl) (by kernel_rfl) (by kernel_rfl)) ?_
  intro W base args ds gs before hval hW _ _
  exact law_contract ok_laws_FnSchedules law_true rfl (fun H ds h => by
    match ds, h with
    | [d0], _ => rfl) (by kernel_rfl) (by kernel_rfl) rfl Try.underlying4 W base args ds gs before hval trivial hW
/-- The law returns true for all arguments. -/
theorem fnSchedules_proved : Rows.FnSchedulesSaid :=
  OpenClaim.holds_of_wide 8 Try.f8 rfl rfl rfl rfl rfl rfl rfl ⟨rfl, rfl, rfl, rfl, rfl⟩ rfl rfl rfl rfl rfl (by kernel_rfl) Try.func8 (by kernel_rfl)
    (of_decide_eq_true (by kernel_rfl)) (by unfold Func.isWrapper; first | (rw [if_pos (by decide +kernel)]; kernel_rfl) | (rw [if_neg (by decide +kernel)]; exact ⟨rfl, rfl⟩))
    (fun os started H enc _ => fnSchedules_lifted os started H enc)
#print axioms fnSchedules_proved
end Go.Proofs.Ytifcipnimblkpaa

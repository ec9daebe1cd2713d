/- FnTraces: the plain law, part 2. No condition. -/
import Derived.Test.YtahooemkbchdeaaGreatDoorP1
namespace Go.Proofs.YtahooemkbchdeaaGreatDoor
open Go.Am
set_option maxRecDepth 100000
set_option linter.unusedVariables false
theorem Qso (n : Int) : T (Zle n) fun r => 0 ≤ r.1 ∧ r.1 ≤ 8 := by
 unfold Zle
 exact T.if (T.pure (by simp)) (T.if (T.pure (by simp)) (T.if (T.pure (by simp)) (T.if (T.pure (by simp)) (T.pure (by simp)))))
theorem Qxm (n k : Int) : ∀ (N m : Nat) (s : List UInt8), m < N → m ≤ 8 → s.length + m ≤ 8 → T (Xt N n k s ((m : Int) - 1)) fun r => r.1.length ≤ 8
 | 0, _, _, h, _, _ => by omega
 | N + 1, 0, s, _, _, hs => by
  unfold Xt
  exact T.ite (fun h => by simp at h) fun _ => T.pure (by simpa using hs)
 | N + 1, m + 1, s, hN, hm, hs => by
  unfold Xt
  have j : ∀ b, T (Kp (fun v => Xt N v.1 v.2.1 v.2.2.1 v.2.2.2.1) n k s (((m + 1 : Nat) : Int) - 1) b) fun r => r.1.length ≤ 8 := fun b => by
   unfold Kp
   obtain ⟨d, e, hd⟩ := Qtn b
   have e2 : IntKind.i64.wrap (((m + 1 : Nat) : Int) - 1 - 1) = (m : Int) - 1 := by rw [Zx (by omega) (by omega)]; omega
   rw [e, Option.bind_some, e2]
   exact T.guard (by unfold Z5; simp only; omega) (Qxm n k N m _ (by omega) (by omega) (by simp only [List.length_append]; omega))
  exact T.ite (fun _ => T.guard (by rw [Zx (by omega) (by omega)]; omega) (T.if (T.if (j _) (T.if (j _) (T.if (j _) (j _)))) (j _))) fun h => by have := of_decide_eq_false h; omega
theorem Q25 (n : Int) : T (Zlr n) fun r => r.1.length ≤ 8 := by
 unfold Zlr
 refine (Qso n).bind fun t ht => ?_
 obtain ⟨m, hm⟩ := Int.eq_ofNat_of_zero_le ht.1
 have e2 : IntKind.i64.wrap (t.1 - 1) = (m : Int) - 1 := by rw [Zx (by omega) (by omega)]; omega
 rw [e2]
 exact Qxm n _ _ m [] (by unfold Zf8; omega) (by omega) (by simp; omega)
theorem Qut (l : List Int) (hl : l.length ≤ 1000) : ∀ (N i : Nat) (s : List UInt8), l.length - i < N → i ≤ l.length → s.length ≤ 8 * i → T (Zbl N l s (i : Int)) fun r => r.1.length ≤ 8 * l.length
 | 0, _, _, h, _, _ => by omega
 | N + 1, i, s, hN, hi, hs => by
  unfold Zbl
  refine T.ite (fun hc => ?_) fun _ => T.pure (by simp only; omega)
  have hc := of_decide_eq_true hc
  refine T.guard (by omega) ((Qso _).bind fun t _ => T.if (T.pure (by simp)) (T.guard (by omega) ((Q25 _).bind fun t ht => T.guard (by unfold Z5; omega) ?_)))
  rw [Zs (m := l.length) (by omega) (by omega)]
  exact Qut l hl N (i + 1) _ (by omega) (by omega) (by simp only [List.length_append]; omega)
theorem Q2h (l : List Int) (hl : l.length ≤ 1000) : T (Xq l) fun r => r.1.length ≤ 8 * l.length := by
 unfold Xq
 exact Qut l hl _ 0 _ (by unfold Ze1; omega) (by omega) (by simp)
theorem Qq2 {f : Zg} (h : FOK f) : T (Zf7 f) fun r => r.1.length ≤ 1100 := by
 have q : ∀ l : List Int, l.length ≤ 4 → T (Xq l) fun r => r.1.length ≤ 32 := fun l hl => (Q2h l (by omega)).mono fun y hy => by omega
 have one : ∀ l : List Int, l.length ≤ 4 → T (Option.bind (Xq l) fun t => some (t.1, ())) fun r => r.1.length ≤ 1100 := fun l hl => (q l hl).bind fun t ht => T.pure (by simp only; omega)
 have two : ∀ l : List Int, l.length ≤ 4 → T (Option.bind (Xq l) fun t => Zb (t.1.length + f.2.2.2.1.length ≤ Z5) <| some (t.1 ++ f.2.2.2.1, ())) fun r => r.1.length ≤ 1100 := fun l hl => (q l hl).bind fun t ht => by
  unfold FOK at h
  exact T.guard (by unfold Z5; omega) (T.pure (by simp only [List.length_append]; omega))
 have j1 : ∀ k, T (Zfd f k) fun r => r.1.length ≤ 1100 := fun k => T.if (two _ (by simp)) (two _ (by simp))
 have j4 : ∀ k, T (Zfg f k) fun r => r.1.length ≤ 1100 := fun k => one _ (by simp)
 have j3 : ∀ b, T (Zff f b) fun r => r.1.length ≤ 1100 := fun b => T.if (one _ (by simp)) (T.if (j4 _) (j4 _))
 have j2 : ∀ k b, T (Zfe f k b) fun r => r.1.length ≤ 1100 := fun k b => T.if (one _ (by simp)) (T.if (j3 _) (j3 _))
 unfold Zf7
 exact (Z1c h).bind fun t _ => T.if (T.pure (by simp)) (T.if (one _ (by simp)) (T.if (one _ (by simp)) (T.if (T.if (j1 _) (j1 _)) (T.if (j2 _ _) (j2 _ _)))))
theorem Z09 {f : Zg} (h : FOK f) : T (Zcu f) fun r => 0 ≤ r.1 ∧ r.1 ≤ 1100 := by
 unfold Zcu
 exact (Qq2 h).bind fun t ht => T.pure (by simp only; omega)
theorem Qq3 (l : List Zg) (h : Qos l) : ∀ (N i : Nat) (s : List UInt8), l.length - i < N → i ≤ l.length → s.length ≤ 1100 * i → T (Wt N l s (i : Int)) fun r => r.1.length ≤ 400
 | 0, _, _, h, _, _ => by omega
 | N + 1, i, s, hN, hi, hs => by
  have hl := h.1
  unfold Wt
  refine T.ite (fun hc => ?_) fun _ => T.ite (fun _ => T.pure (by simp)) fun h => T.pure (by have := of_decide_eq_false h; simp only; omega)
  have hc := of_decide_eq_true hc
  refine T.guard (by omega) ((Qq2 (h.2 _ (Xc (by omega)))).bind fun t ht => T.if (T.pure (by simp)) (T.guard (by unfold Z5; omega) ?_))
  rw [Zs (m := l.length) (by omega) (by omega)]
  exact Qq3 l h N (i + 1) _ (by omega) (by omega) (by simp only [List.length_append]; omega)
theorem Q00 {l : List Zg} (h : Qos l) : T (Zhm l) fun r => r.1.length ≤ 400 := by
 unfold Zhm
 exact Qq3 l h _ 0 _ (by unfold Zcr; omega) (by omega) (by simp)
theorem Qzp {K : Nat} {c : Zi} {s : Zo} (hs : Ka K s) (k : Int) : T (Zq8 c s k) fun r => Ka K r.1.1 := by
 unfold Zq8
 exact T.if (T.pure (by exact ⟨hs.snd, hs.rcv⟩)) (T.if (T.pure (by exact ⟨hs.snd, hs.rcv⟩)) (T.if ((Qnx _ _).bind fun t _ => T.if (T.pure (by exact ⟨hs.snd, hs.rcv⟩)) (T.pure (by exact ⟨hs.snd, hs.rcv⟩))) (T.if ((Qxf _).bind fun t _ => T.pure (by exact ⟨hs.snd, hs.rcv⟩)) (T.pure hs))))
theorem Qr1 {K : Nat} {c : Zi} (h : Qo K c) (hK : K + 1 ≤ 500000) (f : Zg) : T (Zkg c f) fun r => Qo (K + 1) r.1 := by
 unfold Zkg
 rw [Zdi h (by omega), Option.bind_some]
 have m := h.mono (K' := K + 1) (by omega)
 exact (Zy7 h (by omega)).bind fun t _ => T.if (T.pure m) (T.if ((Qru c).bind fun t _ => T.pure (by exact ⟨m.str, m.pk⟩)) (T.if (T.if ((Z8n _ _).bind fun t _ => T.pure (by exact ⟨m.str, m.pk⟩)) ((Z8n _ _).bind fun t _ => T.pure (by exact ⟨m.str, m.pk⟩)))
  (T.if ((Qxf _).bind fun t _ => T.pure (by exact ⟨m.str, m.pk⟩)) (T.if (T.if (T.pure (by exact ⟨m.str, m.pk⟩)) (T.pure (by exact ⟨m.str, m.pk⟩)))
   ((Zhw h (by omega) _).bind fun s hs => T.if ((Qzp hs _).bind fun t ht => (Jb h.str ht (Nat.le_refl _) hK).bind fun t3 h3 => T.pure (h.up (by omega) h3)) (T.pure m))))))
theorem Q0c {K : Nat} {c : Zi} (h : Qo K c) (hK : K ≤ 1000000) : T (Zl5 c) fun r => r.1.length ≤ K := by
 have hl := h.str.len
 have lp : ∀ (N i : Nat) (o : List Zz), c.2.2.2.1.length - i < N → i ≤ c.2.2.2.1.length → o.length ≤ i → T (J4 N c o (i : Int)) fun r => r.1.length ≤ K := by
  intro N
  induction N with
  | zero => intro i o h; omega
  | succ N ih =>
   intro i o hN hi ho
   unfold J4
   refine T.ite (fun hc => ?_) fun _ => T.pure (by simp only; omega)
   have hc := of_decide_eq_true hc
   have j : ∀ o, o.length ≤ i + 1 → T (Zdb (fun v => J4 N v.1 v.2.1 v.2.2.1) c o (i : Int)) fun r => r.1.length ≤ K := fun o ho => by
    unfold Zdb
    rw [Zs (m := c.2.2.2.1.length) (by omega) (by omega)]
    exact ih (i + 1) o (by omega) (by omega) ho
   exact T.guard (by omega) (T.if (T.guard (by unfold Qp; simp only [List.length_singleton]; omega) (j _ (by simp; omega))) (j _ (by omega)))
 unfold Zl5
 exact lp _ 0 _ (by unfold Zgw; omega) (by omega) (by simp)
theorem Q0e (l : List Zz) (hl : l.length ≤ 1000000) (n : Int) : T (Zl6 l n) fun r => r.1.length ≤ l.length := by
 have lp : ∀ (N i : Nat) (o : List Zz), l.length - i < N → i ≤ l.length → o.length ≤ i → T (J5 N l n o (i : Int)) fun r => r.1.length ≤ l.length := by
  intro N
  induction N with
  | zero => intro i o h; omega
  | succ N ih =>
   intro i o hN hi ho
   unfold J5
   refine T.ite (fun hc => ?_) fun _ => T.pure (by simp only; omega)
   have hc := of_decide_eq_true hc
   have j : ∀ o, o.length ≤ i + 1 → T (Zdc (fun v => J5 N v.1 v.2.1 v.2.2.1 v.2.2.2.1) l n o (i : Int)) fun r => r.1.length ≤ l.length := fun o ho => by
    unfold Zdc
    rw [Zs (m := l.length) (by omega) (by omega)]
    exact ih (i + 1) o (by omega) (by omega) ho
   exact T.guard (by omega) (T.if (T.guard (by omega) (T.guard (by unfold Qp; simp only [List.length_singleton]; omega) (j _ (by simp; omega)))) (j _ (by omega)))
 unfold Zl6
 exact lp _ 0 _ (by unfold Zgx; omega) (by omega) (by simp)
theorem Qw4 (l : List Zz) (hl : l.length ≤ 1000000) : TT (Zhh l) := by
 have lp : ∀ (N i : Nat), l.length - i < N → i ≤ l.length → TT (Wm N l (i : Int)) := by
  intro N
  induction N with
  | zero => intro i h; omega
  | succ N ih =>
   intro i hN hi
   unfold Wm
   refine T.ite (fun hc => ?_) fun _ => T.tt
   have hc := of_decide_eq_true hc
   refine T.guard (by omega) ((Qst _).bind fun t _ => T.guard (fun _ => by omega) (T.bind (Q := fun _ => True) (T.if T.tt (tt1 (Zrl _))) fun t _ => T.guard (fun _ _ => by omega) (T.guard (fun _ h => ?_) (T.if T.tt ?_))))
   ·have := of_decide_eq_true h
    rw [Zx (by omega) (by omega)]; omega
   ·rw [Zs (m := l.length) (by omega) (by omega)]
    exact ih (i + 1) (by omega) (by omega)
 unfold Zhh
 exact lp _ 0 (by unfold Zcn; omega) (by omega)
theorem Qtt (l : List Zz) (hl : l.length ≤ 1000000) : T (Zlz l) fun r => r.1.length ≤ l.length := by
 have lp : ∀ (N i : Nat) (o : List Int) (b : Int), l.length - i < N → i ≤ l.length → o.length ≤ i → T (Ks N l o b (i : Int)) fun r => r.1.length ≤ l.length := by
  intro N
  induction N with
  | zero => intro i o b h; omega
  | succ N ih =>
   intro i o b hN hi ho
   unfold Ks
   refine T.bind (Q := fun _ => True) (T.if (Qw4 l hl) T.tt) fun t _ => T.ite (fun hc => ?_) fun _ => T.pure (by simp only; omega)
   have hc : (i : Int) < l.length := by simp at hc; omega
   have j1 : ∀ o b, o.length ≤ i + 1 → T (Zc0 (fun v => Ks N v.1 v.2.1 v.2.2.1 v.2.2.2.1) l o b (i : Int)) fun r => r.1.length ≤ l.length := fun o b ho => by
    unfold Zc0
    rw [Zs (m := l.length) (by omega) (by omega)]
    exact ih (i + 1) o b (by omega) (by omega) ho
   have j2 : ∀ o b, o.length ≤ i → T (Zc1 (fun v => Ks N v.1 v.2.1 v.2.2.1 v.2.2.2.1) l o b (i : Int)) fun r => r.1.length ≤ l.length := fun o b ho => by
    unfold Zc1
    exact T.guard (by omega) (T.if (T.guard (by omega) (T.guard (by unfold Qp; simp only [List.length_singleton]; omega) (j1 _ _ (by simp; omega)))) (j1 _ _ (by omega)))
   exact T.guard (by omega) (T.if (T.guard (by omega) (j2 _ _ (by simp))) (j2 _ _ ho))
 unfold Zlz
 exact lp _ 0 _ _ (by unfold Zgc; omega) (by omega) (by simp)
theorem Qy6 (l : List Int) (hl : l.length ≤ 10000000000) (n : Int) : TT (Zo8 l n) := by
 have lp : ∀ (N i : Nat), l.length - i < N → i ≤ l.length → TT (Zgs N l n (i : Int)) := by
  intro N
  induction N with
  | zero => intro i h; omega
  | succ N ih =>
   intro i hN hi
   unfold Zgs
   refine T.ite (fun hc => ?_) fun hc => T.ite (fun _ => T.tt) fun h => T.guard (by simp at h; have := List.length_pos_iff.2 h; omega) T.tt
   have hc := of_decide_eq_true hc
   refine T.guard (by omega) (T.if (T.guard (by omega) T.tt) ?_)
   rw [Zs (m := l.length) (by omega) (by omega)]
   exact ih (i + 1) (by omega) (by omega)
 unfold Zo8
 exact lp _ 0 (by unfold Ziw; omega) (by omega)
theorem Qty (l : List Zz) (hl : l.length ≤ 100000) (n : Int) : TT (Zl0 l n) := by
 unfold Zl0
 refine (Qtt l (by omega)).bind fun m hm => ?_
 generalize m.1 = m at hm
 have lp : ∀ (N i : Nat) (o : List Int), l.length - i < N → i ≤ l.length → o.length ≤ i * m.length → TT (Kt N l n m o (i : Int)) := by
  intro N
  induction N with
  | zero => intro i o h; omega
  | succ N ih =>
   intro i o hN hi ho
   have hb : i * m.length ≤ 100000 * 100000 := Nat.mul_le_mul (by omega) (by omega)
   unfold Kt
   refine T.ite (fun hc => ?_) fun _ => (Qy6 o (by omega) n).bind fun t _ => T.tt
   have hc : i < l.length := by have := of_decide_eq_true hc; omega
   have l2 : ∀ (M k : Nat) (o : List Int), m.length - k < M → k ≤ m.length → o.length ≤ i * m.length + k → TT (J3 (fun v => Kt N v.1 v.2.1 v.2.2.1 v.2.2.2.1 v.2.2.2.2.1) M l n m o (i : Int) (k : Int)) := by
    intro M
    induction M with
    | zero => intro k o h; omega
    | succ M ih2 =>
     intro k o hM hk ho
     unfold J3
     refine T.ite (fun hd => ?_) fun hd => ?_
     ·have hd : k < m.length := by have := of_decide_eq_true hd; omega
      have j : ∀ o : List Int, o.length ≤ i * m.length + k + 1 → TT (Zc4 (fun v => Kt N v.1 v.2.1 v.2.2.1 v.2.2.2.1 v.2.2.2.2.1) (fun v => J3 (fun v => Kt N v.1 v.2.1 v.2.2.1 v.2.2.2.1 v.2.2.2.2.1) M v.1 v.2.1 v.2.2.1 v.2.2.2.1 v.2.2.2.2.1 v.2.2.2.2.2.1) l n m o (i : Int) (k : Int)) := fun o ho => by
       unfold Zc4
       rw [Zs hd (by omega)]
       exact ih2 (k + 1) o (by omega) (by omega) ho
      exact T.guard (by omega) (T.guard (by omega) (T.guard (fun _ => by omega) (T.if (T.guard (by omega) T.tt) (T.guard (by omega) (T.guard (by omega) (T.if (T.guard (by omega) (T.guard (by unfold Qp; simp only [List.length_singleton]; omega) (j _ (by simp; omega)))) (j _ (by omega))))))))
     ·have hd := of_decide_eq_false hd
      have e : k = m.length := by omega
      rw [Zs hc (by omega)]
      exact ih (i + 1) o (by omega) (by omega) (by rw [Nat.succ_mul]; omega)
   exact l2 _ 0 o (by unfold Zgh; omega) (by omega) ho
 exact lp _ 0 _ (by unfold Zgg; omega) (by omega) (by simp)
theorem Qyi {K : Nat} {c : Zi} (h : Qo K c) (hK : K ≤ 1000000) (i room : Int) : T (Zo7 c i room) fun r => r.1.2.1.length ≤ 64 := by
 have z : Zmm.2.1.length ≤ 64 := Nat.zero_le _
 have lp : ∀ (t : Yh) (s : Zo) (m : Int), Ka K s → ∀ (N n : Nat), n < N → n ≤ 60 → T (Zgn N i room t s m (n : Int)) fun r => r.1.2.1.length ≤ 64 := by
  intro t s m hs N
  induction N with
  | zero => intro n h; omega
  | succ N ih =>
   intro n hn h60
   unfold Zgn
   refine T.ite (fun hc => ?_) fun _ => T.pure z
   have hc := of_decide_eq_true hc
   obtain ⟨p, ok, e, hp⟩ := Qn4 hs.snd (n : Int) m (by omega)
   rw [e, Option.bind_some]
   have e2 : IntKind.i64.wrap ((n : Int) - 1) = ((n - 1 : Nat) : Int) := by rw [Zx (by omega) (by omega)]; omega
   rw [e2]
   exact T.if (T.pure z) (T.bind (Q := fun r => FOK r.1) (T.pure (by unfold FOK; simp only; omega)) fun f hf => (Z09 hf).bind fun t _ => T.if (T.pure (by simp only; omega)) (ih (n - 1) (by omega) (by omega)))
 have cl : ∀ c, TT (V6 c) := fun c => by
  unfold V6
  exact (tt1 (Zhy c)).bind fun t _ => T.if T.tt T.tt
 unfold Zo7
 refine (Zhw h hK i).bind fun s hs => (Zy7 h hK).bind fun t _ => T.ite (fun _ => T.pure z) fun hc => (cl _).bind fun t _ => ?_
 have hr : ¬ room < 3 := by simp at hc; omega
 obtain ⟨n, hn⟩ := Int.eq_ofNat_of_zero_le (show 0 ≤ min room 60 by omega)
 simp only [hn]
 exact lp _ _ _ hs _ n (by unfold Ziv; omega) (by omega)
theorem Qls (c : Qq) (n : Int) : TT (Zjv c n) := by
 unfold Zjv
 exact (tt1 (Zhy c)).bind fun t _ => T.if T.tt T.tt
theorem Qwa {K : Nat} {c : Zi} (h : Qo K c) (hK : K + 1 ≤ 500000) (i : Int) (p : Yh) : T (Zjr c i p) fun r => Qo (K + 1) r.1 := by
 unfold Zjr
 rw [Zdi h (by omega), Option.bind_some]
 refine (Zhw h (by omega) i).bind fun s hs => (Zy7 h (by omega)).bind fun t _ => T.if (T.pure (h.mono (by omega))) ?_
 obtain ⟨x, ok, e, h1⟩ := Qoh hs.snd p (by omega)
 rw [e, Option.bind_some]
 exact (Qls _ _).bind fun t _ => (Qls _ _).bind fun t _ => T.if (T.pure (h.mono (by omega))) ((Jb h.str (by exact ⟨h1, hs.rcv⟩) (Nat.le_refl _) hK).bind fun t3 h3 => T.pure (by exact ⟨h3, h.pk.mono (by omega)⟩))
theorem Qx2 {K : Nat} {c : Zi} (h : Qo K c) (hK : K + 1 ≤ 500000) (i : Int) : T (Zpa c i) fun r => Qo (K + 1) r.2.1 := by
 unfold Zpa
 exact (Zhw h (by omega) i).bind fun s hs => (Q0m _).bind fun t _ => (Q0m _).bind fun t _ => (Jb h.str (by exact ⟨hs.snd, hs.rcv⟩) (Nat.le_refl _) hK).bind fun t3 h3 => T.pure (by exact ⟨h3, h.pk.mono (by omega)⟩)
theorem Qxn {K F : Nat} (hK : K ≤ 90000) (hF : F ≤ 1000000) : ∀ (N i : Nat) (x : Zi) (fr : List Zg) (room : Int) (sk : List Int), 200 - i < N → i ≤ 200 → Qo (K + i) x → FL (F + i) fr → sk.length ≤ i →
  T (V8 N x fr room sk (i : Int)) fun r => Qo (K + 200) r.2.1 ∧ FL (F + 200) r.1.1
 | 0, _, _, _, _, _, h, _, _, _, _ => by omega
 | N + 1, i, x, fr, room, sk, hN, hi, hx, hf, hs => by
  unfold V8
  refine T.ite (fun hc => ?_) fun hc => T.pure ⟨hx.mono (by omega), hf.mono (by omega)⟩
  have hc : i < 200 := by have := of_decide_eq_true hc; omega
  refine (Q0c hx (by omega)).bind fun w hw => ?_
  have j1 : ∀ (x : Zi) (fr : List Zg) (room : Int) (sk : List Int), Qo (K + i + 1) x → FL (F + i + 1) fr → sk.length ≤ i + 1 →
    T (Zh9 (fun v => V8 N v.1 v.2.1 v.2.2.1 v.2.2.2.1 v.2.2.2.2.1) x fr room sk (i : Int)) fun r => Qo (K + 200) r.2.1 ∧ FL (F + 200) r.1.1 := fun x fr room sk hx hf hs => by
   unfold Zh9
   rw [Zs hc (by omega)]
   exact Qxn hK hF N (i + 1) x fr room sk (by omega) (by omega) hx hf hs
  have j2 : ∀ (id : Int) (p : Yh) (y : Zi) (ok : Bool), p.2.1.length ≤ 64 → Qo (K + i + 1) y →
    T (Yf (fun v => V8 N v.1 v.2.1 v.2.2.1 v.2.2.2.1 v.2.2.2.2.1) x fr room sk (i : Int) id p y ok) fun r => Qo (K + 200) r.2.1 ∧ FL (F + 200) r.1.1 := fun id p y ok hp hy => by
   unfold Yf
   exact T.if (T.pure ⟨hx.mono (by omega), hf.mono (by omega)⟩) (T.bind (Q := fun r => FOK r.1) (T.pure (by unfold FOK; simp only; omega)) fun f hf2 => T.guard (by have := hf.1; unfold Qp; simp only [List.length_singleton]; omega) ((Z09 hf2).bind fun t _ => j1 _ _ _ _ hy (hf.one hf2) (by omega)))
  have l2 : ∀ (M k : Nat) (l : List Zz), sk.length - k < M → k ≤ sk.length → l.length ≤ K + i →
    T (Zia (fun v => V8 N v.1 v.2.1 v.2.2.1 v.2.2.2.1 v.2.2.2.2.1) M x fr room sk (i : Int) l (k : Int)) fun r => Qo (K + 200) r.2.1 ∧ FL (F + 200) r.1.1 := by
   intro M
   induction M with
   | zero => intro k l h; omega
   | succ M ih =>
    intro k l hM hk hl
    unfold Zia
    refine T.ite (fun hd => ?_) fun hd => ?_
    ·have hd := of_decide_eq_true hd
     refine T.guard (by omega) ((Q0e l (by omega) _).bind fun t ht => ?_)
     rw [Zs (m := sk.length) (by omega) (by omega)]
     exact ih (k + 1) _ (by omega) (by omega) (by omega)
    ·simp only [Wh, Vk]
     exact (Qty l (by omega) _).bind fun n _ => T.if (T.pure ⟨hx.mono (by omega), hf.mono (by omega)⟩) ((Qyi hx (by omega) _ _).bind fun p hp => T.if
      ((Qx2 hx (by omega) _).bind fun t ht => T.guard (by unfold Qp; simp only [List.length_singleton]; omega) (j1 _ _ _ _ ht (hf.mono (by omega)) (by simp; omega)))
      ((Qwa hx (by omega) _ _).bind fun t ht => j2 _ _ _ _ hp ht))
  exact l2 _ 0 w.1 (by unfold Zj7; omega) (by omega) hw
theorem Qzq {K F : Nat} (hK : K ≤ 90000) (hF : F ≤ 1000000) {x : Zi} {fr : List Zg} (hx : Qo K x) (hf : FL F fr) (room : Int) : T (Zq9 x fr room) fun r => Qo (K + 200) r.2.1 ∧ FL (F + 200) r.1.1 := by
 unfold Zq9
 exact Qxn hK hF _ 0 x fr room [] (by unfold Zj6; omega) (by omega) hx hf (by simp)
theorem Qs8 {K : Nat} {c : Zi} (h : Qo K c) (hK : K ≤ 80000) (b : Int) : T (Zlq c b) fun r => Qo (K + 1000) r.1.2.2.1 := by
 have lp : ∀ (t : Zi) (l : List Zg), FL 606 l → ∀ (N i : Nat) (x : Zi) (fr : List Zg) (room : Int), l.length - i < N → i ≤ l.length → Qo (K + i) x → FL i fr →
   T (J2 N c t x fr room l (i : Int)) fun r => Qo (K + 1000) r.1.2.2.1 := by
  intro t l hl N
  have h606 := hl.1
  induction N with
  | zero => intro i x fr room h; omega
  | succ N ih =>
   intro i x fr room hN hi hx hf
   have j1 : ∀ (x : Zi) (fr : List Zg) (room : Int), i < l.length → Qo (K + i + 1) x → FL (i + 1) fr →
     T (Zcq (fun v => J2 N v.1 v.2.1 v.2.2.1 v.2.2.2.1 v.2.2.2.2.1 v.2.2.2.2.2.1 v.2.2.2.2.2.2.1) c t x fr room l (i : Int)) fun r => Qo (K + 1000) r.1.2.2.1 := fun x fr room hc hx hf => by
    unfold Zcq
    rw [Zs hc (by omega)]
    exact ih (i + 1) x fr room (by omega) (by omega) hx hf
   unfold J2
   refine T.ite (fun hc => ?_) fun hc => ?_
   ·have hc := of_decide_eq_true hc
    have hm := hl.2 _ (Xc (d := Qg) (show i < l.length by omega))
    exact T.guard (by omega) ((Z09 hm).bind fun t _ => T.if (T.guard (by omega) ((Z09 hm).bind fun t _ => T.guard (by omega) ((Qr1 hx (by omega) _).bind fun t ht => T.guard (by omega) (T.guard (by have := hf.1; unfold Qp; simp only [List.length_singleton]; omega) (j1 _ _ _ (by omega) ht (hf.one hm)))))) (j1 _ _ _ (by omega) (hx.mono (by omega)) (hf.mono (by omega))))
   ·refine (Qzq (by omega) (by omega) hx hf _).bind fun r hr => T.if (T.pure (hr.1.mono (by omega))) ?_
    have hp := hr.1.pk.1
    have hf : Qos r.1.1 := ⟨by have := hr.2.1; omega, hr.2.2⟩
    exact T.guard (by unfold Qp; simp only [List.length_singleton]; omega) ((Q00 hf).bind fun t _ => T.pure (by exact ⟨hr.1.str.mono (by omega), ⟨by simp only [List.length_append, List.length_singleton]; omega, fun p hp => by
     rcases List.mem_append.1 hp with hp | hp
     ·exact hr.1.pk.2 p hp
     ·rw [List.mem_singleton.1 hp]; exact hf⟩⟩))
 unfold Zlq
 rw [Zdi h (by omega), Option.bind_some]
 exact (Qrt h (by omega)).bind fun t ht => T.bind (Q := fun _ => True) (T.if T.tt (tIn _ _ _)) fun t _ => T.ite (fun _ => T.pure (h.mono (by omega))) fun hc => (Qly h (by omega)).bind fun l hl => by
  have := ht (by simp at hc; simp [hc])
  exact lp _ _ (hl.mono (by omega)) _ 0 _ _ _ (by unfold Zf6; omega) (by omega) h FL.nil
theorem Qkb (n : Int) : ∀ (N m K : Nat) (c : Zi), m < N → K + m ≤ 400000 → Qo K c → T (Xs N c n ((m : Int) - 1)) fun r => Qo (K + m) r.2.1
 | 0, _, _, _, h, _, _ => by omega
 | N + 1, 0, K, c, _, _, h => by
  unfold Xs
  exact T.ite (fun h => by simp at h) fun _ => T.pure h
 | N + 1, m + 1, K, c, hN, hK, h => by
  unfold Xs
  simp only [Wh, Vk]
  refine T.ite (fun _ => (Qkj _ _ _ _).bind fun s hs => ?_) fun h => by have := of_decide_eq_false h; omega
  unfold Y0
  have e : IntKind.i64.wrap (((m + 1 : Nat) : Int) - 1 - 1) = (m : Int) - 1 := by rw [Zx (by omega) (by omega)]; omega
  rw [e]
  exact (Jb h.str (hs.mono (by omega)) (Nat.le_refl _) (by omega)).bind fun t ht => (Qkb n N m (K + 1) _ (by omega) (by omega) (h.up (by omega) ht)).mono fun r hr => hr.mono (by omega)
theorem Qx1 {K : Nat} {c : Zi} (h : Qo K c) (n : Int) (m : Nat) (hK : K + m ≤ 400000) : T (Zq4 c n (m : Int)) fun r => Qo (K + m) r.2.1 := by
 unfold Zq4
 rw [Zx (by omega) (by omega)]
 exact Qkb n _ m K c (by unfold Zj0; omega) hK h
theorem inT (n a b : Int) : T (Z4 n a b) fun r => r.1 = true → a ≤ n ∧ n ≤ b := ⟨_, Zqi n a b, fun h => by simpa using h⟩
theorem Qxy (a : Qq) : T (Vr a) fun r => r.1 = true → a.2.1 ≤ 1152921504606846976 ∧ 0 ≤ a.2.2.1 ∧ a.2.2.1 ≤ a.2.1 := by
 unfold Vr
 have B : ∀ {b : Bool} {n l h : Int} {β : Type} {f : Bool × Unit → Option β} {R : β → Prop}, (∀ r : Bool × Unit, (r.1 = true → l ≤ n ∧ n ≤ h) → T (f r) R) → T (Option.bind (bif b then Z4 n l h else some (false, ())) f) R := fun k => T.bind (T.if (inT _ _ _) (T.pure fun h => by cases h)) k
 exact (inT _ _ _).bind fun t1 h1 => B fun t2 h2 => B fun t3 h3 => B fun t4 h4 => T.pure fun h => by
  simp only [Bool.and_eq_true] at h
  have := h2 h.1.1.1.2
  have := h3 h.1.1.2
  omega
theorem Qwp (a : Qq) (n : Int) : T (Zij a n) fun r => 0 ≤ r.2.1 ∧ r.2.1 ≤ 1152921504606846976 := by
 unfold Zij
 refine (Qxy a).bind fun t ht => T.ite (fun _ => T.pure (by simp)) fun hc => T.pure ?_
 simp at hc
 have := ht hc.1.1
 simp only
 rw [Zx (n := n + 1) (by omega) (by omega), Zx (n := n + 1 - a.2.2.1) (by omega) (by omega)]
 omega
theorem Zqq {K : Nat} {c : Zi} (h : Qo K c) (hK : K ≤ 300000) (i : Int) : T (Vp c i) fun r => Qo (K + 24) r.1 := by
 have hl := h.str.len
 have j3 : ∀ t x (n : Nat), n ≤ 24 → Qo K x → T (Zap i t x (n : Int)) fun r => Qo (K + 24) r.1 := fun t x n hn hx => by
  unfold Zap
  exact (Qx1 hx i n (by omega)).bind fun r hr => T.pure (hr.mono (by omega))
 have j2 : ∀ t x b n is, 0 ≤ n → n ≤ 1152921504606846976 → Qo K x → T (Zp i c t x b n is) fun r => Qo (K + 24) r.1 := fun t x b n is h0 h1 hx => by
  unfold Zp
  refine T.ite (fun _ => T.pure (hx.mono (by omega))) fun hc => ?_
  have hn : n ≤ 24 := by
   simp at hc
   have := hc.2
   rw [Zx (by omega) (by omega)] at this
   omega
  obtain ⟨n, rfl⟩ := Int.eq_ofNat_of_zero_le h0
  exact (Q2f i).bind fun t _ => T.if (j3 _ _ n (by omega) (by exact ⟨hx.str, hx.pk⟩)) (j3 _ _ n (by omega) (by exact ⟨hx.str, hx.pk⟩))
 have j1 : ∀ t x a, Qo K x → T (Zao i c t x a) fun r => Qo (K + 24) r.1 := fun t x a hx => by
  unfold Zao
  simp only [Wh, Vk]
  exact (tt1 (Qzi i)).bind fun t _ => (Qwp _ _).bind fun t ht => j2 _ _ _ _ _ ht.1 ht.2 hx
 unfold Vp
 rw [Zdi h (by omega), Option.bind_some]
 have m := h.mono (K' := K + 24) (by omega)
 exact (Zy7 h (by omega)).bind fun t _ => T.bind (Q := fun _ => True) (T.if T.tt (Qst i)) fun t _ => T.if (T.pure m) (T.bind (Q := fun _ => True) (tt1 (by obtain ⟨v, e, -⟩ := Z4l c.2.2.2.1 i (by omega); exact ⟨v, e⟩)) fun t _ => T.if (T.pure m) ((Q2n _ _).bind fun t _ => T.if (T.pure m) ((Q2f i).bind fun t _ => T.if (j1 _ _ _ h) (j1 _ _ _ h))))
theorem Qog (w : Y3) (n : Int) : TT (Zld w n) := by
 unfold Zld
 exact (tt1 (Znb w)).bind fun t _ => T.if T.tt T.tt
theorem Qu3 {K : Nat} {x : Zi} {s : Zo} (h : Qo K x) (hs : Ka K s) (hK : K ≤ 1000000) (e : Int) : T (Zny x s e) fun r => Qo K r.2.1 ∧ Ka K r.2.2.1 := by
 have nb : TT (Zo4 s.2.2.2.1 e) := by
  unfold Zo4
  exact (tt1 (Zjg hs.rcv hK)).bind fun t _ => T.bind (Q := fun _ => True) (T.if T.tt (Qst _)) fun t _ => T.if T.tt T.tt
 unfold Zny
 exact nb.bind fun t _ => T.if (T.pure ⟨h, hs⟩) ((Qog _ _).bind fun t _ => (Qog _ _).bind fun t _ => T.if (T.pure ⟨h, hs⟩) (T.pure ⟨⟨h.str, h.pk⟩, ⟨hs.snd, hs.rcv⟩⟩))
theorem Q0r (s : Bool) (n : Int) : TT (Zco s n) := tt1 (Qoz s n)
theorem Qyv (s : Bool) (n : Int) : TT (Je s n) := tt1 (Z3s s n)
theorem Qti {K : Nat} {c : Zi} {f : Zg} (h : Qo K c) (hf : FOK f) (hK : K ≤ 290000) : T (Zlt c f) fun r => Qo (K + 2000) r.1.1 := by
 have m := h.mono (K' := K + 2000) (by omega)
 have cp : ∀ v : Int, T (Option.bind (Z8 c) fun t => some ((t.1, (v, ())), ())) fun r => Qo (K + 2000) r.1.1 := fun v => by
  rw [Zdi h (by omega), Option.bind_some]; exact T.pure m
 unfold Zlt
 refine (Zy7 h (by omega)).bind fun t _ => T.bind (Q := fun _ => True) (T.if T.tt (Z1c hf)) fun t _ => T.if (cp 7) ((Qyv _ _).bind fun t _ => T.if (cp 5) ((Zqq h (by omega) _).bind fun x hx => T.if (cp _) ((Zhw hx (by omega) _).bind fun s hs => ?_)))
 obtain ⟨r, v, e, hr⟩ := Qeu hs.rcv f.2.2.1 f.2.2.2.1 f.2.2.2.2.1 (by unfold FOK at hf; omega)
 rw [e, Option.bind_some]
 unfold FOK at hf
 exact (Qu3 hx hs (by omega) _).bind fun y hy => T.if (cp _) (T.if (cp _) ((Z1d (K' := K + 1900) hy.1 (by exact ⟨hy.2.snd.mono (by omega), hr.mono (by omega)⟩) (by omega) (by omega)).bind fun t ht => T.pure (ht.mono (by omega))))
theorem Qri {K : Nat} {c : Zi} {f : Zg} (h : Qo K c) (hf : FOK f) (hK : K ≤ 290000) : T (Zkf c f) fun r => Qo (K + 2000) r.1.1 := by
 have m := h.mono (K' := K + 2000) (by omega)
 have cp : ∀ v : Int, T (Option.bind (Z8 c) fun t => some ((t.1, (v, ())), ())) fun r => Qo (K + 2000) r.1.1 := fun v => by
  rw [Zdi h (by omega), Option.bind_some]; exact T.pure m
 unfold Zkf
 refine (Zy7 h (by omega)).bind fun t _ => T.bind (Q := fun _ => True) (T.if T.tt (Z1c hf)) fun t _ => T.if (cp 7) ((Qyv _ _).bind fun t _ => T.if (cp 5) ((Zqq h (by omega) _).bind fun x hx => T.if (cp _) ((Zhw hx (by omega) _).bind fun s hs => ?_)))
 obtain ⟨r, v, e, hr⟩ := Z9p hs.rcv (by omega) f.2.2.2.2.2.1 f.2.2.2.2.2.2.2.1
 rw [e, Option.bind_some]
 have j : ∀ (t x : Zi) (s : Zo), Qo (K + 24) x → Ka (K + 24) s → T (Zbo t x s r) fun r => Qo (K + 2000) r.1.1 := fun t x s hx hs => by
  unfold Zbo
  exact (Z1d hx (by exact ⟨hs.snd, hr⟩) (Nat.le_refl _) (by omega)).bind fun t ht => T.pure (ht.mono (by omega))
 exact (Qu3 hx hs (by omega) _).bind fun y hy => T.if (cp _) (T.if (cp _) (T.if ((Qu4 hy.1 hy.2 _).bind fun z hz => j _ _ _ hz.1 hz.2) (j _ _ _ hy.1 hy.2)))
theorem Qtj {K : Nat} {c : Zi} {f : Zg} (h : Qo K c) (hf : FOK f) (hK : K ≤ 290000) : T (Zlu c f) fun r => Qo (K + 2000) r.1.1 := by
 have m := h.mono (K' := K + 2000) (by omega)
 have cp : ∀ v : Int, T (Option.bind (Z8 c) fun t => some ((t.1, (v, ())), ())) fun r => Qo (K + 2000) r.1.1 := fun v => by
  rw [Zdi h (by omega), Option.bind_some]; exact T.pure m
 unfold Zlu
 refine (Zy7 h (by omega)).bind fun t _ => T.bind (Q := fun _ => True) (T.if T.tt (Z1c hf)) fun t _ => T.if (cp 7) ((Q0r _ _).bind fun t _ => T.if (cp 5) ((Zqq h (by omega) _).bind fun x hx => T.if (cp _) ((Zhw hx (by omega) _).bind fun s hs => ?_)))
 obtain ⟨r, v, e, hr⟩ := Zzv hs.snd f.2.2.2.2.2.1 (by omega)
 rw [e, Option.bind_some]
 have j : ∀ (t x : Zi) (s : Zo), Qo (K + 24) x → Ka (K + 24) s → T (Zcv t x s) fun r => Qo (K + 2000) r.1.1 := fun t x s hx hs => by
  unfold Zcv
  exact (Z1d hx hs (Nat.le_refl _) (by omega)).bind fun t ht => T.pure (ht.mono (by omega))
 exact T.if (j _ _ _ hx (by exact ⟨hr, hs.rcv⟩)) (j _ _ _ hx hs)
theorem Qet (c : Qq) (n : Int) : TT (Zh4 c n) := by
 unfold Zh4
 exact (tt1 (Zhy c)).bind fun t _ => T.bind (Q := fun _ => True) (T.if T.tt (Qst _)) fun t _ => T.if T.tt T.tt
theorem Qes (c : Zja) (n : Int) : TT (Zh3 c n) := by
 unfold Zh3
 exact (tt1 (Zsm c)).bind fun t _ => T.if T.tt T.tt
theorem Qrh {K : Nat} {c : Zi} {f : Zg} (h : Qo K c) (hf : FOK f) (hK : K ≤ 290000) : T (Zke c f) fun r => Qo (K + 2000) r.1 := by
 have m := h.mono (K' := K + 2000) (by omega)
 have cp : ∀ v : Int, T (Option.bind (Z8 c) fun t => some (t.1, v, ())) fun r => Qo (K + 2000) r.1 := fun v => by
  rw [Zdi h (by omega), Option.bind_some]; exact T.pure m
 have e2 : ∀ t x, Qo (K + 2000) x → T (Zkl t x) fun r => Qo (K + 2000) r.1 := fun t x hx => T.pure hx
 have e1 : ∀ t b, T (Zgv c f t b) fun r => Qo (K + 2000) r.1 := fun t b => by
  unfold Zgv
  exact T.if (cp _) ((Zqq h (by omega) _).bind fun x hx => T.if (cp _) (T.if ((Zhw hx (by omega) _).bind fun s hs => (Qet _ _).bind fun t _ => (Jb hx.str (by exact ⟨hs.snd, hs.rcv⟩) (Nat.le_refl _) (by omega)).bind fun t3 h3 => e2 _ _ ((hx.up (by omega) h3).mono (by omega))) (e2 _ _ (hx.mono (by omega)))))
 have el : T (Zo9 c f) fun r => Qo (K + 2000) r.1 := by
  unfold Zo9
  exact (Q0r _ _).bind fun t _ => T.if ((Qyv _ _).bind fun t _ => e1 _ _) (e1 _ _)
 have j1 : ∀ t x, Qo (K + 2000) x → T (Zfh t x) fun r => Qo (K + 2000) r.1 := fun t x hx => T.pure hx
 have j3 : ∀ t b, T (Zbn c f t c b) fun r => Qo (K + 2000) r.1 := fun t b => by
  unfold Zbn
  exact T.if (el.bind fun r hr => T.pure hr) (T.pure m)
 have j2 : ∀ t k b, T (Zbm c f t c k b) fun r => Qo (K + 2000) r.1 := fun t k b => by
  unfold Zbm
  exact T.if (T.pure m) (T.if (j3 _ _) (j3 _ _))
 unfold Zke
 rw [Zdi h (by omega), Option.bind_some]
 exact (Zy7 h (by omega)).bind fun t _ => T.bind (Q := fun _ => True) (T.if T.tt (Z1c hf)) fun t _ => T.if (T.pure m) (T.if ((Qet _ _).bind fun t _ => T.pure (by exact ⟨m.str, m.pk⟩)) (T.if (T.if ((Qes _ _).bind fun t _ => j1 _ _ (by exact ⟨m.str, m.pk⟩)) ((Qes _ _).bind fun t _ => j1 _ _ (by exact ⟨m.str, m.pk⟩))) (T.if (j2 _ _ _) (j2 _ _ _))))
theorem Qrg {K : Nat} {c : Zi} {f : Zg} (h : Qo K c) (hf : FOK f) (hK : K ≤ 290000) : T (Zkd c f) fun r => Qo (K + 2000) r.1.1 := by
 have j1 : ∀ t x e, Qo (K + 2000) x → T (V2 t x e) fun r => Qo (K + 2000) r.1.1 := fun t x e hx => T.pure hx
 unfold Zkd
 rw [Zdi h (by omega), Option.bind_some]
 exact T.if ((Qti h hf hK).bind fun r hr => j1 _ _ _ hr) (T.if ((Qri h hf hK).bind fun r hr => j1 _ _ _ hr) (T.if ((Qtj h hf hK).bind fun r hr => j1 _ _ _ hr) ((Qrh h hf hK).bind fun r hr => j1 _ _ _ hr)))
theorem Qr5 {K : Nat} {c : Zi} (h : Qo K c) (hK : K ≤ 1000000) (n : Int) : T (Zlb c n) fun r => Qos r.1.2.1 := by
 have hl := h.pk.1
 have lp : ∀ (t : Xn) (N i : Nat), c.2.2.2.2.2.2.2.2.2.2.2.2.2.2.2.1.length - i < N → i ≤ c.2.2.2.2.2.2.2.2.2.2.2.2.2.2.2.1.length → T (Zgj N n c t (i : Int)) fun r => Qos r.1.2.1 := by
  intro t N
  induction N with
  | zero => intro i h; omega
  | succ N ih =>
   intro i hN hi
   unfold Zgj
   refine T.ite (fun hc => ?_) fun hc => T.pure ⟨Nat.zero_le _, fun f hf => by cases hf⟩
   have hc := of_decide_eq_true hc
   have hm := h.pk.2 _ (Xc (d := Jz) (show i < c.2.2.2.2.2.2.2.2.2.2.2.2.2.2.2.1.length by omega))
   refine T.guard (by omega) (T.if (T.guard (by omega) (T.guard ?_ (T.pure hm))) ?_)
   ·have := hm.1
    unfold Qp
    rw [show (i : Int).toNat = i from rfl]
    simp only [List.length_nil]; omega
   ·rw [Zs (m := c.2.2.2.2.2.2.2.2.2.2.2.2.2.2.2.1.length) (by omega) (by omega)]
    exact ih (i + 1) (by omega) (by omega)
 unfold Zlb
 exact lp _ _ 0 (by unfold Zit; omega) (by omega)
theorem Qu5 {K : Nat} {c : Zi} (h : Qo K c) (hK : K ≤ 1000000) (n : Int) : T (Zn1 c n) fun r => Qo K r.2.1 := by
 have hl := h.pk.1
 have lp : ∀ (N i : Nat) (o : List Xn), c.2.2.2.2.2.2.2.2.2.2.2.2.2.2.2.1.length - i < N → i ≤ c.2.2.2.2.2.2.2.2.2.2.2.2.2.2.2.1.length → Qqj i o → T (Zbg N c n o (i : Int)) fun r => Qo K r.2.1 := by
  intro N
  induction N with
  | zero => intro i o h; omega
  | succ N ih =>
   intro i o hN hi ho
   unfold Zbg
   refine T.ite (fun hc => ?_) fun hc => T.pure ⟨h.str, ho.mono (by omega)⟩
   have hc := of_decide_eq_true hc
   have hm := h.pk.2 _ (Xc (d := Jz) (show i < c.2.2.2.2.2.2.2.2.2.2.2.2.2.2.2.1.length by omega))
   have j : ∀ o, Qqj (i + 1) o → T (Zie (fun v => Zbg N v.1 v.2.1 v.2.2.1 v.2.2.2.1) c n o (i : Int)) fun r => Qo K r.2.1 := fun o ho => by
    unfold Zie
    rw [Zs (m := c.2.2.2.2.2.2.2.2.2.2.2.2.2.2.2.1.length) (by omega) (by omega)]
    exact ih (i + 1) o (by omega) (by omega) ho
   exact T.guard (by omega) (T.if (T.guard (by omega) (T.guard (by have := ho.1; unfold Qp; simp only [List.length_singleton]; omega) (j _ ⟨by have := ho.1; simp; omega, fun p hp => by
    rcases List.mem_append.1 hp with hp | hp
    ·exact ho.2 p hp
    ·rw [List.mem_singleton.1 hp]; exact hm⟩))) (j _ (ho.mono (by omega))))
 unfold Zn1
 exact lp _ 0 _ (by unfold Zj9; omega) (by omega) ⟨by simp, by simp⟩
theorem Qs1 (f : Zg) : TT (Qa f) := by
 have j : ∀ b, TT (Xi b) := fun b => by unfold Xi; exact T.if T.tt T.tt
 unfold Qa
 exact T.if (j _) (T.if (j _) (T.if (j _) (T.if (j _) (j _))))
theorem Qzs {K : Nat} {x : Zi} (h : Qo K x) (hK : K + 1 ≤ 500000) (f : Zg) : T (Zrb x f) fun r => Qo (K + 1) r.2.1 := by
 have m := h.mono (K' := K + 1) (by omega)
 have j2 : ∀ s, Ka K s → T (V9 x s) fun r => Qo (K + 1) r.2.1 := fun s hs => by
  unfold V9
  exact (Jb h.str hs (Nat.le_refl _) hK).bind fun t ht => T.pure (h.up (by omega) ht)
 have j1 : ∀ s b, Ka K s → T (Yg x f s b) fun r => Qo (K + 1) r.2.1 := fun s b hs => by
  unfold Yg
  refine T.bind (Q := fun _ => True) (T.if T.tt (Qs1 f)) fun t _ => T.if (T.pure m) (T.if ?_ (T.if (j2 _ (by exact ⟨hs.snd, hs.rcv⟩)) (T.if (j2 _ (by exact ⟨hs.snd, hs.rcv⟩)) (T.if (j2 _ (by exact ⟨hs.snd, hs.rcv⟩)) (j2 _ hs)))))
  refine T.bind (Q := fun _ => True) ⟨_, rfl, trivial⟩ fun p _ => ?_
  obtain ⟨y, e, hy⟩ := Qny hs.snd p.1 (by omega)
  rw [e, Option.bind_some]
  exact j2 _ ⟨hy, hs.rcv⟩
 unfold Zrb
 simp only [Wh, Vk]
 exact T.if (T.pure (by exact ⟨m.str, m.pk⟩)) (T.if (T.if (T.pure (by exact ⟨m.str, m.pk⟩)) (T.pure (by exact ⟨m.str, m.pk⟩))) ((Zhw h (by omega) _).bind fun s hs => j1 _ _ hs))
theorem Q1d {K : Nat} {x : Zi} (h : Qo K x) (hK : K + 1 ≤ 500000) (f : Zg) : T (Zs8 x f) fun r => Qo (K + 1) r.2.1 := by
 have m := h.mono (K' := K + 1) (by omega)
 have j2 : ∀ s, Ka K s → T (Zav x s) fun r => Qo (K + 1) r.2.1 := fun s hs => by
  unfold Zav
  exact (Z1d h hs (Nat.le_refl _) hK).bind fun t ht => T.pure ht
 have j1 : ∀ s b, Ka K s → T (Y1 x f s b) fun r => Qo (K + 1) r.2.1 := fun s b hs => by
  unfold Y1
  refine T.bind (Q := fun _ => True) (T.if T.tt (Qs1 f)) fun t _ => T.if (T.pure m) (T.if ?_ (T.if ?_ (T.if (j2 _ (by exact ⟨hs.snd, hs.rcv⟩)) (j2 _ hs))))
  ·refine T.bind (Q := fun _ => True) ⟨_, rfl, trivial⟩ fun p _ => ?_
   obtain ⟨y, e, hy⟩ := Qqk hs.snd p.1 (by omega)
   rw [e, Option.bind_some]
   exact j2 _ ⟨hy, hs.rcv⟩
  ·obtain ⟨y, ok, e, hy⟩ := Qw1 hs.snd (by omega)
   rw [e, Option.bind_some]
   exact T.if (j2 _ (by exact ⟨hy, hs.rcv⟩)) (j2 _ (by exact ⟨hy, hs.rcv⟩))
 unfold Zs8
 simp only [Wh, Vk]
 exact (Zhw h (by omega) _).bind fun s hs => j1 _ _ hs
theorem Qtr {K : Nat} {c : Zi} (h : Qo K c) (hK : K ≤ 400000) (n : Int) : T (Zly c n) fun r => Qo (K + 1000) r.1.1 := by
 have m := h.mono (K' := K + 1000) (by omega)
 unfold Zly
 rw [Zdi h (by omega), Option.bind_some]
 refine (Qr5 h (by omega) n).bind fun p hp => (Zqw h (by omega)).bind fun t _ => T.if (T.pure m) ((Qu5 h (by omega) n).bind fun x hx => ?_)
 have hl := hp.1
 have lp : ∀ (t : Zi) (N i : Nat) (x : Zi), p.1.2.1.length - i < N → i ≤ p.1.2.1.length → Qo (K + i) x → T (Zcy N t x p.1 (i : Int)) fun r => Qo (K + 1000) r.1.1 := by
  intro t N
  induction N with
  | zero => intro i x h; omega
  | succ N ih =>
   intro i x hN hi hx
   unfold Zcy
   refine T.ite (fun hc => ?_) fun hc => T.pure (hx.mono (by omega))
   have hc := of_decide_eq_true hc
   refine T.guard (by omega) ((Qzs hx (by omega) _).bind fun y hy => ?_)
   rw [Zs (m := p.1.2.1.length) (by omega) (by omega)]
   exact ih (i + 1) _ (by omega) (by omega) hy
 exact lp _ _ 0 _ (by unfold Zgb; omega) (by omega) hx
theorem Qvq {K : Nat} {c : Zi} (h : Qo K c) (hK : K ≤ 400000) (n : Int) : T (Znq c n) fun r => Qo (K + 1000) r.1.1 := by
 have m := h.mono (K' := K + 1000) (by omega)
 unfold Znq
 rw [Zdi h (by omega), Option.bind_some]
 refine (Qr5 h (by omega) n).bind fun p hp => (Zqw h (by omega)).bind fun t _ => T.if (T.pure m) ((Qu5 h (by omega) n).bind fun x hx => ?_)
 have hl := hp.1
 have lp : ∀ (t : Zi) (N i : Nat) (x : Zi), p.1.2.1.length - i < N → i ≤ p.1.2.1.length → Qo (K + i) x → T (Zea N t x p.1 (i : Int)) fun r => Qo (K + 1000) r.1.1 := by
  intro t N
  induction N with
  | zero => intro i x h; omega
  | succ N ih =>
   intro i x hN hi hx
   unfold Zea
   refine T.ite (fun hc => ?_) fun hc => T.pure (hx.mono (by omega))
   have hc := of_decide_eq_true hc
   refine T.guard (by omega) ((Q1d hx (by omega) _).bind fun y hy => ?_)
   rw [Zs (m := p.1.2.1.length) (by omega) (by omega)]
   exact ih (i + 1) _ (by omega) (by omega) hy
 exact lp _ _ 0 _ (by unfold Zhg; omega) (by omega) hx
theorem Zdx (c : Zw) (n : Int) (h : Qv c) : T (Zv c n) fun r => Qv r.2.1 ∧ 0 ≤ r.1.1 ∧ (0 < n → r.1.1 < n) := by
 obtain ⟨x, c', e, h1, h2, h3⟩ := Ki c n h; exact ⟨_, e, h1, h2, h3⟩
theorem Qex (c : Zw) (n : Int) (h : Qv c) : T (Yr c n) fun r => Qv r.2.1 := by
 obtain ⟨b, c', e, h1⟩ := Zt1 c n h; exact ⟨_, e, h1⟩
theorem Ztw (c : Zw) (l : List Int) (h : Qv c) (hl : 0 < l.length) : T (Xf c l) fun r => Qv r.2.1 ∧ r.1.1 ∈ l := by
 obtain ⟨b, c', e, h1, h2⟩ := Z66 c l h hl; exact ⟨_, e, h1, h2⟩
theorem Qyu (c : Zw) (l : List (List UInt8)) (h : Qv c) (hl : 0 < l.length) : T (Zj2 c l) fun r => Qv r.2.1 ∧ r.1.1 ∈ l := by
 obtain ⟨b, c', e, h1, h2⟩ := Qng c l h hl; exact ⟨_, e, h1, h2⟩
theorem Qyt (c : Zw) (most : Nat) (h : Qv c) (hm : most ≤ 1000) : T (Zex c (most : Int)) fun r => Qv r.2.1 ∧ r.1.1.length ≤ most := by
 obtain ⟨t, c', e, h1, h2⟩ := Qik c most h hm; exact ⟨_, e, h1, h2⟩
theorem Q1f (f : Zg) (h : FOK f) : T (Zg9 f) fun r => FOK r.1 := by
 have j2 : ∀ t x b, FOK x → T (Zg2 f t x b) fun r => FOK r.1 := fun t x b hx => by
  unfold Zg2
  exact T.if (T.pure (by exact hx)) (T.pure (by exact hx))
 have j1 : ∀ t x, FOK x → T (Zg1 f t x) fun r => FOK r.1 := fun t x hx => by
  unfold Zg1
  exact T.if (T.pure (by exact hx)) (T.if (T.pure (by exact hx)) (T.if (T.pure (by exact h)) (T.if (j2 _ _ _ hx) (j2 _ _ _ hx))))
 unfold Zg9
 exact (Qs1 f).bind fun t _ => T.if (j1 _ _ (Qgt _ _ _ _)) (j1 _ _ (Qgt _ _ _ _))
theorem Qhl (c : Zw) (hc : Qv c) : T (Zhv c) fun r => Qv r.2.1 ∧ FOK r.1.1 := by
 unfold Zhv
 exact (Ztw c _ hc (by simp)).bind fun t1 h1 => (Zdx _ _ h1.1).bind fun t2 h2 => (Zdx _ _ h2.1).bind fun t3 h3 => (Qyt _ 6 h3.1 (by omega)).bind fun t4 h4 => (Qex _ _ h4.1).bind fun t5 h5 => (Zdx _ _ h5).bind fun t6 h6 => (Zdx _ _ h6.1).bind fun t7 h7 => (Zdx _ _ h7.1).bind fun t8 h8 => (Qex _ _ h8.1).bind fun t9 h9 =>
  (Q1f _ (by unfold FOK; simp only; omega)).bind fun t hf => T.pure ⟨h9, hf⟩
theorem Qn1 (n : Int) : TT (Zo5 n) := (tIn _ _ _).bind fun t _ => T.if T.tt T.tt
theorem Qn0 (n : Int) : TT (Zo3 n) := (tIn _ _ _).bind fun t _ => T.if T.tt T.tt
theorem Qtv (n : Int) : TT (Zge n) := (Qst _).bind fun t _ => T.if T.tt T.tt
theorem Qtx (n m : Int) : TT (Zgf n m) := by obtain ⟨c, b, e⟩ := Qb8 n m; exact ⟨_, e, trivial⟩
theorem Qo.zero {c : Zi} (h1 : c.2.2.2.1 = []) (h2 : c.2.2.2.2.2.2.2.2.2.2.2.2.2.2.2.1 = []) : Qo 0 c := ⟨⟨by rw [h1]; simp, by rw [h1]; simp⟩, ⟨by rw [h2]; simp, by rw [h2]; simp⟩⟩
theorem Qyc (v : Bool) (o p : Zrg) : T (Zq0 v o p) fun r => Qo 0 r.1 := by
 unfold Zq0
 exact (tt1 (Zp2 o)).bind fun t _ => T.bind (Q := fun _ => True) (T.if T.tt (tt1 (Zp2 p))) fun t _ => T.if (T.pure (Qo.zero rfl rfl)) ((Qtv _).bind fun t _ => (Qtx _ _).bind fun t _ => (Qn1 _).bind fun t _ => (Qn1 _).bind fun t _ => (Qn0 _).bind fun t _ => (Qn0 _).bind fun t _ => T.pure (Qo.zero rfl rfl))
def SQ (K : Nat) (r : (Zi × Unit) × (Zw × Unit)) : Prop := Qv r.2.1 ∧ Qo K r.1.1
theorem Qzr {K : Nat} {x : Zi} (h : Qo K x) (hK : K ≤ 70000) (c : Zw) (hc : Qv c) : T (Zra c x) (SQ (K + 2000)) := by
 have m := h.mono (K' := K + 2000) (by omega)
 have j3 : ∀ c t k b, Qv c → T (Zid c x t x k b) (SQ (K + 2000)) := fun c t k b hc => by
  unfold Zid
  simp only [Wh]
  refine T.if ((Zdx c _ hc).bind fun t1 h1 => (Qs8 h (by omega) _).bind fun t2 h2 => T.pure ⟨h1.1, h2.mono (by omega)⟩) (T.if ((Qhl c hc).bind fun t1 h1 => (Qrg h h1.2 (by omega)).bind fun t2 h2 => T.if (T.pure ⟨h1.1, h2⟩) (T.pure ⟨h1.1, m⟩)) (T.if (T.ite (fun hp => (Zdx c _ hc).bind fun t1 h1 => ?_) fun _ => T.pure ⟨hc, m⟩) (T.pure ⟨hc, m⟩)))
  have hp := of_decide_eq_true hp
  exact T.guard ⟨h1.2.1, h1.2.2 (by omega)⟩ ((Qex _ _ h1.1).bind fun t2 h2 => T.if ((Qtr h (by omega) _).bind fun t3 h3 => T.pure ⟨h2, h3.mono (by omega)⟩) ((Qvq h (by omega) _).bind fun t3 h3 => T.pure ⟨h2, h3.mono (by omega)⟩))
 have j2 : ∀ c t i k b, Qv c → T (Zic c x t i x k b) (SQ (K + 2000)) := fun c t i k b hc => by
  unfold Zic
  simp only [Wh, Vk]
  refine T.if ((Qyt c 8 hc (by omega)).bind fun t1 h1 => (Qsy h _ _ (by omega)).bind fun t2 h2 => T.pure ⟨h1.1, h2.mono (by omega)⟩) (T.if ((Qex c _ hc).bind fun t1 h1 => T.if ((Qpb h (by omega) _).bind fun t2 h2 => T.pure ⟨h1, h2.mono (by omega)⟩) (T.pure ⟨h1, m⟩))
   (T.if ((Zdx c _ hc).bind fun t1 h1 => (Qt4 h (by omega) _ _).bind fun t2 h2 => T.pure ⟨h1.1, h2.mono (by omega)⟩) (T.if ((Qex c _ hc).bind fun t1 h1 => T.if ((Zdx _ _ h1).bind fun t2 h2 => (Qsf h (by omega) _ _).bind fun t3 h3 => T.pure ⟨h2.1, h3.mono (by omega)⟩) ((Qyu _ _ h1 (by simp)).bind fun t2 h2 => (Qsm h (by omega) _ _ ?_).bind fun t3 h3 => T.pure ⟨h2.1, h3.mono (by omega)⟩)) (T.if (j3 _ _ _ _ hc) (j3 _ _ _ _ hc)))))
  have := h2.2
  simp only [List.mem_cons, List.mem_nil_iff, or_false] at this
  rcases this with e | e | e <;> (rw [e]; simp)
 have j1 : ∀ c t i, Qv c → T (Zib c x t i) (SQ (K + 2000)) := fun c t i hc => by
  unfold Zib
  simp only [Wh, Vk]
  exact (Zdx c _ hc).bind fun t1 h1 => T.if ((Qex _ _ h1.1).bind fun t2 h2 => (Qt0 h (by omega) _).bind fun t3 h3 => T.pure ⟨h2, h3.mono (by omega)⟩) (T.if (j2 _ _ _ _ _ h1.1) (j2 _ _ _ _ _ h1.1))
 unfold Zra
 exact T.ite (fun hp => (Zdx c _ hc).bind fun t1 h1 => T.guard ⟨h1.2.1, h1.2.2 (by simpa using hp)⟩ (j1 _ _ _ h1.1)) fun _ => j1 _ _ _ hc
theorem Qzo (c : Zw) (hc : Qv c) : T (Zq7 c) (SQ 30000) := by
 have lp : ∀ (t : Zi) (N m : Nat) (c : Zw) (x : Zi) (K : Nat), m < N → Qv c → Qo K x → K + 2000 * m ≤ 30000 → T (Zh8 N c t x (m : Int)) (SQ 30000) := by
  intro t N
  induction N with
  | zero => intro m c x K h; omega
  | succ N ih =>
   intro m c x K hm hc hx hK
   unfold Zh8
   refine T.ite (fun hd => (Qzr hx (by omega) c hc).bind fun t1 h1 => ?_) fun _ => T.pure ⟨hc, hx.mono (by omega)⟩
   have hd := of_decide_eq_true hd
   rw [show IntKind.i64.wrap ((m : Int) - 1) = ((m - 1 : Nat) : Int) by rw [Zx (by omega) (by omega)]; omega]
   exact ih (m - 1) _ _ (K + 2000) (by omega) h1.1 h1.2 (by omega)
 have cf : ∀ c, Qv c → T (Zer c) fun r => Qv r.2.1 := fun c hc => by
  obtain ⟨y, c', e, k, -⟩ := Qpp c hc; exact ⟨_, e, k⟩
 unfold Zq7
 refine (Qex c _ hc).bind fun t1 h1 => (cf _ h1).bind fun t2 h2 => (cf _ h2).bind fun t3 h3 => (Qyc _ _ _).bind fun x hx => (Zdx _ _ h3).bind fun t4 h4 => ?_
 have := h4.2.2 (by omega)
 have h0 := h4.2.1
 obtain ⟨m, hm⟩ := Int.eq_ofNat_of_zero_le h0
 have e : IntKind.i64.wrap (2 + t4.1.1) = ((m + 2 : Nat) : Int) := by rw [Zx (by omega) (by omega)]; omega
 rw [e]
 exact lp _ _ (m + 2) _ _ 0 (by unfold Zj5; omega) h4.1 hx (by omega)
theorem Q1c (c : Zw) (hc : Qv c) : T (Zs7 c) (SQ 30000) := by
 unfold Zs7
 exact (Qzo c hc).bind fun t hx => (Zdx _ _ hx.1).bind fun t1 h1 => T.if ((Ztw _ _ h1.1 (by simp)).bind fun t2 h2 => T.pure ⟨h2.1, by exact ⟨hx.2.str, hx.2.pk⟩⟩) (T.if ((Ztw _ _ h1.1 (by simp)).bind fun t2 h2 => T.pure ⟨h2.1, by exact ⟨hx.2.str, hx.2.pk⟩⟩) (T.if ((Ztw _ _ h1.1 (by simp)).bind fun t2 h2 => T.pure ⟨h2.1, by exact ⟨hx.2.str, hx.2.pk⟩⟩) (T.if ((Ztw _ _ h1.1 (by simp)).bind fun t2 h2 => T.pure ⟨h2.1, by exact ⟨hx.2.str, hx.2.pk⟩⟩) (T.pure ⟨h1.1, hx.2⟩))))
theorem Qlc (r : Ze) : Zqu r = some (Zjm r, ()) := rfl
theorem Zw2 (l : List Ze) (hl : l.length ≤ 1048576) : ∀ (N i : Nat), l.length - i < N → i ≤ l.length → Zfr N l l (l.length : Int) (i : Int) = Vf N l (i : Int)
 | 0, _, h, _ => by omega
 | N + 1, i, hN, hi => by
  rw [Zfr, Vf]
  by_cases hh : i < l.length
  ·have g : ∀ {a : Prop}, a → decide ((i : Int) > 0) = true → 0 ≤ IntKind.i64.wrap ((i : Int) - 1) ∧ IntKind.i64.wrap ((i : Int) - 1) < (l.length : Int) := fun _ h => by
    have := of_decide_eq_true h; rw [Zx (by omega) (by omega)]; omega
   rw [Zj (Zk (by omega)), Zj (Zk (by omega)), Zc (by omega), Zc (by omega), Qlc, Zwe, Option.bind_some, Option.bind_some, Zc (fun h h2 => g h h2), Zc (fun h h2 => g h h2), Zc (fun _ _ => by omega), Zs hh (by omega), Zw2 l hl N (i + 1) (by omega) (by omega)]
  ·rw [Zh (Zl (by omega)), Zh (Zl (by omega))]
theorem Zrd (l : List Ze) (hl : l.length ≤ 1048576) : Zab l = some (rsB (-1) l, ()) := by
 have e : Zio l l (l.length : Int) 0 = Wu l 0 := rfl
 rw [← Zci l hl, Zab, Y4, e]
 exact Zw2 l hl _ 0 (by unfold Wu; omega) (by omega)
theorem Qj2 (l : List Ze) (hl : l.length ≤ 1048576) : ∀ (N i : Nat) (n : Int), l.length - i < N → i ≤ l.length → rsB (-1) l = true → Zai N n l (l.length : Int) (i : Int) = Yq N l n (i : Int)
 | 0, _, _, h, _, _ => by omega
 | N + 1, i, n, hN, hi, hr => by
  rw [Zai, Yq]
  by_cases hh : i < l.length
  ·rw [Zj (Zk (by omega)), Zj (Zk (by omega)), Zc (by omega), Zc (by omega)]
   have hw : IntKind.i64.wrap (n + IntKind.i64.wrap ((l.getD (i : Int).toNat Zu).2.1 - (l.getD (i : Int).toNat Zu).1)) = IntKind.i64.wrap (IntKind.i64.wrap (n + (l.getD (i : Int).toNat Zu).2.1) - (l.getD (i : Int).toNat Zu).1) := by
    unfold IntKind.wrap
    simp [IntKind.signed, IntKind.bits]
    omega
   rw [hw, Zs hh (by omega), Qj2 l hl N (i + 1) _ (by omega) (by omega) hr]
   try rw [Zc (by omega)]
  ·rw [Zh (Zl (by omega)), Zh (Zl (by omega))]
theorem Zk0 (l : List Ze) (hl : l.length ≤ 1048576) : Jd l = some (if rsB (-1) l = true then Jy l else -1, ()) := by
 rw [← Zaa l hl, Jd, Kc, Zrd l hl, Zci l hl, Option.bind_some, Option.bind_some]
 cases hr : rsB (-1) l
 ·rfl
 ·exact Qj2 l hl _ 0 0 (by unfold Zdu; omega) (by omega) hr
theorem Zyk (l : List Ze) (hl : l.length ≤ 1048576) : Zdz l = some (l, ()) := by
 unfold Zdz
 rw [Zc (by unfold Qp; simp; omega)]; simp
theorem Qd7 : ∀ (N : Nat) (pre rest : List Ze) (r : Ze) (out : List Ze), (pre ++ rest).length ≤ 1048576 → rest.length < N → out.length ≤ pre.length + 1 → r.1 < r.2.1 → (∀ x ∈ rest, r.2.1 < x.1 ∧ x.1 < x.2.1) →
  X7 N r out true (pre ++ rest) ((pre ++ rest).length : Int) (pre.length : Int) = some (out ++ rest, ())
 | 0, _, _, _, _, _, h, _, _, _ => by omega
 | N + 1, pre, [], r, out, hl, hN, ho, hr, hx => by
  unfold X7
  rw [Zh (by simp)]; simp
 | N + 1, pre, x :: rest, r, out, hl, hN, ho, hr, hx => by
  have hlen : (pre ++ x :: rest).length = pre.length + rest.length + 1 := by simp; omega
  simp only [List.length_cons] at hN
  have hxx := hx x (by simp)
  unfold X7
  rw [Zj (Zk (by rw [hlen]; omega)), Zc (by rw [hlen]; omega), J7, Zh (Zl (by omega)), Zj (Zk (by omega)), Zh (by rfl)]
  unfold Zfo
  rw [Zc (by unfold Qp; simp; omega), Zs (m := pre.length + 1) (by omega) (by omega)]
  have ih := Qd7 N (pre ++ [x]) rest r (out ++ [x]) (by simp; omega) (by omega) (by simp; omega) hr (fun y hy => hx y (by simp [hy]))
  rw [show (pre ++ [x]) ++ rest = pre ++ x :: rest by simp, show ((pre ++ [x]).length : Int) = ((pre.length + 1 : Nat) : Int) by simp] at ih
  simp only [ih]
  simp
theorem Qal : ∀ (N : Nat) (pre rest : List Ze) (r : Ze) (out : List Ze) (lo : Int), (pre ++ rest).length ≤ 1048576 → rest.length < N → out.length ≤ pre.length → r.1 < r.2.1 → rsB lo rest = true →
  X7 N r out false (pre ++ rest) ((pre ++ rest).length : Int) (pre.length : Int) = some (out ++ Zmy rest r, ())
 | 0, _, _, _, _, _, _, h, _, _, _ => by omega
 | N + 1, pre, [], r, out, lo, hl, hN, ho, hr, hx => by
  simp only [List.append_nil] at hl
  unfold X7
  rw [Zh (by simp), Zj (by rfl), Zc (by unfold Qp; simp; omega)]; rfl
 | N + 1, pre, x :: rest, r, out, lo, hl, hN, ho, hr, hx => by
  have hlen : (pre ++ x :: rest).length = pre.length + rest.length + 1 := by simp; omega
  simp only [List.length_cons] at hN
  obtain ⟨hf, hlo, hrest⟩ := Ju.1 hx
  have hf := Qx.1 hf
  unfold X7
  rw [Zj (Zk (by rw [hlen]; omega)), Zc (by rw [hlen]; omega), J7]
  have es : (pre ++ [x]) ++ rest = pre ++ x :: rest := by simp
  have ec : ((pre ++ [x]).length : Int) = ((pre.length + 1 : Nat) : Int) := by simp
  rw [Zs (m := pre.length + 1) (by omega) (by omega)]
  by_cases h1 : x.2.1 < r.1
  ·rw [Zj (Zk h1), Zc (by unfold Qp; simp; omega)]
   have ih := Qal N (pre ++ [x]) rest r (out ++ [x]) x.2.1 (by simp; omega) (by omega) (by simp; omega) hr hrest
   rw [es, ec] at ih
   rw [ih, Zmy, if_pos h1]; simp
  ·rw [Zh (Zl h1)]
   by_cases h2 : x.1 > r.2.1
   ·rw [Zj (Zk h2), Zj (by rfl), Zc (by unfold Qp; simp; omega)]
    unfold Zfo
    rw [Zc (by unfold Qp; simp; omega), Zs (m := pre.length + 1) (by omega) (by omega)]
    have low := Zoz hrest
    have ih := Qd7 N (pre ++ [x]) rest r (out ++ [r] ++ [x]) (by simp; omega) (by omega) (by simp; omega) hr (fun y hy => by
     have h3 := low y hy
     have h4 := Qx.1 h3.2
     omega)
    rw [es, ec] at ih
    simp only [ih]
    rw [Zmy, if_neg h1, if_pos h2]; simp
   ·rw [Zh (Zl h2)]
    have ih := Qal N (pre ++ [x]) rest (min r.1 x.1, max r.2.1 x.2.1, ()) out x.2.1 (by simp; omega) (by omega) (by simp; omega) (by simp only; omega) hrest
    rw [es, ec] at ih
    rw [ih, Zmy, if_neg h1, if_neg h2]
theorem Qvr (l : List Ze) (r : Ze) (hl : l.length ≤ 1048576) : Zor l r = some (if rsB (-1) l = true ∧ Zjm r = true then Zmy l r else l, ()) := by
 unfold Zor
 rw [Zrd l hl, Option.bind_some, Qlc, Zyk l hl]
 cases hr : rsB (-1) l
 ·rfl
 ·cases hf : Zjm r
  ·rfl
  ·have hf := Qx.1 hf
   rw [if_pos ⟨rfl, rfl⟩]
   have h := Qal (Zdf r [] false l (l.length : Int) 0) [] l r [] (-1) (by simpa using hl) (by unfold Zdf; omega) (by simp) hf.2.1 hr
   exact h
theorem Qxt (l : List Ze) (hl : l.length ≤ 1048576) : ∀ (N i : Nat) (n : Int), l.length - i < N → i ≤ l.length → Zb6 N n l (l.length : Int) (i : Int) = K6 N l n (i : Int)
 | 0, _, _, h, _ => by omega
 | N + 1, i, n, hN, hi => by
  rw [Zb6, K6]
  by_cases hh : i < l.length
  ·have ih := fun n => Qxt l hl N (i + 1) n (by omega) (by omega)
   rw [Zj (Zk (by omega)), Zj (Zk (by omega)), Zc (by omega), Zc (by omega), Zs hh (by omega), ih, ih]
   try rw [Zc (fun _ => by omega)]
   try rw [Zc (by omega)]
   unfold Zga
   rw [Zs hh (by omega)]
  ·rw [Zh (Zl (by omega)), Zh (Zl (by omega))]
theorem Qvz (l : List Ze) (f : Int) (hl : l.length ≤ 1048576) : Zos l f = some (if rsB (-1) l = true ∧ 0 ≤ f then Z14 l f else -1, ()) := by
 rw [← Z8g l f hl, Zos, Ze2, Zrd l hl, Zci l hl, Option.bind_some, Option.bind_some]
 cases (!rsB (-1) l) || decide (f < 0)
 ·exact Qxt l hl _ 0 f (by unfold Zin; omega) (by omega)
 ·rfl
def Qid (l : List Int) : Bool := l.all fun n => decide (n ≥ 0) && decide (n ≤ 255)
theorem Q0q (r : Kg) (hl : r.2.2.2.1.length ≤ 1048576) : ∀ (N i : Nat), r.2.2.2.1.length - i < N → i ≤ r.2.2.2.1.length → Zcx N r (i : Int) = some (Qid (r.2.2.2.1.drop i), ())
 | 0, _, h, _ => by omega
 | N + 1, i, hN, hi => by
  rw [Zcx]
  by_cases hh : i < r.2.2.2.1.length
  ·rw [Zj (Zk (by omega)), Zc (by omega), Zqi, Option.bind_some, Zs hh (by omega), Q0q r hl N (i + 1) (by omega) (by omega), show (i : Int).toNat = i from rfl, J6 (d := 0) hh]
   simp only [Qid, List.all_cons]
   cases decide (r.2.2.2.1.getD i 0 ≥ 0) && decide (r.2.2.2.1.getD i 0 ≤ 255) <;> rfl
  ·rw [Zh (Zl (by omega)), List.drop_eq_nil_of_le (by omega)]; rfl
theorem Zwy (n a b : Int) : Z3 n a b = some (decide (n ≥ a) && decide (n ≤ b), ()) := rfl
theorem Qvf (l : List Int) (hl : l.length ≤ 1048576) (u : Unit) : ∀ (N i : Nat), l.length - i < N → i ≤ l.length → ∃ k, Q3 N l u (l.length : Int) (i : Int) = some (k, ()) ∧ decide (k ≥ 0) = !Qid (l.drop i)
 | 0, _, h, _ => by omega
 | N + 1, i, hN, hi => by
  rw [Q3]
  by_cases hh : i < l.length
  ·have e : Ztk (l.getD i 0) = some (!(decide (l.getD i 0 ≥ 0) && decide (l.getD i 0 ≤ 255)), ()) := rfl
   rw [Zj (Zk (by omega)), Zc (by omega), show (i : Int).toNat = i from rfl, e, Option.bind_some, Zs hh (by omega), J6 (d := 0) hh]
   obtain ⟨k, h1, h2⟩ := Qvf l hl () N (i + 1) (by omega) (by omega)
   cases hc : decide (l.getD i 0 ≥ 0) && decide (l.getD i 0 ≤ 255)
   ·exact ⟨_, rfl, by simp only [Qid, List.all_cons, hc]; simp⟩
   ·exact ⟨k, h1, by rw [h2]; simp only [Qid, List.all_cons, hc, Bool.true_and]⟩
  ·rw [Zh (Zl (by omega)), List.drop_eq_nil_of_le (by omega)]; exact ⟨_, rfl, by simp [Qid]⟩
theorem Qzl (r : Kg) (hl : r.2.2.2.1.length ≤ 1048576) : Zsj r = Zat r := by
 unfold Zsj Zat Zaf Zhx Yz Km
 obtain ⟨k, h1, h2⟩ := Qvf r.2.2.2.1 hl () (Xb r.2.2.2.1 () (r.2.2.2.1.length : Int) 0) 0 (by unfold Xb; omega) (by omega)
 have h3 := Q0q r hl (V3 r 0) 0 (by unfold V3; omega) (by omega)
 simp only [Int.natCast_zero, List.drop_zero] at h1 h2 h3
 have e : Ye r.2.1 = some (decide (r.2.1 ≥ 0) && decide (r.2.1 ≤ 4611686018427387903), ()) := rfl
 simp only [h1, h2, h3, Zwy, e, Option.bind_some]
 have e1 : decide (r.1 ≥ 1) = decide (r.1 > 0) := by congr 1
 rw [e1]
 generalize hA : ((decide (r.1 > 0) && decide (r.1 ≤ 64)) && (bits .and .i64 r.1 (IntKind.i64.wrap (r.1 - 1)) == 0)) = A
 generalize ((r.2.2.2.1.length : Int) != r.1) = B
 cases A
 ·rfl
 cases B
 ·simp only [Bool.not_true, Bool.or_self, cond_false, Option.bind_some, Bool.false_or]
  simp only [Bool.and_eq_true, decide_eq_true_eq] at hA
  generalize Qid r.2.2.2.1 = C
  by_cases h0 : 0 ≤ r.2.1 ∧ r.2.1 ≤ r.2.2.1 ∧ r.2.2.1 ≤ 4611686018427387903
  ·obtain ⟨a1, a2, a3⟩ := h0
   rw [Zx (n := r.2.2.1 - r.2.1) (by omega) (by omega), Zx (n := r.2.1 + r.1) (by omega) (by omega), Zk (p := r.2.1 ≥ 0) (by omega), Zk (p := r.2.1 ≤ 4611686018427387903) (by omega), Zl (p := r.2.1 < 0) (by omega), Zl (p := r.2.2.1 < r.2.1) (by omega), Zl (p := r.2.2.1 > 4611686018427387903) (by omega), Zk (p := r.2.2.1 ≥ r.2.1) a2]
   by_cases h4 : r.2.2.1 - r.2.1 ≤ r.1
   ·rw [Zl (p := r.2.2.1 - r.2.1 > r.1) (by omega), Zk (p := r.2.2.1 ≤ min (r.2.1 + r.1) 4611686018427387903) (by omega)]
    cases C <;> rfl
   ·rw [Zk (p := r.2.2.1 - r.2.1 > r.1) (by omega), Zl (p := r.2.2.1 ≤ min (r.2.1 + r.1) 4611686018427387903) (by omega)]
    cases C <;> rfl
  ·have hL : ((((decide (r.2.1 < 0)) || (decide (r.2.2.1 < r.2.1))) || (decide ((IntKind.i64.wrap (r.2.2.1 - r.2.1)) > r.1))) || (decide (r.2.2.1 > 4611686018427387903))) = true := by
    simp only [Bool.or_eq_true, decide_eq_true_eq]; omega
   have hR : ((decide (r.2.1 ≥ 0) && decide (r.2.1 ≤ 4611686018427387903)) && (decide (r.2.2.1 ≥ r.2.1) && decide (r.2.2.1 ≤ min (IntKind.i64.wrap (r.2.1 + r.1)) 4611686018427387903))) = false := by
    simp only [Bool.and_eq_false_iff, decide_eq_false_iff_not]; omega
   rw [hL]
   cases C
   ·rfl
   ·simp only [Bool.not_true, cond_false, cond_true]
    generalize hQ : (decide (r.2.1 ≥ 0) && decide (r.2.1 ≤ 4611686018427387903)) = Q at hR
    cases Q
    ·rfl
    ·simp only [cond_true, Option.bind_some]
     rw [hR]
 ·rfl
def hiB (S : Int) (l : List Ze) : Bool := l.all fun x => decide (x.2.1 ≤ S)
noncomputable def stF (s : Zm) : Int := match Zag s with | some (k, _) => k | none => 0
theorem Qyo (s : Zm) : Zag s = some (stF s, ()) := by
 obtain ⟨k, e⟩ := Z8o s
 unfold stF; rw [e]
theorem Qpj (s : Zm) (h0 : 0 ≤ s.2.2.2.2.2.2.1) (h3 : s.2.2.2.2.2.2.1 ≤ 3) : Zm8 s = some (stF s, ()) := by
 rw [← Qyo]
 unfold Zm8 Zag
 have : decide (s.2.2.2.2.2.2.1 > 1) = ((s.2.2.2.2.2.2.1 == 2) || (s.2.2.2.2.2.2.1 == 3)) := by
  rw [Bool.eq_iff_iff]; simp only [decide_eq_true_eq, Bool.or_eq_true, beq_iff_eq]; omega
 rw [this]
def Qq9 (s : Zm) : Bool := !((!((s.2.2.2.2.2.2.1 == (0 : Int)) == (s.2.2.2.2.2.1 == (-1 : Int)))) || ((s.2.2.2.2.2.1 != (-1 : Int)) && (s.2.2.2.2.2.1 != s.2.1.2.2.1)))
theorem Q2u (s : Zm) (hl : s.2.2.2.2.1.length ≤ 1048576) : ∀ (N i : Nat), s.2.2.2.2.1.length - i < N → i ≤ s.2.2.2.2.1.length → W8 N s (i : Int) = some (hiB s.2.2.2.2.2.2.2.1 (s.2.2.2.2.1.drop i) && (Qq9 s && (s.1 == stF s)), ())
 | 0, _, h, _ => by omega
 | N + 1, i, hN, hi => by
  rw [W8]
  by_cases hh : i < s.2.2.2.2.1.length
  ·rw [Zj (Zk (by omega)), Zc (by omega), Zs hh (by omega), Q2u s hl N (i + 1) (by omega) (by omega), show (i : Int).toNat = i from rfl, J6 (d := Zu) hh]
   simp only [hiB, List.all_cons]
   by_cases hc : (s.2.2.2.2.1.getD i Zu).2.1 ≤ s.2.2.2.2.2.2.2.1
   ·rw [Zl (p := _ > _) (by omega), Zk hc]; rfl
   ·rw [Zk (p := _ > _) (by omega), Zl hc]; rfl
  ·rw [Zh (Zl (by omega)), List.drop_eq_nil_of_le (by omega), Qyo, Option.bind_some]
   unfold Qq9
   generalize ((!((s.2.2.2.2.2.2.1 == (0 : Int)) == (s.2.2.2.2.2.1 == (-1 : Int)))) || ((s.2.2.2.2.2.1 != (-1 : Int)) && (s.2.2.2.2.2.1 != s.2.1.2.2.1))) = c
   cases c <;> rfl
theorem Q2t (s : Zm) (hl : s.2.2.2.1.length ≤ 1048576) (hl2 : s.2.2.2.2.1.length ≤ 1048576) : ∀ (N i : Nat), s.2.2.2.1.length - i < N → i ≤ s.2.2.2.1.length → W7 N s (i : Int) = some (hiB s.2.2.2.2.2.2.2.1 (s.2.2.2.1.drop i) && (hiB s.2.2.2.2.2.2.2.1 s.2.2.2.2.1 && (Qq9 s && (s.1 == stF s))), ())
 | 0, _, h, _ => by omega
 | N + 1, i, hN, hi => by
  rw [W7]
  by_cases hh : i < s.2.2.2.1.length
  ·rw [Zj (Zk (by omega)), Zc (by omega), Zs hh (by omega), Q2t s hl hl2 N (i + 1) (by omega) (by omega), show (i : Int).toNat = i from rfl, J6 (d := Zu) hh]
   simp only [hiB, List.all_cons]
   by_cases hc : (s.2.2.2.1.getD i Zu).2.1 ≤ s.2.2.2.2.2.2.2.1
   ·rw [Zl (p := _ > _) (by omega), Zk hc]; rfl
   ·rw [Zk (p := _ > _) (by omega), Zl hc]; rfl
  ·rw [Zh (Zl (by omega)), List.drop_eq_nil_of_le (by omega)]
   exact Q2u s hl2 _ 0 (by unfold Zdq; omega) (by omega)
def Q23 (a : List Ze) (r : Ze) : List Ze := if rsB (-1) a = true ∧ Zjm r = true then Zmy a r else a
def Zl9 (a l : List Ze) : List Ze := l.foldl Q23 a
theorem Qar {E : Int} : ∀ {l : List Ze} {lo : Int}, rsB lo l = true → (∀ x ∈ l, x.2.1 ≤ E) → l ≠ [] → Jy l ≤ E - lo - 1
 | [], _, _, _, h => absurd rfl h
 | x :: l, lo, h, hE, _ => by
  obtain ⟨h1, h2, h3⟩ := Ju.1 h
  have hx := hE x (by simp)
  simp only [Jy]
  rcases l with _ | ⟨y, l⟩
  ·simp only [Jy]; omega
  ·have := Qar h3 (fun z hz => hE z (by simp [hz])) (by simp)
   omega
theorem Qvv {E : Int} {l : List Ze} (h : RL E l) (hc : Jy l = E) (h0 : 0 < E) : (l.getD 0 Zu).2.1 = E := by
 obtain ⟨h1, h2⟩ := h
 rcases l with _ | ⟨x, l⟩
 ·simp only [Jy] at hc; omega
 ·obtain ⟨a1, a2, a3⟩ := Ju.1 h1
  have hx := h2 x (by simp)
  have a1 := Qx.1 a1
  simp only [Jy] at hc
  rcases l with _ | ⟨y, l⟩
  ·simp only [Jy] at hc
   simp only [List.getD_cons_zero]; omega
  ·have := Qar a3 (fun z hz => h2 z (by simp [hz])) (by simp)
   omega
theorem Z3v {E : Int} {l : List Ze} (h : RL E l) (h0 : 0 ≤ E) : 0 ≤ Jy l ∧ Jy l ≤ E := by
 have : ∀ {l : List Ze} {lo : Int}, rsB lo l = true → 0 ≤ Jy l := by
  intro l
  induction l with
  | nil => intro lo _; simp [Jy]
  | cons x l ih =>
   intro lo h
   obtain ⟨a1, a2, a3⟩ := Ju.1 h
   have a1 := Qx.1 a1
   have := ih a3
   simp only [Jy]; omega
 refine ⟨this h.1, ?_⟩
 rcases hl : l with _ | ⟨x, l'⟩
 ·simp only [Jy]; exact h0
 ·have := Qar h.1 h.2 (by rw [hl]; simp)
  rw [hl] at this; omega
def Z6u (s : Zm) (all : List Ze) : Bool := (Jy all == s.2.1.2.2.1) && (Jy s.2.2.1 + Jy s.2.2.2.1 + Jy s.2.2.2.2.1 == s.2.1.2.2.1)
theorem Q2s {K : Int} {s : Zm} (hs : Jl K s) (hK : K ≤ 1000000) : ∀ (N i : Nat) (all : List Ze), RL (Qwo s) all → s.2.2.2.2.1.length - i < N → i ≤ s.2.2.2.2.1.length →
  W6 N s all (i : Int) = some (Z6u s (Zl9 all (s.2.2.2.2.1.drop i)) && ((Z14 s.2.2.2.2.1 0 == s.2.1.2.1) && ((s.2.2.2.2.2.2.2.2.1 == 0) && (hiB s.2.2.2.2.2.2.2.1 s.2.2.2.1 && (hiB s.2.2.2.2.2.2.2.1 s.2.2.2.2.1 && (Qq9 s && (s.1 == stF s)))))), ())
 | 0, _, _, _, h, _ => by omega
 | N + 1, i, all, ha, hN, hi => by
  have la := Q9 ha hs.e0 hs.eK hK
  have l1 := Q9 hs.pend hs.e0 hs.eK hK
  have l2 := Q9 hs.flight hs.e0 hs.eK hK
  have l3 := Q9 hs.acked hs.e0 hs.eK hK
  rw [W6]
  by_cases h : i < s.2.2.2.2.1.length
  ·rw [Zj (Zk (by omega)), Zc (by omega), Zs h (by omega), Zm1 _ _ (by omega), Option.bind_some, J6 (d := Zu) h]
   exact Q2s hs hK N (i + 1) _ (Zvb ha (hs.acked.2 _ (Xc h))) (by omega) (by omega)
  ·have c1 := Z3v hs.pend hs.e0
   have c2 := Z3v hs.flight hs.e0
   have c3 := Z3v hs.acked hs.e0
   have heK := hs.eK
   rw [Zh (Zl (by omega)), Zaa _ (by omega), Zaa _ (by omega), Zaa _ (by omega), Zaa _ (by omega), Z8g _ _ (by omega), List.drop_eq_nil_of_le (by omega)]
   simp only [Option.bind_some, ha.1, hs.pend.1, hs.flight.1, hs.acked.1, if_true]
   rw [Zc (fun h1 h2 => by
    simp only [Bool.or_eq_false_iff, bne_eq_false_iff_eq, decide_eq_true_eq] at h1 h2
    have := Qqs (l := all) (by omega)
    omega), Zx (n := Jy s.2.2.1 + Jy s.2.2.2.1) (by omega) (by omega), Zx (by omega) (by omega), show Zl9 all [] = all from rfl]
   have e3 := Q2t s (by omega) (by omega) (Ww s 0) 0 (by unfold Ww; omega) (by omega)
   simp only [Int.natCast_zero, List.drop_zero] at e3
   rw [e3]
   unfold Z6u
   generalize (hiB s.2.2.2.2.2.2.2.1 s.2.2.2.1 && (hiB s.2.2.2.2.2.2.2.1 s.2.2.2.2.1 && (Qq9 s && (s.1 == stF s)))) = R
   have hq : (if True ∧ (0 : Int) ≤ 0 then Z14 s.2.2.2.2.1 0 else -1) = Z14 s.2.2.2.2.1 0 := by simp
   rw [hq]
   by_cases w1 : Jy all = s.2.1.2.2.1
   ·by_cases w2 : Jy s.2.2.1 + Jy s.2.2.2.1 + Jy s.2.2.2.2.1 = s.2.1.2.2.1
    ·have hz : ((decide (s.2.1.2.2.1 > 0)) && ((all.getD (0 : Int).toNat Zu).2.1 != s.2.1.2.2.1)) = false := by
      by_cases hp : 0 < s.2.1.2.2.1
      ·have := Qvv ha w1 hp
       rw [show ((0 : Int).toNat) = 0 from rfl, this]; simp
      ·rw [Zl (by omega)]; rfl
     rw [hz, beq_iff_eq.2 w1, beq_iff_eq.2 w2, show (Jy all != s.2.1.2.2.1) = false by simp [w1], show (Jy s.2.2.1 + Jy s.2.2.2.1 + Jy s.2.2.2.2.1 != s.2.1.2.2.1) = false by simp [w2]]
     simp only [Bool.or_self, cond_false, Option.bind_some, Bool.false_or, Bool.and_self, Bool.true_and]
     simp only [bne]
     generalize (Z14 s.2.2.2.2.1 0 == s.2.1.2.1) = g1
     generalize (s.2.2.2.2.2.2.2.2.1 == 0) = g2
     cases g1 <;> cases g2 <;> rfl
    ·rw [beq_eq_false_iff_ne.2 w2, show (Jy s.2.2.1 + Jy s.2.2.2.1 + Jy s.2.2.2.2.1 != s.2.1.2.2.1) = true by simp [w2]]
     simp
   ·rw [beq_eq_false_iff_ne.2 w1, show (Jy all != s.2.1.2.2.1) = true by simp [w1]]
    simp
theorem Q2r {K : Int} {s : Zm} (hs : Jl K s) (hK : K ≤ 1000000) : ∀ (N i : Nat) (all : List Ze), RL (Qwo s) all → s.2.2.2.1.length - i < N → i ≤ s.2.2.2.1.length →
  W5 N s all (i : Int) = some (Z6u s (Zl9 (Zl9 all (s.2.2.2.1.drop i)) s.2.2.2.2.1) && ((Z14 s.2.2.2.2.1 0 == s.2.1.2.1) && ((s.2.2.2.2.2.2.2.2.1 == 0) && (hiB s.2.2.2.2.2.2.2.1 s.2.2.2.1 && (hiB s.2.2.2.2.2.2.2.1 s.2.2.2.2.1 && (Qq9 s && (s.1 == stF s)))))), ())
 | 0, _, _, _, h, _ => by omega
 | N + 1, i, all, ha, hN, hi => by
  have la := Q9 ha hs.e0 hs.eK hK
  have l2 := Q9 hs.flight hs.e0 hs.eK hK
  rw [W5]
  by_cases h : i < s.2.2.2.1.length
  ·rw [Zj (Zk (by omega)), Zc (by omega), Zs h (by omega), Zm1 _ _ (by omega), Option.bind_some, J6 (d := Zu) h]
   exact Q2r hs hK N (i + 1) _ (Zvb ha (hs.flight.2 _ (Xc h))) (by omega) (by omega)
  ·rw [Zh (Zl (by omega)), List.drop_eq_nil_of_le (by omega)]
   have := Q2s hs hK (Wv s all 0) 0 all ha (by unfold Wv; omega) (by omega)
   simp only [Int.natCast_zero, List.drop_zero] at this
   exact this
theorem Qvm {K : Int} {s : Zm} (hs : Jl K s) (hK : K ≤ 1000000) (t : List Ze) (ht : t.length ≤ 3000000) (hE : ∀ x ∈ t, x.2.1 ≤ s.2.1.2.2.1) : ∀ (N i : Nat) (all : List Ze), RL (Qwo s) all → t.length - i < N → i ≤ t.length →
  Zfu N s.2.1.2.2.1 all t (t.length : Int) (i : Int) = some (Jy (Zl9 all (t.drop i)) == s.2.1.2.2.1, ())
 | 0, _, _, _, h, _ => by omega
 | N + 1, i, all, ha, hN, hi => by
  have la := Q9 ha hs.e0 hs.eK hK
  rw [Zfu]
  by_cases h : i < t.length
  ·rw [Zj (Zk (by omega)), Zc (by omega), Zs h (by omega), Qvr _ _ (by omega), Option.bind_some, J6 (d := Zu) h]
   exact Qvm hs hK t ht hE N (i + 1) _ (Zvb ha (hE _ (Xc h))) (by omega) (by omega)
  ·rw [Zh (Zl (by omega)), List.drop_eq_nil_of_le (by omega), Zk0 _ (by omega)]
   simp only [ha.1, if_true, Option.bind_some]
   unfold Zbd
   rw [Zc (fun h => by
    have := of_decide_eq_true h
    rw [Zx (by omega) (by omega)]; omega)]
   have hz : ((decide ((all.length : Int) > 0)) && (decide ((all.getD (IntKind.i64.wrap ((all.length : Int) - 1)).toNat Zu).2.1 > s.2.1.2.2.1))) = false := by
    by_cases hp : (all.length : Int) > 0
    ·rw [Zx (by omega) (by omega)]
     have := ha.2 _ (Xc (l := all) (i := ((all.length : Int) - 1).toNat) (d := Zu) (by omega))
     rw [Zl (p := _ > s.2.1.2.2.1) (by unfold Qwo at this; omega)]; simp
    ·rw [Zl hp]; rfl
   rw [hz, show Zl9 all [] = all from rfl]
   cases Jy all == s.2.1.2.2.1 <;> rfl
theorem Q0l {lo S : Int} : ∀ {l : List Ze}, rsB lo l = true → hiB S l = !((decide ((l.length : Int) > 0)) && (decide ((l.getD (l.length - 1) Zu).2.1 > S)))
 | [], _ => rfl
 | [x], _ => by
  simp only [hiB, List.all_cons, List.all_nil, Bool.and_true, List.length_singleton, Nat.sub_self, List.getD_cons_zero]
  by_cases h : x.2.1 ≤ S
  ·rw [Zk h, Zl (p := x.2.1 > S) (by omega)]; rfl
  ·rw [Zl h, Zk (p := x.2.1 > S) (by omega)]; rfl
 | x :: y :: l, h => by
  obtain ⟨a1, a2, a3⟩ := Ju.1 h
  have ih := Q0l (S := S) a3
  have b := Ju.1 a3
  have b1 := Qx.1 b.1
  have e : (x :: y :: l).getD ((x :: y :: l).length - 1) Zu = (y :: l).getD ((y :: l).length - 1) Zu := by simp
  rw [e]
  have e2 : hiB S (x :: y :: l) = (decide (x.2.1 ≤ S) && hiB S (y :: l)) := rfl
  rw [e2, ih, Zk (p := ((x :: y :: l).length : Int) > 0) (by simp only [List.length_cons]; omega), Zk (p := ((y :: l).length : Int) > 0) (by simp only [List.length_cons]; omega)]
  by_cases hx : x.2.1 ≤ S
  ·rw [Zk hx]; rfl
  ·have e3 : hiB S (y :: l) = false := by
    simp only [hiB, List.all_cons]
    rw [Zl (by omega)]; rfl
   rw [e3, Zk (p := ((y :: l).length : Int) > 0) (by simp only [List.length_cons]; omega)] at ih
   rw [Zl hx]
   simpa using ih
theorem Qjv {lo : Int} {l : List Ze} (h : rsB lo l = true) (hl : l.length ≤ 1048576) (S : Int) : Zbd l S = some (!hiB S l, ()) := by
 unfold Zbd
 simp only
 rw [Zc (fun h => by
  have := of_decide_eq_true h
  rw [Zx (by omega) (by omega)]; omega), Q0l h (S := S), Bool.not_not]
 by_cases hp : (l.length : Int) > 0
 ·rw [Zx (by omega) (by omega), show ((l.length : Int) - 1).toNat = l.length - 1 by omega]
 ·rw [Zl hp]; rfl
theorem Qv3 {K : Int} {s : Zm} (hs : Jl K s) (hK : K ≤ 1000000) : Zot s = Ym s := by
 have l1 := Q9 hs.pend hs.e0 hs.eK hK
 have l2 := Q9 hs.flight hs.e0 hs.eK hK
 have l3 := Q9 hs.acked hs.e0 hs.eK hK
 have hr := (Qb4 s.2.1 (by have := hs.cells; omega)).1
 have c1 := Z3v hs.pend hs.e0
 have c2 := Z3v hs.flight hs.e0
 have c3 := Z3v hs.acked hs.e0
 have heK := hs.eK
 have s1 := Q2r hs hK (Jr s s.2.2.1 0) 0 s.2.2.1 hs.pend (by unfold Jr; omega) (by omega)
 simp only [Int.natCast_zero, List.drop_zero] at s1
 have w1 : Zow s.2.2.1 s.2.2.2.1 s.2.2.2.2.1 s.2.1.2.2.1 = some (Z6u s (Zl9 (Zl9 s.2.2.1 s.2.2.2.1) s.2.2.2.2.1), ()) := by
  unfold Zow
  rw [Zk0 _ (by omega), Zk0 _ (by omega), Zk0 _ (by omega), Zyk _ (by omega), Zyk _ (by omega)]
  simp only [hs.pend.1, hs.flight.1, hs.acked.1, if_true, Option.bind_some]
  rw [Zx (n := Jy s.2.2.1 + Jy s.2.2.2.1) (by omega) (by omega), Zx (by omega) (by omega), Zc (by unfold Qp; omega)]
  have := Qvm hs hK (s.2.2.2.1 ++ s.2.2.2.2.1) (by simp; omega) (fun x hx => by
   rcases List.mem_append.1 hx with hx | hx
   ·exact hs.flight.2 x hx
   ·exact hs.acked.2 x hx) (Zdh s.2.1.2.2.1 s.2.2.1 (s.2.2.2.1 ++ s.2.2.2.2.1) ((s.2.2.2.1 ++ s.2.2.2.2.1).length : Int) 0) 0 s.2.2.1 hs.pend (by unfold Zdh; omega) (by omega)
  simp only [Int.natCast_zero, List.drop_zero] at this
  rw [this]
  unfold Z6u
  have e : Zl9 s.2.2.1 (s.2.2.2.1 ++ s.2.2.2.2.1) = Zl9 (Zl9 s.2.2.1 s.2.2.2.1) s.2.2.2.2.1 := List.foldl_append ..
  rw [e]
  simp only [bne]
  cases (Jy s.2.2.1 + Jy s.2.2.2.1 + Jy s.2.2.2.2.1 == s.2.1.2.2.1)
  ·simp
  ·simp
 have hg : ∀ f, 0 ≤ s.2.2.2.2.2.2.1 → s.2.2.2.2.2.2.1 ≤ 3 → Zfs s f = some (Z6u s (Zl9 (Zl9 s.2.2.1 s.2.2.2.1) s.2.2.2.2.1) && ((Z14 s.2.2.2.2.1 0 == s.2.1.2.1) && ((s.2.2.2.2.2.2.2.2.1 == 0) && (hiB s.2.2.2.2.2.2.2.1 s.2.2.2.1 && (hiB s.2.2.2.2.2.2.2.1 s.2.2.2.2.1 && ((s.2.2.2.2.2.1 == f) && (s.1 == stF s)))))), ()) := fun f h0 h3 => by
  unfold Zfs
  rw [w1, Qvz _ _ (by omega), Qjv hs.flight.1 (by omega), Qjv hs.acked.1 (by omega), Qpj s h0 h3]
  have hq : (if rsB (-1) s.2.2.2.2.1 = true ∧ (0 : Int) ≤ 0 then Z14 s.2.2.2.2.1 0 else -1) = Z14 s.2.2.2.2.1 0 := if_pos ⟨hs.acked.1, Int.le_refl _⟩
  rw [hq]
  simp only [Option.bind_some]
  generalize Z6u s (Zl9 (Zl9 s.2.2.1 s.2.2.2.1) s.2.2.2.2.1) = b1
  cases b1
  ·rfl
  simp only [cond_true, Option.bind_some, Bool.true_and]
  generalize (Z14 s.2.2.2.2.1 0 == s.2.1.2.1) = b2
  cases b2
  ·rfl
  simp only [cond_true, Option.bind_some, Bool.true_and]
  generalize hiB s.2.2.2.2.2.2.2.1 s.2.2.2.1 = b3
  generalize hiB s.2.2.2.2.2.2.2.1 s.2.2.2.2.1 = b4
  generalize (s.2.2.2.2.2.2.2.2.1 == 0) = b5
  generalize (s.2.2.2.2.2.1 == f) = b6
  cases b3 <;> cases b4 <;> cases b5 <;> cases b6 <;> rfl
 unfold Zot Ym
 rw [Qzl _ (by have := hs.cells; omega), hr, Zci _ (by omega), Zci _ (by omega), Zci _ (by omega), Zrd _ (by omega), Zrd _ (by omega), Zrd _ (by omega), s1]
 have e2 : Qe s.2.2.2.2.2.2.2.2.1 = some (decide (s.2.2.2.2.2.2.2.2.1 ≥ 0) && decide (s.2.2.2.2.2.2.2.2.1 ≤ 4611686018427387903), ()) := rfl
 have e3 : Ye s.2.2.2.2.2.2.2.2.1 = some (decide (s.2.2.2.2.2.2.2.2.1 ≥ 0) && decide (s.2.2.2.2.2.2.2.2.1 ≤ 4611686018427387903), ()) := rfl
 simp only [hs.pend.1, hs.flight.1, hs.acked.1, e2, e3, Zqi, Zwy, Option.bind_some]
 generalize Z3n s.2.1 = b1
 cases b1
 ·rfl
 simp only [Bool.not_true, cond_false, Option.bind_some, Bool.false_or]
 generalize (decide (s.2.2.2.2.2.2.2.1 ≥ 0) && decide (s.2.2.2.2.2.2.2.1 ≤ s.2.1.2.2.1)) = b2
 cases b2
 ·rfl
 simp only [Bool.not_true, cond_false, Option.bind_some, Bool.false_or]
 generalize (decide (s.2.2.2.2.2.2.2.2.1 ≥ 0) && decide (s.2.2.2.2.2.2.2.2.1 ≤ 4611686018427387903)) = b3
 cases b3
 ·rfl
 simp only [Bool.not_true, cond_false, Option.bind_some, Bool.false_or]
 by_cases hf : 0 ≤ s.2.2.2.2.2.2.1 ∧ s.2.2.2.2.2.2.1 ≤ 3
 ·rw [hg _ hf.1 hf.2, hg _ hf.1 hf.2, show (decide (s.2.2.2.2.2.2.1 ≥ 0) && decide (s.2.2.2.2.2.2.1 ≤ 3)) = true by simp only [Bool.and_eq_true, decide_eq_true_eq]; exact hf]
  simp only [Bool.not_true, cond_false]
  cases (s.1 == (4 : Int)) || (s.1 == (5 : Int))
  ·simp only [cond_false]
   have e0 := hs.e0
   have : Qq9 s = (bif s.2.2.2.2.2.2.1 == 0 then s.2.2.2.2.2.1 == -1 else s.2.2.2.2.2.1 == s.2.1.2.2.1) := by
    unfold Qq9
    cases hz : s.2.2.2.2.2.2.1 == 0
    ·by_cases h1 : s.2.2.2.2.2.1 = -1
     ·rw [h1]; simp; omega
     ·have : (s.2.2.2.2.2.1 == -1) = false := by simpa using h1
      simp [this, bne]
    ·by_cases h1 : s.2.2.2.2.2.1 = -1
     ·rw [h1]; simp
     ·have : (s.2.2.2.2.2.1 == -1) = false := by simpa using h1
      simp [this]
   rw [this]
   cases s.2.2.2.2.2.2.1 == 0 <;> rfl
  ·simp only [cond_true]
   congr 2
   ac_rfl
 ·rw [show (decide (s.2.2.2.2.2.2.1 ≥ 0) && decide (s.2.2.2.2.2.2.1 ≤ 3)) = false by rw [Bool.and_eq_false_iff, decide_eq_false_iff_not, decide_eq_false_iff_not]; omega]
  rfl
theorem Qw7 (l : List Q2) (hl : l.length ≤ 1048576) (ht : Zkn l ≤ 1000000) : ∀ (N i : Nat) (e : Int), l.length - i < N → i ≤ l.length → -1 ≤ e → e ≤ 4611686018427387903 → Zfq N (e + 1) l (l.length : Int) (i : Int) = some (ckB e (l.drop i), ())
 | 0, _, _, h, _, _, _ => by omega
 | N + 1, i, e, hN, hi, h0, h1 => by
  rw [Zfq]
  by_cases hh : i < l.length
  ·have hm := Qaf (Xc (l := l) (d := Qm) hh)
   rw [Zj (Zk (by omega)), Zc (by omega), Zs hh (by omega), show (i : Int).toNat = i from rfl, J6 (d := Qm) hh]
   generalize hc : l.getD i Qm = c at hm
   have e1 : (((c.2.1.length : Int) == 0) || decide (c.1 < e + 1)) = (decide (c.1 ≤ e) || (c.2.1 == ([] : List UInt8))) := by
    rw [Bool.eq_iff_iff]
    simp only [Bool.or_eq_true, beq_iff_eq, decide_eq_true_eq]
    rw [← List.length_eq_zero_iff]; omega
   simp only [ckB]
   rw [e1, Zx (n := 4611686018427387903 - (c.2.1.length : Int)) (by omega) (by omega)]
   cases hx : ((decide (c.1 ≤ e) || (c.2.1 == ([] : List UInt8))) || decide (c.1 > 4611686018427387903 - (c.2.1.length : Int)))
   ·simp only [Bool.or_eq_false_iff, decide_eq_false_iff_not] at hx
    rw [cond_false]
    unfold Zfp
    rw [Option.bind_some]
    simp only
    rw [Zx (n := c.1 + (c.2.1.length : Int)) (by omega) (by omega), Zx (by omega) (by omega), Qw7 l hl ht N (i + 1) (c.1 + (c.2.1.length : Int)) (by omega) (by omega) (by omega) (by omega)]
    simp
   ·rfl
  ·rw [Zh (Zl (by omega)), List.drop_eq_nil_of_le (by omega)]; rfl
theorem Qpo (n : Int) : Ye n = some (Zsx n, ()) := rfl
theorem Z1b {K : Nat} {b : Z2} (h : Zi8 K b) (hK : K ≤ 1000000) : Zey b = some (Zsb b, ()) := by
 have hl := h.len
 have ht := h.tot
 unfold Zey Zsb
 rw [Qpo, Option.bind_some]
 cases hq : Zsx b.1
 ·simp
 ·have hq := Zuq.1 hq
  rw [Zx (n := b.1 - 1) (by omega) (by omega)]
  have := Qw7 b.2.1 (by omega) (by omega) (Zdg b.1 b.2.1 (b.2.1.length : Int) 0) 0 (b.1 - 1) (by unfold Zdg; omega) (by omega) (by omega) (by omega)
  simp only [Int.natCast_zero, List.drop_zero, Int.sub_add_cancel] at this
  rw [Bool.not_true, cond_false, this, Bool.and_true]
theorem Q01 {K : Nat} {b : Z2} (h : Zi8 K b) (hK : K ≤ 1000000) : Zvs b = Zol b := by
 have hl := h.len
 unfold Zvs Zol
 rw [Z1b h hK, Zk4 b (by omega), Option.bind_some]
 cases hz : ((b.2.1.length : Int) == 0)
 ·cases Zsb b
  ·rfl
  ·rfl
 ·cases Zsb b <;> rfl
theorem Qsd {K : Nat} {b : Z2} (h : Zi8 K b) (hK : K ≤ 1000000) : Zlk b = V7 b := by
 have hl := h.len
 unfold Zlk V7
 rw [Z1b h hK, Zk4 b (by omega)]
theorem Qrq {K : Nat} {r : Qb} (h : Zi8 K r.2.1) (hK : K ≤ 1000000) : Zlj r = X9 r := by
 have hl := h.len
 obtain ⟨v, hv⟩ := Q0k h hK
 unfold Zlj X9 Ztl
 rw [Z1b h hK, Zk4 _ (by omega), Q01 h hK, hv, Qsd h hK, Zwd _ (by omega)]
 simp only [Qpo, Zdk, Zwy, Option.bind_some]
 generalize Zsb r.2.1 = b1
 cases b1
 ·cases r.2.2.1 != (-1 : Int) <;> rfl
 simp only [Bool.not_true, cond_false, Option.bind_some, Bool.false_or]
 cases hq : Zsx r.2.2.2.1
 ·by_cases h1 : v > r.2.2.2.1
  ·rw [Zk h1]
   cases r.2.2.1 != (-1 : Int) <;> rfl
  ·rw [Zl h1]
   cases r.2.2.1 != (-1 : Int) <;> rfl
 have hq := Zuq.1 hq
 simp only [Bool.not_true, cond_false, Option.bind_some, Bool.false_or]
 by_cases h1 : v > r.2.2.2.1
 ·rw [Zk h1]
  cases r.2.2.1 != (-1 : Int) <;> rfl
 rw [Zl h1]
 simp only [cond_false, Option.bind_some, Bool.false_or]
 cases hc : Zsx r.2.2.2.2.1
 ·cases r.2.2.1 != (-1 : Int) <;> rfl
 simp only [Bool.not_true, cond_false, Option.bind_some, Bool.false_or]
 have e : ((r.2.2.1 != -1) && (!(decide (r.2.2.1 ≥ r.2.2.2.1) && decide (r.2.2.1 ≤ 4611686018427387903)))) = ((((r.2.2.1 != -1) && (decide (r.2.2.1 < r.2.2.2.1))) || (decide (r.2.2.1 > 4611686018427387903))) || (decide (r.2.2.1 < -1))) := by
  rw [Bool.eq_iff_iff]
  simp only [Bool.and_eq_true, bne_iff_ne, ne_eq, Bool.not_eq_true', Bool.and_eq_false_iff, decide_eq_false_iff_not, Bool.or_eq_true, decide_eq_true_eq]
  omega
 by_cases hf : r.2.2.1 = -1
 ·rw [hf]
  have e2 : ((-1 : Int) == r.2.2.2.1) = false := by rw [beq_eq_false_iff_ne]; omega
  have j : ∀ b, J1 r b = Yu r b := fun b => by
   unfold J1 Yu
   rw [hf, e2]; rfl
  simp only [j]
  rfl
 ·have hn : (r.2.2.1 != -1) = true := by simpa using hf
  rw [hn] at e ⊢
  simp only [cond_true, Option.bind_some, Bool.true_and] at e ⊢
  rw [e]
  have j : ∀ b, J1 r b = Yu r b := fun b => by
   unfold J1 Yu
   rw [hn]
   have : (r.2.2.1 == r.2.2.2.1) = (r.2.2.2.1 == r.2.2.1) := by rw [Bool.eq_iff_iff]; simp only [beq_iff_eq]; exact eq_comm
   rw [this]; rfl
  simp only [j]
  generalize ((((decide (r.2.2.1 < r.2.2.2.1))) || (decide (r.2.2.1 > 4611686018427387903))) || (decide (r.2.2.1 < -1))) = c
  cases c
  ·simp only [cond_false]
   congr 1
   congr 1
   congr 1
   congr 1
   congr 2
   ac_rfl
  ·rfl
theorem Qnr (c : Qq) : Zk1 c = Yl c := rfl
theorem Qns (w : Y3) : Zk3 w = Kz w := rfl
theorem Qrp (p : Xm) : Zp0 p = Zbf p := rfl
theorem bO {β : Type} {c b : Bool} {f : Bool × Unit → Option β} : Option.bind (bif c then some (false, ()) else some (b, ())) f = f (!c && b, ()) := by cases c <;> rfl
theorem bO2 {c b : Bool} : (c || !(!c && b)) = (c || !b) := by cases c <;> rfl
theorem bA {β : Type} {c b : Bool} {f : Bool × Unit → Option β} : Option.bind (bif c then some (b, ()) else some (false, ())) f = f (c && b, ()) := by cases c <;> rfl
theorem bA2 {c b : Bool} : (c && (c && b)) = (c && b) := by cases c <;> rfl
theorem Qb5 {K : Nat} {s : Zo} (h : Ka K s) (hK : K ≤ 1000000) : Zk2 s = Vj s := by
 obtain ⟨b1, e1, -⟩ := Zfv h.snd (by omega)
 obtain ⟨b2, e2⟩ := Zhy s.2.2.1
 obtain ⟨b3, e3⟩ := Zjg h.rcv hK
 obtain ⟨b4, e4⟩ := Znb s.2.2.2.2.1
 obtain ⟨b5, e5⟩ := Zrl s.2.2.2.2.2.1
 unfold Zk2 Vj
 simp only [Qv3 h.snd (by omega), Qrq h.rcv hK, Qnr, Qns, Qrp, e1, e2, e3, e4, e5, Zdk, Qpo, Option.bind_some, bO, bO2]
 have n1 : (s.2.1.1 != 0) = !(s.2.1.1 == 0) := rfl
 have n2 : (s.2.1.2.1.2.2.1 != 0) = !(s.2.1.2.1.2.2.1 == 0) := rfl
 have n3 : (s.2.1.2.2.2.2.2.1 != -1) = !(s.2.1.2.2.2.2.2.1 == -1) := rfl
 rw [n1, n2, n3]
 generalize Zsx s.1 = q1
 generalize Zsx _ = q2
 generalize (s.2.1.1 == 0) = x1
 generalize (s.2.1.2.1.2.2.1 == 0) = x2
 generalize (s.2.1.2.2.2.2.2.1 == -1) = x3
 generalize decide (s.2.1.2.2.2.2.2.2.2.1 > s.2.2.1.2.1) = a1
 generalize decide (s.2.2.2.1.2.2.2.1 > s.2.2.2.2.1.2.2.2.1) = a2
 generalize (s.2.2.2.2.2.2.2.2.1 && (s.2.1.1 != 4)) = a3
 generalize (s.2.2.2.2.2.2.2.2.2.1 && !s.2.2.2.2.2.2.2.2.2.2.2.1) = a4
 generalize ((s.2.2.2.2.2.2.2.2.2.2.2.2.1 != 0) && !s.2.2.2.2.2.2.2.2.2.2.2.1) = a5
 generalize (((s.2.2.2.1.1 == 0) && (s.2.2.2.1.2.2.2.1 == 0)) && !s.2.2.2.2.2.2.2.2.2.2.2.1) = a6
 generalize s.2.2.2.2.2.2.1 = cs
 generalize s.2.2.2.2.2.2.2.1 = cr
 cases q1
 ·rfl
 cases b1
 ·cases q2 <;> rfl
 cases b2
 ·cases q2 <;> rfl
 cases b3
 ·cases q2 <;> rfl
 cases b4
 ·cases q2 <;> rfl
 cases b5
 ·cases q2 <;> rfl
 cases q2
 ·rfl
 clear e1 e2 e3 e4 e5 n1 n2 n3 h
 revert x1 x2 x3 a1 a2 a3 a4 a5 a6 cs cr
 decide
theorem Qsl (n : Int) : Zov n = Zik n := by
 unfold Zov Zik
 rw [Zwy, Zqi]
 rfl
theorem Qse (n : Int) : Zou n = Zii n := by
 unfold Zou Zii
 rw [Zwy, Zqi]
 rfl
theorem Qp9 (n : Int) : T (Zik n) fun r => r.1.length ≤ 10 := by
 unfold Zik
 refine (inT n 0 5).bind fun t ht => T.ite (fun _ => T.pure (by simp)) fun h => ?_
 have := ht (by simpa using h)
 refine T.guard (by simp; omega) (T.pure ?_)
 obtain ⟨m, rfl⟩ := Int.eq_ofNat_of_zero_le this.1
 have : m = 0 ∨ m = 1 ∨ m = 2 ∨ m = 3 ∨ m = 4 ∨ m = 5 := by omega
 rcases this with rfl | rfl | rfl | rfl | rfl | rfl <;> decide
theorem Qp7 (n : Int) : T (Zii n) fun r => r.1.length ≤ 10 := by
 unfold Zii
 refine (inT n 0 5).bind fun t ht => T.ite (fun _ => T.pure (by simp)) fun h => ?_
 have := ht (by simpa using h)
 refine T.guard (by simp; omega) (T.pure ?_)
 obtain ⟨m, rfl⟩ := Int.eq_ofNat_of_zero_le this.1
 have : m = 0 ∨ m = 1 ∨ m = 2 ∨ m = 3 ∨ m = 4 ∨ m = 5 := by omega
 rcases this with rfl | rfl | rfl | rfl | rfl | rfl <;> decide
def rgT (r : Ze) : List UInt8 := Go.Lib.itoa r.1 ++ (([45] : List UInt8) ++ Go.Lib.itoa r.2.1)
def Zus : List Ze → List UInt8
 | [] => []
 | r :: l => [32] ++ (rgT r ++ Zus l)
def Z1h : List Ze → List UInt8
 | [] => [110, 111, 110, 101]
 | r :: l => rgT r ++ Zus l
def r64 (r : Ze) : Prop := (-9223372036854775808 ≤ r.1 ∧ r.1 ≤ 9223372036854775807) ∧ (-9223372036854775808 ≤ r.2.1 ∧ r.2.1 ≤ 9223372036854775807)
theorem Qhu {r : Ze} (h : r64 r) : (rgT r).length ≤ 43 := by
 have := Yk r.1 h.1.1 h.1.2
 have := Yk r.2.1 h.2.1 h.2.2
 simp only [rgT, List.length_append, List.length_singleton]; omega
theorem Q1q (r : Ze) : rgT r ≠ [] := by simp [rgT]
theorem Qnj (l : List Ze) (hl : l.length ≤ 1048576) (hr : ∀ x ∈ l, r64 x) : ∀ (N i : Nat) (s : List UInt8), l.length - i < N → i ≤ l.length → s.length ≤ 100 * i → (s = [] → i = 0) →
  Kq N l s (i : Int) = some (if i = 0 ∧ l.length = 0 then [110, 111, 110, 101] else s ++ (if i = 0 then (Zus l).drop 1 else Zus (l.drop i)), ())
 | 0, _, _, h, _, _, _ => by omega
 | N + 1, i, s, hN, hi, hs, h0 => by
  rw [Kq]
  by_cases hh : i < l.length
  ·have hm := hr _ (Xc (d := Zu) hh)
   have hg := Qhu hm
   have hn := Q1q (l.getD i Zu)
   simp only [rgT, List.length_append, List.length_singleton] at hg
   have j : ∀ s : List UInt8, s.length ≤ 100 * i + 1 → Zaq (fun v => Kq N v.1 v.2.1 v.2.2.1) l s (i : Int) = some (s ++ (rgT (l.getD i Zu) ++ Zus (l.drop (i + 1))), ()) := fun s hs => by
    unfold Zaq
    rw [Zc (by omega), Zc (by omega), show (i : Int).toNat = i from rfl, Zbu _ hm.1.1 hm.1.2, Zbu _ hm.2.1 hm.2.2]
    simp only [Option.bind_some]
    rw [Zc (by unfold Z5; omega), Zc (by unfold Z5; simp only [List.length_append, List.length_singleton]; omega), Zc (by unfold Z5; simp only [List.length_append, List.length_singleton]; omega), Zs hh (by omega),
     Qnj l hl hr N (i + 1) _ (by omega) (by omega) (by simp only [List.length_append, List.length_singleton]; omega) (by simp)]
    rw [if_neg (by omega), if_neg (by omega)]
    simp only [rgT, List.append_assoc]
   rw [Zj (Zk (by omega)), if_neg (by omega)]
   by_cases hz : i = 0
   ·subst hz
    rw [Zh (by simp), j s (by omega), if_pos rfl]
    have : Zus l = [32] ++ (rgT (l.getD 0 Zu) ++ Zus (l.drop 1)) := by
     have := J6 (l := l) (i := 0) (d := Zu) hh
     rw [List.drop_zero] at this
     conv => lhs; rw [this]
     rfl
    rw [this]; rfl
   ·rw [Zj (Zk (by omega)), Zc (by unfold Z5; simp only [List.length_singleton]; omega), j _ (by simp only [List.length_append, List.length_singleton]; omega), if_neg hz, J6 (d := Zu) hh]
    simp only [Zus, List.append_assoc]
  ·rw [Zh (Zl (by omega)), List.drop_eq_nil_of_le (show l.length ≤ i by omega)]
   by_cases hz : i = 0
   ·subst hz
    have e : l = [] := List.eq_nil_of_length_eq_zero (by omega)
    subst e
    simp only [List.length_nil, and_self, if_true]
    have : s = [] := List.eq_nil_of_length_eq_zero (by omega)
    rw [this]; rfl
   ·have : s ≠ [] := fun h => hz (h0 h)
    rw [Zh (by simpa using this), if_neg (by omega), if_neg hz]; simp [Zus]
theorem Zqr (l : List Ze) (hl : l.length ≤ 1048576) (hr : ∀ x ∈ l, r64 x) : Vq l = some (Z1h l, ()) := by
 unfold Vq
 have := Qnj l hl hr (Wg l [] 0) 0 [] (by unfold Wg; omega) (by omega) (by simp) (fun _ => rfl)
 rw [Int.natCast_zero] at this
 rw [this]
 rcases l with _ | ⟨r, l⟩
 ·rfl
 ·rw [if_neg (by simp), if_pos rfl]; rfl
theorem Qni (l : List Ze) (hl : l.length ≤ 1048576) (hr : ∀ x ∈ l, r64 x) : ∀ (N i : Nat) (s : List UInt8), l.length - i < N → i ≤ l.length → s.length ≤ 100 * i →
  Kk N s l (l.length : Int) (i : Int) = some (s ++ (if i = 0 then (Zus l).drop 1 else Zus (l.drop i)), ())
 | 0, _, _, h, _, _ => by omega
 | N + 1, i, s, hN, hi, hs => by
  rw [Kk]
  by_cases hh : i < l.length
  ·have hm := hr _ (Xc (d := Zu) hh)
   have hg := Qhu hm
   simp only [rgT, List.length_append, List.length_singleton] at hg
   have j : ∀ s : List UInt8, s.length ≤ 100 * i + 1 → Zaj (fun v => Kk N v.1 v.2.1 v.2.2.1 v.2.2.2.1) s (l.getD (i : Int).toNat Zu) l (l.length : Int) (i : Int) = some (s ++ (rgT (l.getD i Zu) ++ Zus (l.drop (i + 1))), ()) := fun s hs => by
    unfold Zaj
    rw [show (i : Int).toNat = i from rfl, Zde _ hm.1.1 hm.1.2, Zde _ hm.2.1 hm.2.2]
    simp only [Option.bind_some]
    rw [Zc (by unfold Z5; simp only [List.length_singleton]; omega), Zc (by unfold Z5; simp only [List.length_append, List.length_singleton]; omega), Zc (by unfold Z5; simp only [List.length_append, List.length_singleton]; omega), Zs hh (by omega),
     Qni l hl hr N (i + 1) _ (by omega) (by omega) (by simp only [List.length_append, List.length_singleton]; omega)]
    rw [if_neg (by omega)]
    simp only [rgT, List.append_assoc]
   rw [Zj (Zk (by omega)), Zc (by omega)]
   by_cases hz : i = 0
   ·subst hz
    rw [Zh (by simp), j s (by omega), if_pos rfl]
    have : Zus l = [32] ++ (rgT (l.getD 0 Zu) ++ Zus (l.drop 1)) := by
     have := J6 (l := l) (i := 0) (d := Zu) hh
     rw [List.drop_zero] at this
     conv => lhs; rw [this]
     rfl
    rw [this]; rfl
   ·rw [Zj (Zk (by omega)), Zc (by unfold Z5; simp only [List.length_singleton]; omega), j _ (by simp only [List.length_append, List.length_singleton]; omega), if_neg hz, J6 (d := Zu) hh]
    simp only [Zus, List.append_assoc]
  ·rw [Zh (Zl (by omega)), List.drop_eq_nil_of_le (show l.length ≤ i by omega)]
   by_cases hz : i = 0
   ·subst hz
    have e : l = [] := List.eq_nil_of_length_eq_zero (by omega)
    subst e
    simp [Zus]
   ·rw [if_neg hz]; simp [Zus]
theorem Zoq (l : List Ze) (hl : l.length ≤ 1048576) (hr : ∀ x ∈ l, r64 x) : Vm l = some (Z1h l, ()) := by
 unfold Vm
 have := Qni l hl hr (Wb [] l (l.length : Int) 0) 0 [] (by unfold Wb; omega) (by omega) (by simp)
 rw [Int.natCast_zero] at this
 rw [this]
 rcases l with _ | ⟨r, l⟩
 ·rfl
 ·rw [Zh (by simp; omega), if_pos rfl]; rfl
theorem Zsy : ∀ {l : List Ze}, (∀ x ∈ l, r64 x) → (Z1h l).length ≤ 44 * l.length + 4
 | [], _ => by simp [Z1h]
 | r :: l, h => by
  have g : ∀ {l : List Ze}, (∀ x ∈ l, r64 x) → (Zus l).length ≤ 44 * l.length := by
   intro l
   induction l with
   | nil => intro _; simp [Zus]
   | cons x l ih =>
    intro h
    have h1 := Qhu (h x (by simp))
    have h2 := ih fun y hy => h y (by simp [hy])
    simp only [Zus, List.length_append, List.length_cons, List.length_nil]; omega
  have h1 := Qhu (h r (by simp))
  have h2 := g (l := l) fun y hy => h y (by simp [hy])
  simp only [Z1h, List.length_append, List.length_cons]; omega
theorem Qwm {K : Nat} {r : Qb} (h : Zi8 K r.2.1) (hK : K ≤ 1000000) : T (X9 r) fun q => q.1 = true → Zsb r.2.1 = true := by
 obtain ⟨b, e⟩ := Zjg h hK
 refine ⟨_, e, fun hb => ?_⟩
 by_cases hx : Zsb r.2.1 = true
 ·exact hx
 ·have hx : Zsb r.2.1 = false := by simpa using hx
  unfold X9 at e
  rw [Zk4 _ (by have := h.len; omega), hx] at e
  simp only [Option.bind_some, Bool.not_false, cond_true, Bool.true_or] at e
  cases e
  cases hb
theorem Qv4 {K : Nat} {s : Zo} (h : Ka K s) (hK : K ≤ 1000000) : T (Vj s) fun r => r.1 = true → Zsx s.1 = true ∧ Zsb s.2.2.2.1.2.1 = true ∧ 0 ≤ s.2.1.2.2.2.2.2.2.2.1 ∧ s.2.1.2.2.2.2.2.2.2.1 ≤ s.2.1.2.1.2.2.1 := by
 obtain ⟨b1, e1, f1⟩ := Zfv h.snd (by omega)
 obtain ⟨b2, e2⟩ := Zhy s.2.2.1
 obtain ⟨⟨b3, ⟨⟩⟩, e3, f3⟩ := Qwm h.rcv hK
 obtain ⟨b4, e4⟩ := Znb s.2.2.2.2.1
 obtain ⟨b5, e5⟩ := Zrl s.2.2.2.2.2.1
 unfold Vj
 simp only [e1, e2, e3, e4, e5, Zdk, Option.bind_some, bO, bO2]
 refine T.ite (fun _ => T.pure fun h => by cases h) fun hc => ?_
 have : Zsx s.1 = true ∧ b1 = true ∧ b3 = true := by
  simp only [Bool.or_eq_false_iff, Bool.not_eq_false'] at hc
  exact ⟨hc.1.1.1.1.1.1.1, hc.1.1.1.1.1.1.2, hc.1.1.1.1.2⟩
 have q : Zsx s.1 = true ∧ Zsb s.2.2.2.1.2.1 = true ∧ 0 ≤ s.2.1.2.2.2.2.2.2.2.1 ∧ s.2.1.2.2.2.2.2.2.2.1 ≤ s.2.1.2.1.2.2.1 := ⟨this.1, f3 this.2.2, (f1 this.2.1).2⟩
 exact T.ite (fun _ => T.pure fun _ => q) fun _ => T.pure fun _ => q
theorem Zvc {E : Int} {l : List Ze} (h : RL E l) : ∀ x ∈ l, r64 x := fun x hx => by
 have := Qx.1 (Zoz h.1 x hx).2
 unfold r64; omega
theorem Qs5 {K : Nat} {b : Z2} (h : Zi8 K b) (hK : K ≤ 1000000) (hb : Zsb b = true) : Zi0 b = some (b.2.1.map rgC, ()) := by
 have hl := h.len
 have ht := h.tot
 have hf := Zrh (by omega) hb
 have lp : ∀ (N i : Nat) (o : List Ze), b.2.1.length - i < N → i ≤ b.2.1.length → o.length ≤ i → Zah N o b.2.1 (b.2.1.length : Int) (i : Int) = some (o ++ (b.2.1.drop i).map rgC, ()) := by
  intro N
  induction N with
  | zero => intro i o h; omega
  | succ N ih =>
   intro i o hN hi ho
   rw [Zah]
   by_cases hh : i < b.2.1.length
   ·have hm := Qaf (Xc (l := b.2.1) (d := Qm) hh)
    have hr := Qx.1 (Zoz hf.2.2 (rgC (b.2.1.getD i Qm)) (List.mem_map.2 ⟨_, Xc hh, rfl⟩)).2
    simp only [rgC] at hr
    rw [Zj (Zk (by omega)), Zc (by omega), show (i : Int).toNat = i from rfl]
    unfold Zfp
    rw [Option.bind_some]
    simp only
    rw [Zc (by unfold Qp; simp only [List.length_singleton]; omega), Zs hh (by omega), ih (i + 1) _ (by omega) (by omega) (by simp; omega), J6 (d := Qm) hh, Zx (by omega) (by omega)]
    simp [rgC]
   ·rw [Zh (Zl (by omega)), List.drop_eq_nil_of_le (show b.2.1.length ≤ i by omega)]; simp
 unfold Zi0
 rw [Z1b h hK, hb]
 exact lp _ 0 [] (by unfold Zdt; omega) (by omega) (by simp)
theorem Quf {K : Nat} {s : Zo} (h : Ka K s) (hK : K ≤ 1000000) : ∃ t, Zi6 s = some (t, ()) ∧ Zi2 s = some (t, ()) := by
 unfold Zi6 Zi2
 rw [Qb5 h hK]
 obtain ⟨⟨b, u⟩, e, hf⟩ := Qv4 h hK
 rw [e, Option.bind_some, Option.bind_some]
 cases b
 ·exact ⟨_, rfl, rfl⟩
 obtain ⟨h1, h2, h3, h4⟩ := hf rfl
 have h1 := Zuq.1 h1
 have heK := h.snd.eK
 have hb := Zrh (by have := h.rcv.tot; omega) h2
 have lP := Q9 h.snd.pend h.snd.e0 h.snd.eK (by omega)
 have lF := Q9 h.snd.flight h.snd.e0 h.snd.eK (by omega)
 have lA := Q9 h.snd.acked h.snd.e0 h.snd.eK (by omega)
 have rB : ∀ x ∈ s.2.2.2.1.2.1.2.1.map rgC, r64 x := fun x hx => by
  have := Qx.1 (Zoz hb.2.2 x hx).2
  unfold r64; omega
 have lB : (s.2.2.2.1.2.1.2.1.map rgC).length ≤ 1000000 := by have := h.rcv.len; rw [List.length_map]; omega
 obtain ⟨⟨nS, u1⟩, eS, hS⟩ := Qp9 s.2.1.1
 obtain ⟨⟨nR, u2⟩, eR, hR⟩ := Qp7 s.2.2.2.1.1
 simp only at hS hR
 have tP := Zsy (Zvc h.snd.pend)
 have tF := Zsy (Zvc h.snd.flight)
 have tA := Zsy (Zvc h.snd.acked)
 have tB := Zsy rB
 have i1 := Yk s.1 (by omega) (by omega)
 have i2 := Yk s.2.1.2.2.2.2.2.2.2.1 (by omega) (by omega)
 have i3 := Yk s.2.2.2.1.2.1.1 (by omega) (by omega)
 have j : ∀ t : List UInt8, t.length ≤ 300000000 → ∃ r, Zar s t = some (r, ()) ∧ Zak s t = some (r, ()) := fun t ht => by
  unfold Zar Zak
  cases s.2.2.2.2.2.2.2.1
  ·exact ⟨_, rfl, rfl⟩
  ·simp only [cond_true, Qse, eR, Zbu s.2.2.2.1.2.1.1 (by omega) (by omega), Zde s.2.2.2.1.2.1.1 (by omega) (by omega), Z6z h.rcv hK, Qs5 h.rcv hK h2, h2, if_true, Zqr _ (by omega) rB, Zoq _ (by omega) rB, Option.bind_some]
   refine ⟨t ++ ([32, 114, 101, 99, 118, 32] ++ nR ++ [32, 114, 101, 97, 100, 32] ++ Go.Lib.itoa s.2.2.2.1.2.1.1 ++ [32, 104, 97, 115, 32] ++ Z1h (s.2.2.2.1.2.1.2.1.map rgC)), ?_, ?_⟩
   ·repeat rw [Zc (by unfold Z5; simp only [List.length_append, List.length_cons, List.length_nil]; omega)]
    simp only [List.append_assoc]
   ·repeat rw [Zc (by unfold Z5; simp only [List.length_append, List.length_cons, List.length_nil]; omega)]
 simp only [Bool.not_true, cond_false, Zbu s.1 (by omega) (by omega), Zde s.1 (by omega) (by omega), Option.bind_some]
 cases s.2.2.2.2.2.2.1
 ·exact j _ (by omega)
 ·simp only [cond_true, Qsl, eS, Zbu s.2.1.2.2.2.2.2.2.2.1 (by omega) (by omega), Zde s.2.1.2.2.2.2.2.2.2.1 (by omega) (by omega), Zqr _ (by omega) (Zvc h.snd.pend), Zoq _ (by omega) (Zvc h.snd.pend), Zqr _ (by omega) (Zvc h.snd.flight), Zoq _ (by omega) (Zvc h.snd.flight), Zqr _ (by omega) (Zvc h.snd.acked), Zoq _ (by omega) (Zvc h.snd.acked), Option.bind_some]
  repeat rw [Zc (by unfold Z5; simp only [List.length_append, List.length_cons, List.length_nil]; omega)]
  simp only [List.append_assoc]
  exact j _ (by simp only [List.length_append, List.length_cons, List.length_nil]; omega)
theorem Qzk (c : Zrg) : Zpj c = Zas c := by
 unfold Zpj Zas Zhx Zaf
 have e1 : decide (c.1 ≥ 1) = decide (c.1 > 0) := by congr 1
 simp only [Zwy, Zqi, Option.bind_some, bA, bA2, e1]
 congr 2
 ac_rfl
theorem Qxz (c : Zja) : Zqt c = Zeh c := rfl
theorem Qxx (c : Qq) : Zqs c = Vr c := rfl
theorem Qh3 {K : Nat} {l : List Zo} (h : Zt0 K l) (hK : K ≤ 1000000) (h24 : l.length ≤ 24) : ∀ (N i : Nat), l.length - i < N → i ≤ l.length → J0 N l l (l.length : Int) (i : Int) = Yt N l (i : Int)
 | 0, _, h, _ => by omega
 | N + 1, i, hN, hi => by
  rw [J0, Yt]
  by_cases hh : i < l.length
  ·have g : ∀ {a : Prop}, a → decide ((i : Int) > 0) = true → 0 ≤ IntKind.i64.wrap ((i : Int) - 1) ∧ IntKind.i64.wrap ((i : Int) - 1) < (l.length : Int) := fun _ h => by
    have := of_decide_eq_true h; rw [Zx (by omega) (by omega)]; omega
   obtain ⟨b, e⟩ := Zy8 (h.all _ (Xc (d := Q7) hh)) hK
   rw [Zj (Zk (p := (i : Int) < (l.length : Int)) (by omega)), Zj (Zk (p := (i : Int) < (l.length : Int)) (by omega)), Zc (by omega), Zc (by omega), show (i : Int).toNat = i from rfl, Qb5 (h.all _ (Xc (d := Q7) hh)) hK, Zl (p := (i : Int) ≥ 24) (by omega), cond_false, e, Option.bind_some, Option.bind_some]
   simp only [Bool.false_or]
   rw [Zc (fun h h2 => g h h2), Zc (fun h h2 => g h h2), Zc (fun _ _ => by omega), Zs hh (by omega), Qh3 h hK h24 N (i + 1) (by omega) (by omega)]
  ·rw [Zh (Zl (by omega)), Zh (Zl (by omega)), Zk (by omega)]
theorem Qql {K : Nat} {l : List Zo} (h : Zt0 K l) (hK : K ≤ 1000000) (h24 : 24 < l.length) : ∀ (N i : Nat), 24 - i < N → i ≤ 24 → J0 N l l (l.length : Int) (i : Int) = some (false, ())
 | 0, _, h, _ => by omega
 | N + 1, i, hN, hi => by
  have hl := h.len
  rw [J0, Zj (Zk (by omega)), Zc (by omega)]
  have hh : i < l.length := by omega
  have g : ∀ {a : Prop}, a → decide ((i : Int) > 0) = true → 0 ≤ IntKind.i64.wrap ((i : Int) - 1) ∧ IntKind.i64.wrap ((i : Int) - 1) < (l.length : Int) := fun _ h => by
   have := of_decide_eq_true h; rw [Zx (by omega) (by omega)]; omega
  by_cases h4 : i = 24
  ·rw [Zk (p := (i : Int) ≥ 24) (by omega), cond_true, Option.bind_some]
   simp only [Bool.true_or]
   rw [Zc (fun h h2 => g h h2), cond_true]
  ·obtain ⟨b, e⟩ := Zy8 (h.all _ (Xc (d := Q7) hh)) hK
   rw [show (i : Int).toNat = i from rfl, Zl (p := (i : Int) ≥ 24) (by omega), cond_false, Qb5 (h.all _ (Xc (d := Q7) hh)) hK, e, Option.bind_some, Zs hh (by omega), Qql h hK h24 N (i + 1) (by omega) (by omega)]
   simp only [Bool.false_or]
   rw [Zc (fun h h2 => g h h2)]
   generalize (!b || _) = c
   cases c <;> rfl
theorem Zyf {K : Nat} {l : List Zo} (h : Zt0 K l) (hK : K ≤ 1000000) : Zbc l = Ky l := by
 by_cases h24 : l.length ≤ 24
 ·unfold Zbc Ky
  exact Qh3 h hK h24 _ 0 (by unfold Zay; omega) (by omega)
 ·obtain ⟨⟨b, u⟩, e, hb⟩ := Qea h hK
  have : b = false := by
   cases b
   ·rfl
   ·exact absurd (hb rfl) h24
  rw [e, this]
  unfold Zbc
  exact Qql h hK (by omega) _ 0 (by unfold Zay; omega) (by omega)
theorem Qua {K : Nat} {l : List Zo} (h : Zt0 K l) (hK : K ≤ 1000000) : Zm6 l = Zgq l := by
 obtain ⟨b, e⟩ := Zn9 h hK
 have hl := h.len
 have lp : b = true → ∀ (N i : Nat) (n : Int), l.length - i < N → i ≤ l.length → ∃ v, Yj N () n l (l.length : Int) (i : Int) = some (v, ()) ∧ Ji N l n (i : Int) = some (v, ()) := by
  intro hb N
  induction N with
  | zero => intro i n h; omega
  | succ N ih =>
   intro i n hN hi
   rw [Yj, Ji, e, hb]
   by_cases hh : i < l.length
   ·rw [Zk (by omega), cond_true, cond_true, Option.bind_some, Zc (by omega)]
    simp only [Bool.and_self, cond_true]
    rw [Zc (by omega), Zs hh (by omega)]
    exact ih (i + 1) _ (by omega) (by omega)
   ·rw [Zl (by omega)]
    exact ⟨n, rfl, rfl⟩
 unfold Zm6 Zbw Zgq
 rw [Zyf h hK, e]
 cases b
 ·rw [Yx, Ji, e]
  by_cases hh : 0 < l.length
  ·rw [Zk (by omega)]; rfl
  ·rw [Zl (by omega)]; rfl
 ·obtain ⟨v, h1, h2⟩ := lp rfl (Yx l 0 0) 0 0 (by unfold Yx; omega) (by omega)
  obtain ⟨v', h3, h4⟩ := lp rfl (Xo () 0 l (l.length : Int) 0) 0 0 (by unfold Xo; omega) (by omega)
  have e2 : Xo () 0 l (l.length : Int) 0 = Yx l 0 0 := rfl
  rw [Int.natCast_zero] at h1 h2 h3 h4
  rw [e2] at h3 ⊢
  simp only [Option.bind_some, Bool.not_true, cond_false, h1, h2]
theorem Qt9 {K : Nat} {l : List Zo} (h : Zt0 K l) (hK : K ≤ 1000000) : Zm5 l = Zgp l := by
 obtain ⟨b, e⟩ := Zn9 h hK
 have hl := h.len
 have lp : b = true → ∀ (N i : Nat) (n : Int), l.length - i < N → i ≤ l.length → ∃ v, Yi N () n l (l.length : Int) (i : Int) = some (v, ()) ∧ Jh N l n (i : Int) = some (v, ()) := by
  intro hb N
  induction N with
  | zero => intro i n h; omega
  | succ N ih =>
   intro i n hN hi
   rw [Yi, Jh, e, hb]
   by_cases hh : i < l.length
   ·rw [Zk (by omega), cond_true, cond_true, Option.bind_some, Zc (by omega)]
    simp only [Bool.and_self, cond_true]
    rw [Zc (by omega), Zs hh (by omega)]
    exact ih (i + 1) _ (by omega) (by omega)
   ·rw [Zl (by omega)]
    exact ⟨n, rfl, rfl⟩
 unfold Zm5 Zbv Zgp
 rw [Zyf h hK, e]
 cases b
 ·rw [Yw, Jh, e]
  by_cases hh : 0 < l.length
  ·rw [Zk (by omega)]; rfl
  ·rw [Zl (by omega)]; rfl
 ·obtain ⟨v, h1, h2⟩ := lp rfl (Yw l 0 0) 0 0 (by unfold Yw; omega) (by omega)
  have e2 : Jt () 0 l (l.length : Int) 0 = Yw l 0 0 := rfl
  rw [Int.natCast_zero] at h1 h2
  rw [e2]
  simp only [Option.bind_some, Bool.not_true, cond_false, h1, h2]
theorem Qnl {l : List Zg} (h : Qos l) (u : Unit) : ∀ (N i : Nat), l.length - i < N → i ≤ l.length → ∃ k b, Qc N l u (l.length : Int) (i : Int) = some (k, ()) ∧ decide (k ≥ 0) = !b ∧ Vx N l (i : Int) = some (b, ())
 | 0, _, h, _ => by omega
 | N + 1, i, hN, hi => by
  have hl := h.1
  rw [Qc, Vx]
  by_cases hh : i < l.length
  ·have hm := h.2 _ (Xc (d := Qg) hh)
   unfold FOK at hm
   unfold Zm7
   rw [Zj (Zk (by omega)), Zj (Zk (by omega)), Zc (by omega), Zc (by omega), show (i : Int).toNat = i from rfl, Z8i _ (by omega), Zq2 _ (by omega), Option.bind_some, Option.bind_some, Option.bind_some, Zs hh (by omega)]
   obtain ⟨k, b, h1, h2, h3⟩ := Qnl h () N (i + 1) (by omega) (by omega)
   cases hc : Ze8 (l.getD i Qg)
   ·exact ⟨_, false, rfl, by simp, rfl⟩
   ·exact ⟨k, b, h1, h2, h3⟩
  ·rw [Zh (Zl (by omega)), Zh (Zl (by omega))]; exact ⟨_, true, rfl, by simp, rfl⟩
theorem Qze {l : List Zg} (h : Qos l) : ∃ b, Qi l = some (!b, ()) ∧ Zgt l = some (b, ()) := by
 unfold Qi Xe Zgt
 obtain ⟨k, b, h1, h2, h3⟩ := Qnl h () (K8 l 0) 0 (by unfold K8; omega) (by omega)
 have e2 : Qy l () (l.length : Int) 0 = K8 l 0 := rfl
 rw [Int.natCast_zero] at h1 h3
 exact ⟨b, by rw [e2, h1, Option.bind_some, h2], h3⟩
theorem Qu1 {K : Nat} {c : Zi} (h : Qo K c) (hK : K ≤ 1000000) : Zpk c = Xy c := by
 obtain ⟨sv, es⟩ := Qdd h.str hK
 obtain ⟨nv, en⟩ := Qdc h.str hK
 have hl := h.pk.1
 obtain ⟨r1, w1⟩ : ∃ r, Z4 c.2.2.2.2.2.2.2.2.2.2.2.2.2.1 (-1) 4611686018427387903 = some (r, ()) := ⟨_, rfl⟩
 obtain ⟨r2, w2⟩ : ∃ r, Z4 c.2.2.2.2.2.2.2.2.2.2.2.2.2.2.1 0 1000000 = some (r, ()) := ⟨_, rfl⟩
 obtain ⟨r3, w3⟩ : ∃ r, Z4 c.2.2.2.2.2.2.2.2.2.2.2.2.2.2.2.2.1 0 1000000 = some (r, ()) := ⟨_, rfl⟩
 obtain ⟨r4, w4⟩ : ∃ r, Z4 c.2.2.2.2.2.2.2.2.2.2.2.2.2.2.2.2.2.1 0 255 = some (r, ()) := ⟨_, rfl⟩
 have v1 : Z3 c.2.2.2.2.2.2.2.2.2.2.2.2.2.1 (-1) 4611686018427387903 = some (r1, ()) := w1
 have v2 : Z3 c.2.2.2.2.2.2.2.2.2.2.2.2.2.2.1 0 1000000 = some (r2, ()) := w2
 have v3 : Z3 c.2.2.2.2.2.2.2.2.2.2.2.2.2.2.2.2.1 0 1000000 = some (r3, ()) := w3
 have v4 : Z3 c.2.2.2.2.2.2.2.2.2.2.2.2.2.2.2.2.2.1 0 255 = some (r4, ()) := w4
 have lp : ∀ (N i : Nat), c.2.2.2.2.2.2.2.2.2.2.2.2.2.2.2.1.length - i < N → i ≤ c.2.2.2.2.2.2.2.2.2.2.2.2.2.2.2.1.length → ∃ p, Zch N c.2.2.2.2.2.2.2.2.2.2.2.2.2.2.2.1 c.2.2.2.2.2.2.2.2.2.2.2.2.2.2.1 c.2.2.2.2.2.2.2.2.2.2.2.2.2.2.2.1 (c.2.2.2.2.2.2.2.2.2.2.2.2.2.2.2.1.length : Int) (i : Int) = some (p, ()) ∧
   Vs N c (i : Int) = some (p && (((((r1 && r2) && r3) && r4) && decide (sv ≤ c.2.2.2.2.1.2.1)) && decide (nv ≤ c.2.2.2.2.2.1.2.2.2.1)), ()) := by
  intro N
  induction N with
  | zero => intro i h; omega
  | succ N ih =>
   intro i hN hi
   rw [Zch, Vs]
   by_cases hh : i < c.2.2.2.2.2.2.2.2.2.2.2.2.2.2.2.1.length
   ·have g : ∀ {a : Prop}, a → decide ((i : Int) > 0) = true → 0 ≤ IntKind.i64.wrap ((i : Int) - 1) ∧ IntKind.i64.wrap ((i : Int) - 1) < (c.2.2.2.2.2.2.2.2.2.2.2.2.2.2.2.1.length : Int) := fun _ h => by
     have := of_decide_eq_true h; rw [Zx (by omega) (by omega)]; omega
    obtain ⟨b, f1, f2⟩ := Qze (h.pk.2 _ (Xc (d := Jz) hh))
    rw [Zj (Zk (by omega)), Zj (Zk (by omega)), Zc (by omega), Zc (by omega), show (i : Int).toNat = i from rfl, Zwy, Zqi, f1, f2, Option.bind_some, Option.bind_some, Zc (fun h h2 => g h h2), Zc (fun _ _ => by omega), Zc (fun h h2 => g h h2)]
    simp only
    rw [Zc (fun _ => by omega), Zs hh (by omega)]
    obtain ⟨p, k1, k2⟩ := ih (i + 1) (by omega) (by omega)
    rw [k1, k2]
    generalize (!(_ && _) || _ : Bool) = q
    cases q
    ·cases b
     ·exact ⟨false, rfl, rfl⟩
     ·exact ⟨p, rfl, rfl⟩
    ·exact ⟨false, rfl, rfl⟩
   ·rw [Zh (Zl (by omega)), Zh (Zl (by omega))]
    refine ⟨true, rfl, ?_⟩
    simp only [w1, w2, w3, w4, Option.bind_some, bA, bA2, es, en, Bool.true_and]
    generalize (((r1 && r2) && r3) && r4) = q
    cases q
    ·rfl
    ·simp only [cond_true, Option.bind_some, Bool.true_and]
     by_cases hs : sv ≤ c.2.2.2.2.1.2.1
     ·rw [Zk hs]; rfl
     ·rw [Zl hs]; rfl
 obtain ⟨p, k1, k2⟩ := lp (Jc c 0) 0 (by unfold Jc; omega) (by omega)
 have e2 : Zft c.2.2.2.2.2.2.2.2.2.2.2.2.2.2.2.1 c.2.2.2.2.2.2.2.2.2.2.2.2.2.2.1 c.2.2.2.2.2.2.2.2.2.2.2.2.2.2.2.1 (c.2.2.2.2.2.2.2.2.2.2.2.2.2.2.2.1.length : Int) 0 = Jc c 0 := rfl
 rw [Int.natCast_zero] at k1 k2
 obtain ⟨b1, e1⟩ := Zp2 c.2.1
 obtain ⟨b2, e2'⟩ := Zp2 c.2.2.1
 obtain ⟨b3, e3⟩ := Zn9 h.str hK
 obtain ⟨b4, e4⟩ := Zhy c.2.2.2.2.1
 obtain ⟨b5, e5⟩ := Znb c.2.2.2.2.2.1
 obtain ⟨b6, e6⟩ := Zsm c.2.2.2.2.2.2.1
 obtain ⟨b7, e7⟩ := Zsm c.2.2.2.2.2.2.2.1
 obtain ⟨b8, e8⟩ := Zsl c.2.2.2.2.2.2.2.2.1
 obtain ⟨b9, e9⟩ := Zsl c.2.2.2.2.2.2.2.2.2.1
 unfold Zpk Xy Zp1
 simp only [Qzk, Zyf h.str hK, Qnr, Qns, Qxz, Qxx, Qua h.str hK, Qt9 h.str hK, e1, e2', e3, e4, e5, e6, e7, e8, e9, e2, k1, k2, es, en, v1, v2, v3, v4, Option.bind_some, bO, bO2]
 cases b1
 ·rfl
 cases b2
 ·rfl
 cases b3
 ·rfl
 cases b4
 ·rfl
 cases b5
 ·rfl
 cases b6
 ·rfl
 cases b7
 ·rfl
 cases b8
 ·rfl
 cases b9
 ·rfl
 simp only [Bool.not_true, Bool.or_self, cond_false]
 cases p
 ·cases r1 <;> cases r2 <;> cases r3 <;> cases r4 <;> rfl
 simp only [cond_true, Option.bind_some, Bool.true_and]
 by_cases hs : sv ≤ c.2.2.2.2.1.2.1
 ·rw [Zk hs]
  cases r1 <;> cases r2 <;> cases r3 <;> cases r4 <;> rfl
 ·rw [Zl hs]
  cases r1 <;> cases r2 <;> cases r3 <;> cases r4 <;> rfl
theorem Qqx (c : Qq) : Zpz c = V6 c := rfl
theorem Qx9 (w : Y3) : Zvx w = Znu w := rfl
theorem Qy9 (c : Qq) : T (Yl c) fun r => r.1 = true → 0 ≤ c.2.1 ∧ c.2.1 ≤ c.1 ∧ c.1 ≤ 4611686018427387903 := by
 unfold Yl
 simp only [Zdk, Zqi, Option.bind_some, bA, bA2]
 refine T.pure fun h => ?_
 simp only [Bool.and_eq_true, Zuq, decide_eq_true_eq] at h
 omega
theorem Q0d (w : Y3) : T (Kz w) fun r => r.1 = true → 0 ≤ w.2.2.2.1 ∧ w.2.2.2.1 ≤ w.2.2.1 ∧ w.2.2.1 ≤ 4611686018427387903 := by
 unfold Kz
 have B : ∀ {b : Bool} {n l h : Int} {β : Type} {f : Bool × Unit → Option β} {R : β → Prop}, (∀ r : Bool × Unit, (r.1 = true → l ≤ n ∧ n ≤ h) → T (f r) R) → T (Option.bind (bif b then Z4 n l h else some (false, ())) f) R := fun k => T.bind (T.if (inT _ _ _) (T.pure fun h => by cases h)) k
 exact (inT _ _ _).bind fun t1 h1 => B fun t2 h2 => B fun t3 h3 => B fun t4 h4 => B fun t5 h5 => B fun t6 h6 => T.pure fun h => by
  simp only [Bool.and_eq_true] at h
  have := h3 h.1.1.1.1.2
  have := h4 h.1.1.1.2
  omega
theorem Qqw (c : Qq) : T (V6 c) fun r => 0 ≤ r.1 ∧ r.1 ≤ 4611686018427387903 := by
 unfold V6
 refine (Qy9 c).bind fun t ht => T.ite (fun _ => T.pure (by simp)) fun h => T.pure ?_
 have := ht (by simpa using h)
 simp only
 rw [Zx (by omega) (by omega)]; omega
theorem Qx8 (w : Y3) : T (Znu w) fun r => 0 ≤ r.1 ∧ r.1 ≤ 4611686018427387903 := by
 unfold Znu
 refine (Q0d w).bind fun t ht => T.ite (fun _ => T.pure (by simp)) fun h => T.pure ?_
 have := ht (by simpa using h)
 simp only
 rw [Zx (by omega) (by omega)]; omega
theorem Qqn {K : Nat} {c : Zi} (h : Qo K c) (hK : K ≤ 1000000) : ∃ v, Zhi c = some (v, ()) ∧ Zhb c = some (v, ()) ∧ 0 ≤ v ∧ v ≤ 1000000000000 := by
 obtain ⟨⟨b, u⟩, e, hb⟩ := Qhk h hK
 have lp : b = true → ∀ (N i : Nat) (n : Int), c.2.2.2.1.length - i < N → i ≤ c.2.2.2.1.length → 0 ≤ n → n ≤ i * 1000000 → ∃ v, Wi N n c.2.2.2.1 (c.2.2.2.1.length : Int) (i : Int) = some (v, ()) ∧ Jq N c n (i : Int) = some (v, ()) ∧ 0 ≤ v ∧ v ≤ 1000000000000 := by
  intro hbt N
  have h24 := hb hbt
  induction N with
  | zero => intro i n h; omega
  | succ N ih =>
   intro i n hN hi h0 h1
   rw [Wi, Jq, e, hbt]
   by_cases hh : i < c.2.2.2.1.length
   ·have hs := (h.str.all _ (Xc (d := Q7) hh)).snd
    have hc := Z3v hs.flight hs.e0
    have heK := hs.eK
    have lF := Q9 hs.flight hs.e0 hs.eK (by omega)
    rw [Zk (by omega), cond_true, cond_true, Option.bind_some, Zc (by omega)]
    simp only [Bool.and_self, cond_true]
    rw [Zc (by omega), show (i : Int).toNat = i from rfl, Zaa _ (by omega), Zk0 _ (by omega), Option.bind_some, Option.bind_some, hs.flight.1]
    simp only [if_true]
    rw [Zs hh (by omega), Zx (by omega) (by omega)]
    exact ih (i + 1) _ (by omega) (by omega) (by omega) (by omega)
   ·rw [Zl (by omega)]
    exact ⟨n, rfl, rfl, h0, by omega⟩
 unfold Zhb Zhi
 rw [Qu1 h hK, e]
 cases b
 ·rw [Kn, Jq, e]
  by_cases hh : 0 < c.2.2.2.1.length
  ·rw [Zk (by omega)]; exact ⟨0, rfl, rfl, by omega, by omega⟩
  ·rw [Zl (by omega)]; exact ⟨0, rfl, rfl, by omega, by omega⟩
 ·obtain ⟨v, h1, h2, h3⟩ := lp rfl (Kn c 0 0) 0 0 (by unfold Kn; omega) (by omega) (by omega) (by omega)
  rw [Int.natCast_zero] at h1 h2
  exact ⟨v, h2, h1, h3⟩
theorem Qqv {K : Nat} {c : Zi} (h : Qo K c) (hK : K ≤ 1000000) (u : Unit) (e : Xy c = some (true, u)) : 0 ≤ c.2.2.2.2.2.2.2.2.2.2.2.2.2.2.2.2.2.1 ∧ c.2.2.2.2.2.2.2.2.2.2.2.2.2.2.2.2.2.1 ≤ 255 := by
 have lp : ∀ (N i : Nat), c.2.2.2.2.2.2.2.2.2.2.2.2.2.2.2.1.length - i < N → i ≤ c.2.2.2.2.2.2.2.2.2.2.2.2.2.2.2.1.length → T (Vs N c (i : Int)) fun r => r.1 = true → 0 ≤ c.2.2.2.2.2.2.2.2.2.2.2.2.2.2.2.2.2.1 ∧ c.2.2.2.2.2.2.2.2.2.2.2.2.2.2.2.2.2.1 ≤ 255 := by
  intro N
  induction N with
  | zero => intro i h; omega
  | succ N ih =>
   intro i hN hi
   have hl := h.pk.1
   unfold Vs
   refine T.ite (fun hc => ?_) fun _ => ?_
   ·have hc := of_decide_eq_true hc
    refine T.guard (by omega) ((tIn _ _ _).bind fun t _ => T.guard (fun _ _ => by omega) (T.guard (fun _ h => ?_) (T.guard (fun _ => by omega) (T.bind (Q := fun _ => True) (T.if T.tt (Qnw (h.pk.2 _ (Xc (by omega))))) fun t2 _ => T.if (T.pure fun h => by cases h) ?_))))
    ·have := of_decide_eq_true h
     rw [Zx (by omega) (by omega)]; omega
    ·rw [Zs (m := c.2.2.2.2.2.2.2.2.2.2.2.2.2.2.2.1.length) (by omega) (by omega)]
     exact ih (i + 1) (by omega) (by omega)
   ·exact (tIn _ _ _).bind fun t _ => T.bind (Q := fun _ => True) (T.if (tIn _ _ _) T.tt) fun t _ => T.bind (Q := fun _ => True) (T.if (tIn _ _ _) T.tt) fun t _ => T.bind (T.if (inT _ _ _) (T.pure fun h => by cases h)) fun t ht =>
     T.bind (Q := fun _ => True) (T.if (tt1 (Qdd h.str hK)) T.tt) fun t _ => T.bind (Q := fun _ => True) (T.if (tt1 (Qdc h.str hK)) T.tt) fun t _ => T.pure fun h => ht (by simp only [Bool.and_eq_true] at h; exact h.1.1.2)
 have key : T (Xy c) fun r => r.1 = true → 0 ≤ c.2.2.2.2.2.2.2.2.2.2.2.2.2.2.2.2.2.1 ∧ c.2.2.2.2.2.2.2.2.2.2.2.2.2.2.2.2.2.1 ≤ 255 := by
  unfold Xy
  have B : ∀ {α β : Type} {b : Bool} {m n : Option α} {f : α → Option β} {R : β → Prop}, TT m → TT n → (∀ y, T (f y) R) → T (Option.bind (bif b then m else n) f) R := fun h1 h2 h3 => (T.if h1 h2).bind fun y _ => h3 y
  exact (tt1 (Zp2 _)).bind fun t _ => B T.tt (tt1 (Zp2 _)) fun t => B T.tt (tt1 (Zn9 h.str hK)) fun t => B T.tt (tt1 (Zhy _)) fun t => B T.tt (tt1 (Znb _)) fun t => B T.tt (tt1 (Zsm _)) fun t => B T.tt (tt1 (Zsm _)) fun t => B T.tt (tt1 (Zsl _)) fun t => B T.tt (tt1 (Zsl _)) fun t =>
   T.if (T.pure fun h => by cases h) (lp _ 0 (by unfold Jc; omega) (by omega))
 obtain ⟨y, e1, h1⟩ := key
 rw [e] at e1
 cases e1
 exact h1 rfl
theorem Qxg {K : Nat} {c : Zi} (h : Qo K c) (hK : K ≤ 1000000) : ∃ t, Zls c = some (t, ()) ∧ Zli c = some (t, ()) := by
 have hls := h.str.len
 have hlp := h.pk.1
 obtain ⟨⟨b, u⟩, e, hb⟩ := Qhk h hK
 obtain ⟨⟨v1, u1⟩, e1, f1⟩ := Qqw c.2.2.2.2.1
 obtain ⟨⟨v2, u2⟩, e2, f2⟩ := Qx8 c.2.2.2.2.2.1
 obtain ⟨v3, e3, e3', f3⟩ := Qqn h hK
 unfold Zls Zli Zo2 Ztj
 rw [Qu1 h hK, e, Option.bind_some, Option.bind_some]
 cases b
 ·exact ⟨_, rfl, rfl⟩
 have hc := Qqv h hK u e
 simp only at f1 f2
 have i1 := Yk c.2.2.2.2.2.2.2.2.2.2.2.2.2.2.2.2.2.1 (by omega) (by omega)
 have i2 := Yk (c.2.2.2.1.length : Int) (by omega) (by omega)
 have i3 := Yk v1 (by omega) (by omega)
 have i4 := Yk v2 (by omega) (by omega)
 have i5 := Yk (c.2.2.2.2.2.2.2.2.2.2.2.2.2.2.2.1.length : Int) (by omega) (by omega)
 have i6 := Yk v3 (by omega) (by omega)
 simp only [Bool.not_true, cond_false, Option.bind_some, Qqx, Qx9, e1, e2, e3, e3', Zbu c.2.2.2.2.2.2.2.2.2.2.2.2.2.2.2.2.2.1 (by omega) (by omega), Zde c.2.2.2.2.2.2.2.2.2.2.2.2.2.2.2.2.2.1 (by omega) (by omega), Zbu (c.2.2.2.1.length : Int) (by omega) (by omega), Zde (c.2.2.2.1.length : Int) (by omega) (by omega), Zbu v1 (by omega) (by omega), Zde v1 (by omega) (by omega), Zbu v2 (by omega) (by omega), Zde v2 (by omega) (by omega), Zbu (c.2.2.2.2.2.2.2.2.2.2.2.2.2.2.2.1.length : Int) (by omega) (by omega), Zde (c.2.2.2.2.2.2.2.2.2.2.2.2.2.2.2.1.length : Int) (by omega) (by omega), Zbu v3 (by omega) (by omega), Zde v3 (by omega) (by omega)]
 cases c.2.2.2.2.2.2.2.2.2.2.2.2.2.2.2.2.2.1 != 0
 ·rw [cond_false]
  repeat rw [Zc (by unfold Z5; simp only [List.length_append, List.length_cons, List.length_nil]; omega)]
  exact ⟨_, rfl, rfl⟩
 ·rw [cond_true]
  repeat rw [Zc (by unfold Z5; simp only [List.length_cons, List.length_nil]; omega)]
  exact ⟨_, rfl, rfl⟩
theorem Q2v (c : Zw) (h : Qv c) : T (Kv c) fun r => Qv r.2.1 := by
 obtain ⟨x, c', e, h1, -⟩ := Zri c h; exact ⟨_, e, h1⟩
theorem Qnd (l : List Int) : (Z6 l).length = l.length := by simp [Z6]
theorem Q1b (c : Zw) (hc : Qv c) (m : Nat) (hm : m ≤ 200) : T (Zs6 c (m : Int)) fun r => Qv r.2.1 ∧ r.1.1.length ≤ m := by
 have lp : ∀ (N n : Nat) (c : Zw) (o : List Int) (y : Int), Qv c → n < N → n ≤ 1000 → o.length + n ≤ m → T (Zau N c o y (n : Int)) fun r => Qv r.2.1 ∧ r.1.1.length ≤ m := by
  intro N
  induction N with
  | zero => intro n c o y _ h; omega
  | succ N ih =>
   intro n c o y hc hn hn2 ho
   unfold Zau
   refine T.ite (fun hd => (Q2v c hc).bind fun t ht => ?_) fun _ => T.pure ⟨hc, by rw [Qnd]; omega⟩
   have hd := of_decide_eq_true hd
   have j2 : ∀ c b, Qv c → T (Zj4 (fun v => Zau N v.1 v.2.1 v.2.2.1 v.2.2.2.1) c o y (n : Int) b) fun r => Qv r.2.1 ∧ r.1.1.length ≤ m := fun c b hc => by
    unfold Zj4
    rw [show IntKind.i64.wrap ((n : Int) - 1) = ((n - 1 : Nat) : Int) by rw [Zx (by omega) (by omega)]; omega]
    exact T.guard (by unfold Qp; simp only [List.length_singleton]; omega) (ih (n - 1) c _ y hc (by omega) (by omega) (by simp; omega))
   have j1 : ∀ c b, Qv c → T (Zj3 (fun v => Zau N v.1 v.2.1 v.2.2.1 v.2.2.2.1) c o y (n : Int) b) fun r => Qv r.2.1 ∧ r.1.1.length ≤ m := fun c b hc => by
    unfold Zj3
    exact T.if (T.guard (by omega) (j2 _ _ hc)) (j2 _ _ hc)
   exact T.if (T.guard (by omega) (j1 _ _ ht)) (j1 _ _ ht)
 unfold Zs6
 refine (Zdx c 4 hc).bind fun t ht => (Zdx _ _ ht.1).bind fun t2 h2 => ?_
 have e : IntKind.i64.wrap ((m : Int) + 1) = (m : Int) + 1 := Zx (by omega) (by omega)
 rw [e] at h2
 have h3 := h2.2.2 (by omega)
 obtain ⟨n, hn⟩ := Int.eq_ofNat_of_zero_le h2.2.1
 rw [hn]
 exact lp _ n _ _ _ h2.1 (by unfold Zkz; omega) (by omega) (by simp; omega)
theorem Qzn (c : Zw) (hc : Qv c) (s : List UInt8) (hs : s.length ≤ 1000000) : T (Zq6 c s) fun r => Qv r.2.1 ∧ r.1.1.length ≤ s.length + 3 := by
 unfold Zq6
 refine T.ite (fun _ => (Q1b c hc 3 (by omega)).bind fun t ht => T.pure ⟨ht.1, by simp only; omega⟩) fun hz => ?_
 have hz : 0 < s.length := by
  rw [beq_eq_false_iff_ne] at hz; omega
 refine (Zdx c _ hc).bind fun t1 h1 => (Zdx _ 4 h1.1).bind fun t2 h2 => ?_
 have hk := h1.2.2 (by omega)
 have h0 := h1.2.1
 generalize t1.1.1 = k at hk h0
 obtain ⟨n, rfl⟩ := Int.eq_ofNat_of_zero_le h0
 have e : IntKind.i64.wrap ((n : Int) + 1) = ((n + 1 : Nat) : Int) := by rw [Zx (by omega) (by omega)]; omega
 obtain ⟨y, c3, e3, k3, -⟩ := Zri t2.2.1 h2.1
 obtain ⟨z, c4, e4, k4, -⟩ := Ki t2.2.1 255 h2.1
 rw [e]
 have g1 : (0 : Int) ≤ 0 ∧ 0 ≤ (n : Int) ∧ (n : Int) ≤ (s.length : Int) := by omega
 have g2 : (0 : Int) ≤ ((n + 1 : Nat) : Int) ∧ ((n + 1 : Nat) : Int) ≤ (s.length : Int) ∧ (s.length : Int) ≤ (s.length : Int) := by omega
 have g3 : (0 : Int) ≤ (n : Int) ∧ (n : Int) ≤ (s.length : Int) ∧ (s.length : Int) ≤ (s.length : Int) := by omega
 have g4 : (0 : Int) ≤ (n : Int) ∧ (n : Int) < (s.length : Int) := by omega
 simp only [e3, e4, Option.bind_some, Zc g1, Zc g2, Zc g3, Zc g4, Wh]
 have L1 : ((s.drop (0 : Int).toNat).take ((n : Int).toNat - (0 : Int).toNat)).length ≤ n := by simp only [List.length_take]; omega
 have L2 : ((s.drop ((n + 1 : Nat) : Int).toNat).take ((s.length : Int).toNat - ((n + 1 : Nat) : Int).toNat)).length ≤ s.length - n - 1 := by simp only [List.length_take, List.length_drop]; omega
 have L3 : ((s.drop (n : Int).toNat).take ((s.length : Int).toNat - (n : Int).toNat)).length ≤ s.length - n := by simp only [List.length_take, List.length_drop]; omega
 generalize (s.drop (0 : Int).toNat).take ((n : Int).toNat - (0 : Int).toNat) = A at L1
 generalize (s.drop ((n + 1 : Nat) : Int).toNat).take ((s.length : Int).toNat - ((n + 1 : Nat) : Int).toNat) = B at L2
 generalize (s.drop (n : Int).toNat).take ((s.length : Int).toNat - (n : Int).toNat) = D at L3
 have M : ∀ b : Int, (Z6 [b]).length = 1 := fun b => Qnd _
 have c1 : A.length + B.length ≤ Z5 := by unfold Z5; omega
 have c2 : ∀ b : Int, A.length + (Z6 [b]).length ≤ Z5 := fun b => by rw [M]; unfold Z5; omega
 have c3 : ∀ b : Int, (A ++ Z6 [b]).length + D.length ≤ Z5 := fun b => by rw [List.length_append, M]; unfold Z5; omega
 have c4 : ∀ b : Int, (A ++ Z6 [b]).length + B.length ≤ Z5 := fun b => by rw [List.length_append, M]; unfold Z5; omega
 simp only [Zc c1, Zc (c2 _), Zc (c3 _), Zc (c4 _), Vk]
 refine T.if (T.pure ⟨h2.1, by simp only [List.length_append]; omega⟩) (T.if (T.pure ⟨k3, by simp only [List.length_append, M]; omega⟩) (T.if (T.pure ⟨h2.1, by simp only; omega⟩) (T.pure ⟨k4, by simp only [List.length_append, M]; omega⟩)))
theorem Q2l (c : Zw) (hc : Qv c) : T (Zww c) fun r => Qv r.2.1 ∧ FOK r.1.1 := by
 unfold Zww
 exact (Qhl c hc).bind fun t hf => (Zdx _ _ hf.1).bind fun t1 h1 => T.if ((Ztw _ _ h1.1 (by simp)).bind fun t2 h2 => T.pure ⟨h2.1, by exact hf.2⟩) (T.if ((Ztw _ _ h1.1 (by simp)).bind fun t2 h2 => T.pure ⟨h2.1, by exact hf.2⟩) (T.if ((Ztw _ _ h1.1 (by simp)).bind fun t2 h2 => T.pure ⟨h2.1, by exact hf.2⟩) (T.if ((Ztw _ _ h1.1 (by simp)).bind fun t2 h2 => T.pure ⟨h2.1, by exact hf.2⟩) (T.pure ⟨h1.1, hf.2⟩))))
theorem Qau (code : List Int) (h : code.length ≤ 1048576) : T (Ze4 code) fun r => Qv r.1 := by
 obtain ⟨c, e, k⟩ := Qza code h; exact ⟨_, e, k⟩
theorem Qvx (code : List Int) (h : code.length ≤ 1048576) : T (Zfc code) fun r => r.1.length ≤ 3000 := by
 unfold Zfc
 refine (Qau code h).bind fun t ht => (Qhl _ ht).bind fun f hf => ?_
 have hk := hf.2
 unfold FOK at hk
 obtain ⟨r, e, -, hl⟩ := Z4m f.1.1 (by omega)
 rw [e, Option.bind_some]
 refine (Zdx _ _ hf.1).bind fun t1 h1 => T.if ((Qzn _ h1.1 r (by omega)).bind fun t2 h2 => T.pure (by simp only at h2 ⊢; omega)) (T.if ((Qyu _ _ h1.1 (by simp)).bind fun t2 h2 => T.pure ?_) (T.pure (by simp only; omega)))
 have h3 := h2.2
 have : ∀ x ∈ ([([] : List UInt8), ([115, 116, 114, 101, 97, 109, 32, 52, 32, 48, 32, 120] : List UInt8)] : List (List UInt8)), x.length ≤ 100 := by decide
 simp only [List.mem_cons, List.mem_nil_iff, or_false] at h3
 rcases h3 with e | e | e | e | e | e | e | e | e | e | e <;> (rw [e]; simp)
theorem Qs6 (code : List Int) (h : code.length ≤ 1048576) : T (Zdm code) fun r => FL 10 r.1 := by
 unfold Zdm Ztu
 have lp : ∀ (N n : Nat) (c : Zw) (l : List Zg), Qv c → n < N → n ≤ 10 → FL (10 - n) l → T (Zg0 N c l (n : Int)) fun r => FL 10 r.1.1 := by
  intro N
  induction N with
  | zero => intro n c l _ h; omega
  | succ N ih =>
   intro n c l hc hn hn2 hl
   unfold Zg0
   refine T.ite (fun hd => (Qhl c hc).bind fun f hf => T.guard (by have := hl.1; unfold Qp; simp only [List.length_singleton]; omega) ?_) fun _ => T.pure (hl.mono (by omega))
   have hd := of_decide_eq_true hd
   rw [show IntKind.i64.wrap ((n : Int) - 1) = ((n - 1 : Nat) : Int) by rw [Zx (by omega) (by omega)]; omega]
   exact ih (n - 1) _ _ hf.1 (by omega) (by omega) ((hl.one hf.2).mono (by omega))
 refine (Qau code h).bind fun t ht => T.bind (Q := fun r => FL 10 r.1.1) ((Zdx _ _ ht).bind fun t1 h1 => ?_) fun t hl => T.pure hl
 have h3 := h1.2.2 (by omega)
 obtain ⟨n, hn⟩ := Int.eq_ofNat_of_zero_le h1.2.1
 rw [hn]
 exact lp _ n _ _ h1.1 (by unfold Zix; omega) (by omega) (FL.nil.mono (by omega))
theorem Qn6 (s : List UInt8) : Zjf s = (bif s == ([] : List UInt8) then some (([110, 111, 110, 101] : List UInt8), ()) else some (s, ())) := by
 unfold Zjf Zuc
 cases h : s == ([] : List UInt8) <;> rfl
noncomputable def Qb0 (f : Zg) : List UInt8 := match Xr f with | some (r, _) => r | none => []
def fok (f : Zg) : Prop := f.2.2.2.1.length ≤ 1048576
theorem Z1a (f : Zg) (h : fok f) : Xr f = some (Qb0 f, ()) ∧ J8 f = some (Qb0 f, ()) ∧ (Qb0 f).length ≤ 2000 := by
 obtain ⟨r, h1, h2, h3⟩ := Z4m f h
 have e : Qb0 f = r := by unfold Qb0; rw [h1]
 rw [e]
 exact ⟨h1, h2, h3⟩
def Qm2 (s : List UInt8) : Option (List UInt8 × Unit) := bif s == ([] : List UInt8) then some (([110, 111, 110, 101] : List UInt8), ()) else some (s, ())
theorem Qsp (l : List Zg) (ho : ∀ x ∈ l, fok x) (hl : l.length ≤ 1048576) : Zi5 l = Qm2 (Go.Lib.join (l.map Qb0) [59, 32]) := by
 unfold Zi5
 refine Qlf (d := Qg) (ok := fok) (K := 2000) (fun x hx => (Z1a x hx).2.2) (L := Yc) (fin := Qm2) ?_ ?_ _ l [] 0 ho hl (by omega) (by unfold Zdw; omega) (by simp [Go.Lib.join_nil])
 ·intro N l s i h hl hx hs
  have hs : s.length ≤ 2099249152 := hs
  obtain ⟨f1, _, l1⟩ := Z1a _ hx
  conv => lhs; unfold Yc Zeg
  rw [Zj (Zk (by omega))]
  have e : (i : Int).toNat = i := rfl
  have key : ∀ s' : List UInt8, s'.length ≤ 2099249154 → (Zb (0 ≤ (i : Int) ∧ (i : Int) < l.length) <|
    Option.bind (Xr (l.getD (i : Int).toNat Qg)) fun t20 =>
    Zb (s'.length + t20.1.length ≤ Z5) <|
    Yc N l (s' ++ t20.1) (IntKind.i64.wrap ((i : Int) + (1 : Int)))) = Yc N l (s' ++ Qb0 (l.getD i Qg)) ((i + 1 : Nat) : Int) := by
   intro s' hs'
   rw [e, Zc (by omega), f1]
   simp only [Option.bind_some]
   rw [Zc (by simp only [Z5]; omega), Zs h (by omega)]
  by_cases h0 : 0 < i
  ·rw [Zj (Zk (by omega)), Zc (by simp only [List.length_cons, List.length_nil, Z5]; omega), if_pos h0]
   exact key (s ++ [59, 32]) (by simp only [List.length_append, List.length_cons, List.length_nil]; omega)
  ·rw [Zh (Zl (by omega)), if_neg h0]
   exact key s (by omega)
 ·intro N l s
  unfold Yc
  rw [Zh (Zl (by omega))]
  rfl
theorem Qro (l : List Zg) (ho : ∀ x ∈ l, fok x) (hl : l.length ≤ 1048576) : Zi1 l = Qm2 (Go.Lib.join (l.map Qb0) [59, 32]) := by
 unfold Zi1
 have hj : (Go.Lib.join (l.map Qb0) [59, 32]).length ≤ 2099249152 := by
  refine Nat.le_trans (Qj8 [59, 32] 2000 _ fun x hx => ?_) ?_
  ·obtain ⟨y, hy, rfl⟩ := List.mem_map.1 hx
   exact (Z1a y (ho y hy)).2.2
  ·rw [List.length_map, List.length_cons, List.length_cons, List.length_nil]; omega
 refine Eq.trans (Qc6 (d := Qg) (ok := fok) (txt := Qb0) (L := J9) (fin := fun out => Option.bind (Vy out ([59, 32] : List UInt8)) fun t27 => Option.bind (Zjf t27.1) fun t28 => some (t28.1, ())) ?_ ?_ _ l [] 0 ho hl (by omega) (by unfold Zdv; omega) (by simp)) ?_
 rotate_left 2
 ·show Option.bind (Vy (l.map Qb0) [59, 32]) _ = _
  unfold Vy
  rw [Zc ⟨by rw [List.length_map]; omega, by omega⟩]
  simp only [Option.bind_some, Qn6]
  unfold Qm2
  cases Go.Lib.join (l.map Qb0) [59, 32] == [] <;> rfl
 ·intro N out l i h hl hx hout
  obtain ⟨_, f1, l1⟩ := Z1a _ hx
  conv => lhs; unfold J9
  have e : (i : Int).toNat = i := rfl
  rw [Zj (Zk (by omega)), Zc (by omega), e, f1]
  simp only [Option.bind_some]
  rw [Zc (by simp only [List.length_cons, List.length_nil, Qp]; omega), Zs h (by omega)]
 ·intro N out l
  unfold J9
  rw [Zh (Zl (by omega))]
def Qkf (x : Q2) : List UInt8 := (Go.Lib.itoa x.1 ++ ([58] : List UInt8)) ++ Go.Lib.itoa (x.2.1.length : Int)
def lok (x : Q2) : Prop := (-9223372036854775808 ≤ x.1 ∧ x.1 ≤ 9223372036854775807) ∧ x.2.1.length ≤ 1048576
theorem Qrz (x : Q2) (h : lok x) : (Qkf x).length ≤ 43 := by
 have l1 := Yk x.1 h.1.1 h.1.2
 have l2 := Yk (x.2.1.length : Int) (by omega) (by have := h.2; omega)
 unfold Qkf
 simp only [List.length_append, List.length_cons, List.length_nil]; omega
theorem Qqb (l : List Q2) (ho : ∀ x ∈ l, lok x) (hl : l.length ≤ 1048576) : Zho l = Qm2 (Go.Lib.join (l.map Qkf) [32]) := by
 unfold Zho
 refine Qlf (d := Qm) (ok := lok) (K := 43) Qrz (L := Xw) (fin := Qm2) ?_ ?_ _ l [] 0 ho hl (by omega) (by unfold Zct; omega) (by simp [Go.Lib.join_nil])
 ·intro N l s i h hl hx hs
  have hs : s.length ≤ 46137344 := hs
  have f1 := Zbu (l.getD i Qm).1 hx.1.1 hx.1.2
  have l1 := Yk (l.getD i Qm).1 hx.1.1 hx.1.2
  have f2 := Zbu ((l.getD i Qm).2.1.length : Int) (by omega) (by have := hx.2; omega)
  have l2 := Yk ((l.getD i Qm).2.1.length : Int) (by omega) (by have := hx.2; omega)
  conv => lhs; unfold Xw Zdp
  rw [Zj (Zk (by omega))]
  have e : (i : Int).toNat = i := rfl
  have key : ∀ s' : List UInt8, s'.length ≤ 46137345 → (Zb (0 ≤ (i : Int) ∧ (i : Int) < l.length) <| Zb (0 ≤ (i : Int) ∧ (i : Int) < l.length) <|
    Option.bind (Z7 (l.getD (i : Int).toNat Qm).1) fun t21 =>
    Zb (s'.length + t21.1.length ≤ Z5) <| Zb ((s' ++ t21.1).length + ([58] : List UInt8).length ≤ Z5) <|
    Option.bind (Z7 ((l.getD (i : Int).toNat Qm).2.1.length : Int)) fun t30 =>
    Zb (((s' ++ t21.1) ++ ([58] : List UInt8)).length + t30.1.length ≤ Z5) <|
    Xw N l (((s' ++ t21.1) ++ ([58] : List UInt8)) ++ t30.1) (IntKind.i64.wrap ((i : Int) + (1 : Int)))) = Xw N l (s' ++ Qkf (l.getD i Qm)) ((i + 1 : Nat) : Int) := by
   intro s' hs'
   rw [e, Zc (by omega), Zc (by omega), f1]
   simp only [Option.bind_some]
   rw [Zc (by simp only [Z5]; omega), Zc (by simp only [List.length_append, List.length_cons, List.length_nil, Z5]; omega), f2]
   simp only [Option.bind_some]
   rw [Zc (by simp only [List.length_append, List.length_cons, List.length_nil, Z5]; omega), Zs h (by omega)]
   unfold Qkf
   simp only [List.append_assoc]
  by_cases h0 : 0 < i
  ·rw [Zj (Zk (by omega)), Zc (by simp only [List.length_cons, List.length_nil, Z5]; omega), if_pos h0]
   exact key (s ++ [32]) (by simp only [List.length_append, List.length_cons, List.length_nil]; omega)
  ·rw [Zh (Zl (by omega)), if_neg h0]
   exact key s (by omega)
 ·intro N l s
  unfold Xw
  rw [Zh (Zl (by omega))]
  rfl
theorem Qpn (l : List Q2) (ho : ∀ x ∈ l, lok x) (hl : l.length ≤ 1048576) : Zhe l = Qm2 (Go.Lib.join (l.map Qkf) [32]) := by
 unfold Zhe
 have hj : (Go.Lib.join (l.map Qkf) [32]).length ≤ 46137344 := by
  refine Nat.le_trans (Qj8 [32] 43 _ fun x hx => ?_) ?_
  ·obtain ⟨y, hy, rfl⟩ := List.mem_map.1 hx
   exact Qrz y (ho y hy)
  ·rw [List.length_map, List.length_cons, List.length_nil]; omega
 refine Eq.trans (Qc6 (d := Qm) (ok := lok) (txt := Qkf) (L := Jm) (fin := fun out => Option.bind (Vy out ([32] : List UInt8)) fun t27 => Option.bind (Zjf t27.1) fun t28 => some (t28.1, ())) ?_ ?_ _ l [] 0 ho hl (by omega) (by unfold Zcg; omega) (by simp)) ?_
 rotate_left 2
 ·show Option.bind (Vy (l.map Qkf) [32]) _ = _
  unfold Vy
  rw [Zc ⟨by rw [List.length_map]; omega, by omega⟩]
  simp only [Option.bind_some, Qn6]
  unfold Qm2
  cases Go.Lib.join (l.map Qkf) [32] == [] <;> rfl
 ·intro N out l i h hl hx hout
  have f1 := Zde (l.getD i Qm).1 hx.1.1 hx.1.2
  have l1 := Yk (l.getD i Qm).1 hx.1.1 hx.1.2
  have f2 := Zde ((l.getD i Qm).2.1.length : Int) (by omega) (by have := hx.2; omega)
  have l2 := Yk ((l.getD i Qm).2.1.length : Int) (by omega) (by have := hx.2; omega)
  conv => lhs; unfold Jm
  have e : (i : Int).toNat = i := rfl
  rw [Zj (Zk (by omega)), Zc (by omega), e, f1]
  simp only [Option.bind_some]
  rw [Zc (by simp only [List.length_cons, List.length_nil, Z5]; omega), f2]
  simp only [Option.bind_some]
  rw [Zc (by simp only [List.length_append, List.length_cons, List.length_nil, Z5]; omega), Zc (by simp only [List.length_cons, List.length_nil, Qp]; omega), Zs h (by omega)]
  rfl
 ·intro N out l
  unfold Jm
  rw [Zh (Zl (by omega))]
end Go.Proofs.YtahooemkbchdeaaGreatDoor

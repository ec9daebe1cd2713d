/- FnTraces returns true for all arguments. No condition. -/
import Derived.Test.YtahooemkbchdeaaGreatDoorK1
import Derived.Test.YtahooemkbchdeaaGreatDoorP2
import Derived.KernelRfl
import Derived.Test.YtahooemkbchdeaaGreatDoorCards
import Derived.Test.YtahooemkbchdeaaGreatDoorTie
import Derived.ProofKit
import Derived.LaidMore
import Derived.OpenShut
import Derived.Stop.Joined
import Derived.SevenTiedAt
import Derived.Lib.LaidTab
import Derived.Stop.LaidErr
import Derived.LaidHandle
import Derived.Lay
import Derived.Lib.ItoaLen
namespace Go.Proofs.YtahooemkbchdeaaGreatDoor
open Go.Am Go.ChangeShapes Go.WideShapes Go.ChangeAt Go.RowKit
set_option linter.unusedVariables false
theorem Qqy (code : List Int) (h : code.length ≤ 1048576) : T (Zby code) fun r => r.1.length ≤ 20 ∧ ∀ x ∈ r.1, lok x := by
 unfold Zby Zqe
 have app : ∀ {l : List Q2} {x : Q2}, (∀ x ∈ l, lok x) → lok x → ∀ z ∈ l ++ [x], lok z := fun ho hx z hz => by
  rcases List.mem_append.1 hz with hz | hz
  ·exact ho z hz
  ·rw [List.mem_singleton.1 hz]; exact hx
 have lp : ∀ (N n : Nat) (c : Zw) (l : List Q2), Qv c → n < N → n ≤ 10 → l.length + n ≤ 10 → (∀ x ∈ l, lok x) → T (Zdd N c l (n : Int)) fun r => r.1.1.length ≤ 20 ∧ ∀ x ∈ r.1.1, lok x := by
  intro N
  induction N with
  | zero => intro n c l _ h; omega
  | succ N ih =>
   intro n c l hc hn hn2 hl ho
   unfold Zdd
   refine T.ite (fun hd => (Zdx c _ hc).bind fun t1 h1 => (Qyt _ 3 h1.1 (by omega)).bind fun t2 h2 => T.guard (by unfold Z5; simp only [List.length_singleton]; omega) (T.guard (by unfold Qp; simp only [List.length_singleton]; omega) ?_)) fun _ => (Qex c _ hc).bind fun t1 h1 => T.if ((Ztw _ _ h1 (by simp)).bind fun t2 h2 => T.guard (by unfold Qp; simp only [List.length_singleton]; omega) (T.pure ⟨by simp; omega, app ho ?_⟩)) (T.pure ⟨by simp only; omega, ho⟩)
   ·have hd := of_decide_eq_true hd
    have := h1.2.2 (by omega)
    have h0 := h1.2.1
    rw [show IntKind.i64.wrap ((n : Int) - 1) = ((n - 1 : Nat) : Int) by rw [Zx (by omega) (by omega)]; omega]
    exact ih (n - 1) _ _ h2.1 (by omega) (by omega) (by simp; omega) (app ho ⟨by simp only; omega, by simp only [List.length_append, List.length_singleton]; omega⟩)
   ·have := h2.2
    simp only [List.mem_cons, List.mem_nil_iff, or_false] at this
    refine ⟨?_, by simp⟩
    rcases this with e | e <;> (rw [e]; simp)
 refine (Qau code h).bind fun t ht => T.bind (Q := fun r => r.1.1.length ≤ 20 ∧ ∀ x ∈ r.1.1, lok x) ((Zdx _ _ ht).bind fun t1 h1 => ?_) fun t hl => T.pure hl
 have h3 := h1.2.2 (by omega)
 obtain ⟨n, hn⟩ := Int.eq_ofNat_of_zero_le h1.2.1
 rw [hn]
 exact lp _ n _ _ h1.1 (by unfold Zgy; omega) (by omega) (by simp; omega) (by simp)
theorem Qzt (code : List Int) : Zox code = some (true, ()) := by
 have hbig : Qke code = some (decide ((code.length : Int) > 1048576), ()) := rfl
 unfold Zox
 rw [hbig, Option.bind_some]
 by_cases hc : (code.length : Int) > 1048576
 ·rw [Zk hc]; rfl
 rw [Zl hc, cond_false]
 have hc : code.length ≤ 1048576 := by omega
 obtain ⟨⟨f, u1⟩, e1, k1⟩ : T (Zee code) fun r => FOK r.1 := by
  unfold Zee
  exact (Qau code hc).bind fun t ht => (Q2l _ ht).bind fun f hf => T.pure hf.2
 obtain ⟨⟨p, u2⟩, e2, k2⟩ := Qvx code hc
 obtain ⟨⟨fs, u3⟩, e3, k3⟩ := Qs6 code hc
 obtain ⟨⟨⟨s, u4⟩, u5⟩, e4, k4⟩ : T (Zdn code) fun r => Ka 100 r.1.1 := by
  unfold Zdn
  refine (Qau code hc).bind fun t ht => ?_
  obtain ⟨y, c', e, -, h⟩ := Q1a _ ht
  rw [e, Option.bind_some]
  exact T.pure h
 obtain ⟨⟨⟨c, u6⟩, u7⟩, e5, k5⟩ : T (Zfb code) fun r => Qo 30000 r.1.1 := by
  unfold Zfb
  exact (Qau code hc).bind fun t ht => (Q1c _ ht).bind fun f hf => T.pure hf.2
 obtain ⟨⟨ls, u8⟩, e6, k6⟩ := Qqy code hc
 simp only at k1 k2 k3 k4 k5 k6
 have hf : f.2.2.2.1.length ≤ 1048576 := by unfold FOK at k1; omega
 have f1 := Qby f hf
 have f2 := Qnh f hf
 have p1 := Qvh (Zpx f) (by omega)
 have p2 := Qu0 (Zpx f) (by omega)
 rw [Qk0] at p2
 obtain ⟨r, q1, q2⟩ := Qt1 p (by omega)
 have fr1 := Qsp fs (fun x hx => by have := k3.2 x hx; unfold FOK at this; unfold fok; omega) (by have := k3.1; omega)
 have fr2 := Qro fs (fun x hx => by have := k3.2 x hx; unfold FOK at this; unfold fok; omega) (by have := k3.1; omega)
 have lf : ∀ t, ∃ y, Qm2 t = some (y, ()) := fun t => by unfold Qm2; cases t == [] <;> exact ⟨_, rfl⟩
 obtain ⟨y1, g1⟩ := lf (Go.Lib.join (fs.map Qb0) [59, 32])
 rw [g1] at fr1 fr2
 obtain ⟨t1, s1, s2⟩ := Quf k4 (by omega)
 obtain ⟨t2, s3, s4⟩ := Qxg k5 (by omega)
 have le1 := Qqb ls k6.2 (by omega)
 have le2 := Qpn ls k6.2 (by omega)
 obtain ⟨y2, g2⟩ := lf (Go.Lib.join (ls.map Qkf) [32])
 rw [g2] at le1 le2
 have ev : ∀ x : Zg, eqV Zr x x = true := fun x => by simp [eqV]
 have main : ((chk (Zpx f) (frS (Qr 32 (Zpx f)))).2.1 == (!(Zpx f == ([] : List UInt8)))) = true ∧ ((!(chk (Zpx f) (frS (Qr 32 (Zpx f)))).2.1) || (eqV (Zr) (chk (Zpx f) (frS (Qr 32 (Zpx f)))).1 f)) = true := by
  by_cases hz : Zpx f = []
  ·rw [hz]
   have : chk [] (frS (Qr 32 [])) = (zF, false, ()) := by unfold chk; rw [if_neg (by simp)]
   rw [this]; exact ⟨rfl, rfl⟩
  ·obtain ⟨a1, a2, a3⟩ := Qpd hz
   obtain ⟨b1, -, -⟩ := Z5v a1 a2
   have : chk (Zpx f) (frS (Qr 32 (Zpx f))) = (f, true, ()) := by
    unfold chk
    rw [if_pos ⟨hz, by rw [a3, b1, ← a3]⟩, a3, b1]
   rw [this]
   refine ⟨by simp [hz], ?_⟩
   simp [ev f]
 simp only [e1, e2, e3, e4, e5, e6, f1, f2.1, p2, q1, q2, Option.bind_some, beq_self_eq_true, cond_true, Bool.true_and, main.1, main.2, ev, fr1, fr2, s1, s2, s3, s4, le1, le2, Bool.and_self]
theorem Qx6 : ∀ xs : Y6 Zpw.args, wfA Zpw.args xs → Zox xs.1 = some (true, ()) := fun xs _ => Qzt xs.1
theorem Qph : ownKnob Tryz.prog.godebug = none := by kernel_rfl
theorem Qm0 (os : Os) (args : Array Value) : laidMetH Tryz.prog Rows.fnTracesRow.laid ((World.laidAll Tryz.prog os Rows.fnTracesRow.laid).forCall (fun _ _ => 0) ⟨#[], args, []⟩).memory := by
 rw [MakeChecks.laidMetH_plain _ _ _ (by kernel_rfl)]; exact laidMet_laidAll _ (by kernel_rfl) (by kernel_rfl)
theorem Qpi {W : World} (h : laidMetH Tryz.prog Rows.fnTracesRow.laid W) (hs : W.ShapedOpen Tryz.prog) : glob.G W := by
 rw [MakeChecks.laidMetH_plain _ _ _ (by kernel_rfl)] at h
 have t0 : Go.Lib.TabIs Tryz.prog W "internal/strconv.uint64pow10" .u64 Go.Lib.pow10Tab :=
  Go.Lib.tabIs_of_head (g := 3) (t := 276) (e := 226) (n := 20) (rest := Rows.fnTracesRow.laid.drop 3) (by kernel_rfl) (by kernel_rfl) (by kernel_rfl) (by kernel_rfl) (by kernel_rfl) (by kernel_rfl) (show laidMet Tryz.prog (("internal/strconv.uint64pow10", Go.Lib.tabData .u64 Go.Lib.pow10Tab) :: Rows.fnTracesRow.laid.drop 3) W from h.tail.tail)
 obtain ⟨m1, t1⟩ := cell_of_shapedOpen_int (P := Tryz.prog) (g := 0) (t := 3) (zero := #[.int .i64 0]) hs (of_decide_eq_true (by kernel_rfl)) (by kernel_rfl) rfl (by kernel_rfl) (by kernel_rfl) Tryz.underlying3
 have star : "*" ++ "errors.errorString" = "*errors.errorString" := by decide
 obtain ⟨_, _, t2, _⟩ := laid_sentinel (g := 1) (ti := 117) (tp := 288) (te := 290) (ts := 9) (nm := "*errors.errorString") (r := Rows.fnTracesRow.laid.drop 6) (show laidMet Tryz.prog (("strconv.ErrSyntax", Rows.laid_strconv_ErrSyntax) :: Rows.fnTracesRow.laid.drop 6) W from h.tail.tail.tail.tail.tail) (by kernel_rfl) (by kernel_rfl) Tryz.underlying117
  (fun u hu => typeName_ptr_named (nm := "errors.errorString") (by rw [star]; kernel_rfl) (by kernel_rfl) (by decide) u (by rw [star]; exact hu)) Tryz.underlying288 Tryz.underlying290 rfl rfl Tryz.underlying9 (by kernel_rfl) (by kernel_rfl)
 intro p hp
 simp only [List.mem_cons, List.not_mem_nil, or_false] at hp
 rcases hp with rfl | rfl | rfl
 ·exact ⟨_, t0, rfl⟩
 ·exact var?_of_cell (by kernel_rfl) t1
 ·exact ⟨_, t2, _, _, rfl⟩
end Go.Proofs.YtahooemkbchdeaaGreatDoor

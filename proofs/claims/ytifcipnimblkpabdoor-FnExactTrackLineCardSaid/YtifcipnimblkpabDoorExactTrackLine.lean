/- FnExactTrackLine returns true for all arguments. No condition. -/
import Derived.Test.YtifcipnimblkpabDoorModExactTrackLine
import Derived.KernelRfl
import Derived.Test.YtifcipnimblkpabDoorCards
import Derived.Test.YtifcipnimblkpabDoorTie
import Derived.ProofKit
import Derived.LaidMore
import Derived.OpenShut
import Derived.Stop.Joined
import Derived.SevenTiedAt
import Derived.Lib.LaidTab
import Derived.Stop.LaidErr
import Derived.LaidHandle
import Derived.Lib.ItoaLen
namespace Go.Proofs.YtifcipnimblkpabDoor
open Go.Am Go.ChangeShapes Go.WideShapes Go.ChangeAt Go.RowKit
set_option linter.unusedVariables false
/-! numbers as texts -/
theorem u8_ok (n : Int) (h0 : 0 ≤ n) (h1 : n < 256) : IntKind.u8.wrap n = n := by
  have : n % 2 ^ 8 = n := Int.emod_eq_of_lt h0 (by omega)
  simp only [IntKind.wrap, IntKind.bits, IntKind.signed, this]
  simp
def digs (u : Nat) : List UInt8 := if u = 0 then [] else Go.Lib.decDigits u
theorem digs_step {u : Nat} (h : u ≠ 0) : digs u = digs (u / 10) ++ [UInt8.ofNat (48 + u % 10)] := by
  unfold digs
  rw [if_neg h, Go.Lib.decDigits]
  by_cases h10 : u < 10
  · rw [dif_pos h10, if_pos (by omega), List.nil_append, Nat.mod_eq_of_lt h10]
  · rw [dif_neg h10, if_neg (by omega)]
theorem fmt_j1 {K1 : (Int × List UInt8 × Bool × Unit) → Option (List UInt8 × Unit)} {n : Int} {out : List UInt8} {neg : Bool} {d : Nat} (hd : d < 10) (hl : 1 + out.length ≤ capS) :
    spec_FormatInt_j1 K1 n out neg (d : Int) = K1 (IntKind.i64.wrap (Int.tdiv n 10), UInt8.ofNat (48 + d) :: out, neg, ()) := by
  unfold spec_FormatInt_j1
  have h1 : bytesOf [IntKind.u8.wrap (IntKind.i64.wrap ((48 : Int) + (d : Int)))] = [UInt8.ofNat (48 + d)] := by
    rw [i64_ok (by omega) (by omega), u8_ok _ (by omega) (by omega)]
    simp only [bytesOf, List.map_cons, List.map_nil]
    congr 2
  simp only [h1]
  rw [guardP_pos (by simpa using hl), guardP_pos (by decide)]
  rfl
theorem fmt_loop : ∀ (k u N : Nat) (n : Int) (out : List UInt8) (neg : Bool), u < 10 ^ k → k < N → u ≤ 9223372036854775808 → (n = (u : Int) ∨ n = -(u : Int)) → out.length + k ≤ 1000 → (n = 9223372036854775808 → False) →
    spec_FormatInt_l1 N n out neg = some ((bif neg then 45 :: (digs u ++ out) else digs u ++ out), ())
  | k, u, 0, n, out, neg, h1, h2, _, _, _, _ => by omega
  | k, u, N + 1, n, out, neg, h1, h2, h3, h4, h5, h6 => by
    unfold spec_FormatInt_l1
    by_cases hu : u = 0
    · have hn : n = 0 := by omega
      rw [bif_false (by simp [hn])]
      rw [guardP_pos (by simp only [capS, List.length_cons, List.length_nil]; omega)]
      have : digs u = [] := by rw [hu]; rfl
      rw [this]
      cases neg <;> rfl
    · have hn : n ≠ 0 := by omega
      rw [bif_true (by simp [hn]), guardP_pos (by decide)]
      cases k with
      | zero => simp at h1; omega
      | succ k =>
        have hd : u / 10 < 10 ^ k := by
          rw [Nat.pow_succ] at h1
          omega
        have hm : u % 10 < 10 := Nat.mod_lt _ (by decide)
        have hq : IntKind.i64.wrap (Int.tdiv n 10) = ((u / 10 : Nat) : Int) ∨ IntKind.i64.wrap (Int.tdiv n 10) = -((u / 10 : Nat) : Int) := by
          rcases h4 with rfl | rfl
          · left; rw [Int.tdiv_eq_ediv_of_nonneg (by omega), i64_ok (by omega) (by omega)]; omega
          · right; rw [Int.neg_tdiv, Int.tdiv_eq_ediv_of_nonneg (by omega), i64_ok (by omega) (by omega)]; omega
        have go : spec_FormatInt_j1 (fun v => spec_FormatInt_l1 N v.1 v.2.1 v.2.2.1) n out neg ((u % 10 : Nat) : Int) = some ((bif neg then 45 :: (digs u ++ out) else digs u ++ out), ()) := by
          rw [fmt_j1 hm (by simp only [capS]; omega)]
          show spec_FormatInt_l1 N (IntKind.i64.wrap (Int.tdiv n 10)) (UInt8.ofNat (48 + u % 10) :: out) neg = _
          rw [fmt_loop k (u / 10) N _ _ neg hd (by omega) (by omega) hq (by simp only [List.length_cons]; omega) (by intro h; rcases hq with hq | hq <;> omega)]
          rw [digs_step hu, List.append_assoc]
          rfl
        rcases h4 with rfl | rfl
        · have e : Int.tmod (u : Int) 10 = ((u % 10 : Nat) : Int) := by rw [Int.tmod_eq_emod_of_nonneg (by omega)]; omega
          rw [e, bif_false (dec_false (by omega))]
          exact go
        · have e : Int.tmod (-(u : Int)) 10 = -((u % 10 : Nat) : Int) := by rw [Int.neg_tmod, Int.tmod_eq_emod_of_nonneg (by omega)]; omega
          rw [e]
          by_cases hz : u % 10 = 0
          · rw [bif_false (dec_false (by omega))]
            have : -((u % 10 : Nat) : Int) = ((u % 10 : Nat) : Int) := by omega
            rw [this]; exact go
          · rw [bif_true (dec_true (by omega)), i64_ok (by omega) (by omega)]
            have : 0 - -((u % 10 : Nat) : Int) = ((u % 10 : Nat) : Int) := by omega
            rw [this]; exact go
theorem fmtInt (n : Int) (h0 : -9223372036854775808 ≤ n) (h1 : n ≤ 9223372036854775807) : spec_FormatInt n = some (Go.Lib.itoa n, ()) := by
  unfold spec_FormatInt
  by_cases hz : n = 0
  · rw [bif_true (by simp [hz]), hz]
    unfold Go.Lib.itoa
    rw [if_neg (by omega), Go.Lib.decDigits, dif_pos (by decide)]
    rfl
  · rw [bif_false (by simp [hz])]
    have hp : n.natAbs < 10 ^ 20 := by
      have : (9223372036854775809 : Nat) ≤ 10 ^ 20 := by decide
      omega
    rw [fmt_loop 20 n.natAbs _ n [] _ hp (by unfold spec_FormatInt_l1_fuel; omega) (by omega) (by omega) (by simp) (by omega)]
    unfold Go.Lib.itoa digs
    rw [if_neg (by omega), List.append_nil]
    by_cases hn : n < 0
    · rw [dec_true hn, if_pos hn]; rfl
    · rw [dec_false hn, if_neg hn]
      have : n.natAbs = n.toNat := by omega
      rw [this]; rfl
theorem itoa_len (n : Int) (h0 : -9223372036854775808 ≤ n) (h1 : n ≤ 9223372036854775807) : (Go.Lib.itoa n).length ≤ 21 := Go.Lib.itoa_length_le n h0 h1
theorem implInt (n : Int) (h0 : -9223372036854775808 ≤ n) (h1 : n ≤ 9223372036854775807) : impl_FormatInt n = some (Go.Lib.itoa n, ()) := by
  unfold impl_FormatInt strconv_Itoa
  rw [guardP_pos ⟨h0, h1⟩]
  rfl
theorem sz_laws_szTrack (a : TTrack) (hw : wf (tyTrack) a) : SzOK (fun left => laws_szTrack a left) (small 1048576 (tyTrack) a) := by
  exact SzOK.imp (SzOK.len a.2.2.1 hw.2.2.1 (SzOK.len a.2.2.2.1 hw.2.2.2.1 SzOK.last)) (fun h => ⟨trivial, ⟨trivial, ⟨h.1, ⟨h.2.1, ⟨trivial, ⟨trivial, ⟨trivial, trivial⟩⟩⟩⟩⟩⟩⟩)

theorem to_laws_toTrack (a : TTrack) (h : small 1048576 (tyTrack) a) : laws_toTrack a = some (a, ()) := by
  rfl

theorem trackLine (t : TTrack) (h2 : t.2.2.1.length ≤ 1048576) (h3 : t.2.2.2.1.length ≤ 1048576) : ∃ r, spec_TrackLine t = some (r, ()) ∧ impl_TrackLine t = some (r, ()) := by
  obtain ⟨id, server, wrote, got, done, ended, broken, u⟩ := t
  simp only at h2 h3
  unfold spec_TrackLine impl_TrackLine spec_l32Small spec_l1In impl_within
  simp only [Option.bind_some]
  have hb : (decide (id ≥ (0 : Int)) && decide (id ≤ 999999999)) = (decide ((0 : Int) ≤ id) && decide (id ≤ 999999999)) := rfl
  rw [hb]
  by_cases hid : 0 ≤ id ∧ id ≤ 999999999
  · have e : (decide ((0 : Int) ≤ id) && decide (id ≤ 999999999)) = true := by simp [hid.1, hid.2]
    rw [e]
    have f1 := fmtInt id (by omega) (by omega)
    have f2 := fmtInt (wrote.length : Int) (by omega) (by omega)
    have f3 := fmtInt (got.length : Int) (by omega) (by omega)
    have g1 := implInt id (by omega) (by omega)
    have g2 := implInt (wrote.length : Int) (by omega) (by omega)
    have g3 := implInt (got.length : Int) (by omega) (by omega)
    have l1 := itoa_len id (by omega) (by omega)
    have l2 := itoa_len (wrote.length : Int) (by omega) (by omega)
    have l3 := itoa_len (got.length : Int) (by omega) (by omega)
    generalize Go.Lib.itoa id = a at *
    generalize Go.Lib.itoa (wrote.length : Int) = b at *
    generalize Go.Lib.itoa (got.length : Int) = c at *
    unfold spec_TrackLine_j1 impl_told
    simp only [f1, f2, f3, g1, g2, g3, Option.bind_some, Bool.not_true, cond_false]
    cases server <;> cases broken <;> cases ended <;>
      (simp only [cond_false, cond_true, Option.bind_some]
       repeat rw [guardP_pos (by simp only [List.length_append, List.length_cons, List.length_nil, capS]; omega)]
       refine ⟨_, rfl, ?_⟩
       repeat rw [guardP_pos (by simp only [List.length_append, List.length_cons, List.length_nil, capS]; omega)]
       simp only [List.append_assoc, List.cons_append, List.nil_append])
  · have e : (decide ((0 : Int) ≤ id) && decide (id ≤ 999999999)) = false := by
      rw [Bool.and_eq_false_iff, decide_eq_false_iff_not, decide_eq_false_iff_not]; omega
    rw [e]
    exact ⟨[], rfl, rfl⟩
theorem law_true : ∀ xs : dens [tyTrack], wfA [tyTrack] xs → laws_FnExactTrackLine xs.1 = some (true, ()) := by
  intro ⟨t, _⟩ ⟨hw, _⟩
  obtain ⟨r, hr, _, hs⟩ := sz_laws_szTrack t hw 1048576 (by omega) (by omega)
  unfold laws_FnExactTrackLine
  simp only [hr, Option.bind_some]
  by_cases h0 : r < 0
  · rw [bif_true (dec_true h0)]
  · rw [bif_false (dec_false h0)]
    have hs := hs (by omega)
    have e : laws_toTrack t = some (t, ()) := rfl
    obtain ⟨q, h1, h2⟩ := trackLine t hs.2.2.1 hs.2.2.2.1
    simp only [e, Option.bind_some, h1, h2]
    rw [bif_false (by simp)]

theorem fnExactTrackLine_own : ownKnob Tryd.prog.godebug = none := by kernel_rfl
theorem fnExactTrackLine_door (os : Os) (args : Array Value) : laidMetH Tryd.prog Rows.fnExactTrackLineRow.laid ((World.doorLaid Tryd.prog 400 os).forCall (fun _ _ => 0) ⟨#[], args, []⟩).memory :=
  laidMetH_of_parts3 (fuel := 8) (laidMet_of_run' 8 (by kernel_rfl) (by kernel_rfl)) (by kernel_rfl) (by kernel_rfl)
theorem fnExactTrackLine_tab {W : World} (h : laidMetH Tryd.prog Rows.fnExactTrackLineRow.laid W) : glob.G W := by
  rw [MakeChecks.laidMetH_plain _ _ _ (by kernel_rfl)] at h
  have ht : Go.Lib.TabIs Tryd.prog W "internal/strconv.uint64pow10" .u64 Go.Lib.pow10Tab :=
    Go.Lib.tabIs_of_head (g := 2) (t := 115) (e := 108) (n := 20) (by kernel_rfl) (by kernel_rfl) (by kernel_rfl) (by kernel_rfl) (by kernel_rfl) (by kernel_rfl) (show laidMet Tryd.prog [("internal/strconv.uint64pow10", Go.Lib.tabData .u64 Go.Lib.pow10Tab)] W from h.tail.tail)
  intro p hp
  simp only [List.mem_singleton] at hp
  subst hp
  exact ht
set_option maxRecDepth 100000 in
theorem fnExactTrackLine_lifted (os : Os) (started : os.Started) (H : Type) (enc : TypeId × Value → H) :
    ReturnsInHanded {} Tryd.checked os 3 .any (fun w args => (Rows.fnExactTrackLineSpec.pre enc Tryd.prog Tryd.f3 [] false w args ∧ laidMetH Tryd.prog Rows.fnExactTrackLineRow.laid w) ∧ sizedMet enc Tryd.prog Tryd.f3 (OpenSpec.ofChange Rows.fnExactTrackLineSpec) false w args)
      (Rows.fnExactTrackLineSpec.post enc Tryd.prog Tryd.f3 false true false false) := by
  refine returnsInHanded_of_change_and (C := Tryd.checked) (X := fun w _ => laidMetH Tryd.prog Rows.fnExactTrackLineRow.laid w) (fun _ _ _ hh h => h.of_heap hh) fnExactTrackLine_own started (by kernel_rfl) Tryd.func3
    (ChangeSpec.witness_shaped (enc := enc) (C := Tryd.checked) (os := os) (X := fun w _ => laidMetH Tryd.prog Rows.fnExactTrackLineRow.laid w) false (World.doorLaid Tryd.prog 400 os) #[.agg #[.int .i64 0, .bool false, .string .empty, .string .empty, .bool false, .bool false, .bool false]] 8 rfl (World.shaped_of_RefB (by kernel_rfl) (by kernel_rfl)) (by kernel_rfl) (by kernel_rfl) (by kernel_rfl) (fnExactTrackLine_door os _)) ?_
  intro W base args ds gs before hval hW _ _ hL _
  exact law_contract ok_laws_FnExactTrackLine law_true rfl (fun H ds h => by
    match ds, h with
    | [d0], _ => rfl) (by kernel_rfl) (by kernel_rfl) rfl Tryd.underlying4 W base args ds gs before hval (fnExactTrackLine_tab hL) hW
theorem fnExactTrackLine_said : Rows.FnExactTrackLineSaid :=
  OpenClaim.holds_of_wide 3 Tryd.f3 rfl rfl rfl rfl rfl rfl rfl ⟨rfl, rfl, rfl, rfl, rfl⟩ rfl rfl rfl rfl rfl (by kernel_rfl) Tryd.func3 (by kernel_rfl)
    (of_decide_eq_true (by kernel_rfl)) (by unfold Func.isWrapper; first | (rw [if_pos (by decide +kernel)]; kernel_rfl) | (rw [if_neg (by decide +kernel)]; exact ⟨rfl, rfl⟩))
    (fun os started H enc _ => fnExactTrackLine_lifted os started H enc)
/-- The law returns true for all arguments; the tables that the program text lays are tied. -/
theorem fnExactTrackLine_proved : Rows.FnExactTrackLineCardSaid :=
  Claim7.holds_tied_plain_at .later [] Rows.fnExactTrackLineCard.laidKinds true Rows.fnExactTrackLineCard.stood.harness false
    fnExactTrackLine_said (fun _ h => by cases h) (by kernel_rfl) (fun _ h => by cases h) fnExactTrackLine_row_tie rfl ⟨rfl, rfl⟩ (by kernel_rfl) rfl
    (fun f fn hf hfn => by
      obtain rfl : f = 3 := Option.some.inj ((show Tryd.prog.funcNamed Rows.fnExactTrackLineRow.func = some 3 by kernel_rfl).symm.trans hf) |>.symm
      obtain rfl : fn = Tryd.f3 := (Option.some.inj (Tryd.func3.symm.trans hfn)).symm
      exact ⟨by kernel_rfl, fun j t ht => by
        rw [Tryd.params3] at ht
        have hm : t ∈ [23] := by simpa using Array.mem_of_getElem? ht
        have hall : ([23].all fun u => !Tryd.prog.wantsStandIn u) = true := by kernel_rfl
        exact (show Tryd.prog.wantsStandIn t = false by simpa using List.all_eq_true.1 hall t hm)⟩)
    (by kernel_rfl)
#print axioms fnExactTrackLine_proved
end Go.Proofs.YtifcipnimblkpabDoor

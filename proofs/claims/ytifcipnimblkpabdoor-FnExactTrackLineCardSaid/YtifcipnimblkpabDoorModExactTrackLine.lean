/- FnExactTrackLine: what the functions that it reaches compute, as plain functions, and that they do so. No condition. -/
import Derived.Test.YtifcipnimblkpabDoorRows
import Derived.Test.YtifcipnimblkpabDoorAm4
import Derived.Test.YtifcipnimblkpabDoorShelf
import Derived.Lib.AppendIntMem
namespace Go.Proofs.YtifcipnimblkpabDoor
open Go.Am
set_option maxRecDepth 100000
set_option linter.unusedVariables false

@[reducible] def tyTrack : Ty := .pair (.int .i64) (.pair (.bool) (.pair (.str) (.pair (.str) (.pair (.bool) (.pair (.bool) (.pair (.bool) (.unit)))))))
@[reducible] def TTrack : Type := Int × Bool × List UInt8 × List UInt8 × Bool × Bool × Bool × Unit
def zTrack : TTrack := ((0 : Int), (false, (([] : List UInt8), (([] : List UInt8), (false, (false, (false, ())))))))
noncomputable def laws_szTrack (a0 : TTrack) (left1 : Int) : Option (Int × Unit) :=
  let t9 : Int := IntKind.i64.wrap (left1 - (a0.2.2.1.length : Int))
  bif decide (t9 < (0 : Int)) then
    some ((-1 : Int), ())
  else
    let t16 : Int := IntKind.i64.wrap (t9 - (a0.2.2.2.1.length : Int))
    bif decide (t16 < (0 : Int)) then
      some ((-1 : Int), ())
    else
      some (t16, ())
noncomputable def laws_toTrack (a0 : TTrack) : Option (TTrack × Unit) :=
  some ((a0.1, (a0.2.1, (a0.2.2.1, (a0.2.2.2.1, (a0.2.2.2.2.1, (a0.2.2.2.2.2.1, (a0.2.2.2.2.2.2.1, ()))))))), ())
noncomputable def spec_l1In (x0 : Int) (low1 : Int) (high2 : Int) : Option (Bool × Unit) :=
  some ((decide (x0 ≥ low1)) && (decide (x0 ≤ high2)), ())
noncomputable def spec_l32Small (n0 : Int) : Option (Bool × Unit) :=
  Option.bind (spec_l1In n0 (0 : Int) (999999999 : Int)) fun t4 =>
  some (t4.1, ())
@[reducible] def spec_FormatInt_j1_p : List PE := [.val 0 (.int .i64) (.u false), .val 3 (.str) (.u false), .val 4 (.bool) (.u false), .val 5 (.int .i64) (.u false)]
noncomputable def spec_FormatInt_j1 (K1 : (Int × List UInt8 × Bool × Unit) → Option (List UInt8 × Unit)) (n0_2 : Int) (out3_2 : List UInt8) (neg4_1 : Bool) (d5 : Int) : Option (List UInt8 × Unit) :=
  let t22 : List UInt8 := bytesOf ([(IntKind.u8.wrap (IntKind.i64.wrap ((48 : Int) + d5)))])
  guardP (t22.length + out3_2.length ≤ capS) <|
  guardP ((10 : Int) ≠ 0) <|
  K1 (IntKind.i64.wrap (Int.tdiv n0_2 (10 : Int)), t22 ++ out3_2, neg4_1, ())
@[reducible] def spec_FormatInt_l1_p : List PE := [.val 0 (.int .i64) (.u false), .val 3 (.str) (.u false), .val 4 (.bool) (.u false)]
def spec_FormatInt_l1_fuel (n0_1 : Int) (out3_1 : List UInt8) (neg4 : Bool) : Nat := 1048577
noncomputable def spec_FormatInt_l1 : Nat → Int → List UInt8 → Bool → Option (List UInt8 × Unit)
  | 0, _, _, _ => none
  | N + 1, n0_1, out3_1, neg4 =>
    bif n0_1 != (0 : Int) then
      guardP ((10 : Int) ≠ 0) <|
      bif decide ((Int.tmod n0_1 (10 : Int)) < (0 : Int)) then
        spec_FormatInt_j1 (fun v => spec_FormatInt_l1 N v.1 v.2.1 v.2.2.1) n0_1 out3_1 neg4 (IntKind.i64.wrap (0 - (Int.tmod n0_1 (10 : Int))))
      else
        spec_FormatInt_j1 (fun v => spec_FormatInt_l1 N v.1 v.2.1 v.2.2.1) n0_1 out3_1 neg4 (Int.tmod n0_1 (10 : Int))
    else
      bif neg4 then
        guardP (([45] : List UInt8).length + out3_1.length ≤ capS) <|
        some (([45] : List UInt8) ++ out3_1, ())
      else
        some (out3_1, ())
noncomputable def spec_FormatInt (n0 : Int) : Option (List UInt8 × Unit) :=
  bif n0 == (0 : Int) then
    some (([48] : List UInt8), ())
  else
    spec_FormatInt_l1 (spec_FormatInt_l1_fuel n0 ([] : List UInt8) (decide (n0 < (0 : Int)))) n0 ([] : List UInt8) (decide (n0 < (0 : Int)))
@[reducible] def spec_TrackLine_j1_p : List PE := [.box 1 26 (tyTrack) (.u false), .val 3 (.str) (.u false)]
noncomputable def spec_TrackLine_j1 (t1 : TTrack) (s3 : List UInt8) : Option (List UInt8 × Unit) :=
  guardP (s3.length + ([32, 119, 114, 111, 116, 101, 32] : List UInt8).length ≤ capS) <|
  let t19 : List UInt8 := s3 ++ ([32, 119, 114, 111, 116, 101, 32] : List UInt8)
  Option.bind (spec_FormatInt (t1.2.2.1.length : Int)) fun t23 =>
  guardP (t19.length + t23.1.length ≤ capS) <|
  guardP ((t19 ++ t23.1).length + ([32, 103, 111, 116, 32] : List UInt8).length ≤ capS) <|
  let t25 : List UInt8 := (t19 ++ t23.1) ++ ([32, 103, 111, 116, 32] : List UInt8)
  Option.bind (spec_FormatInt (t1.2.2.2.1.length : Int)) fun t29 =>
  guardP (t25.length + t29.1.length ≤ capS) <|
  bif t1.2.2.2.2.2.2.1 then
    guardP ((t25 ++ t29.1).length + ([32, 98, 114, 111, 107, 101, 110] : List UInt8).length ≤ capS) <|
    some ((t25 ++ t29.1) ++ ([32, 98, 114, 111, 107, 101, 110] : List UInt8), ())
  else
    bif t1.2.2.2.2.2.1 then
      guardP ((t25 ++ t29.1).length + ([32, 101, 110, 100, 101, 100] : List UInt8).length ≤ capS) <|
      some ((t25 ++ t29.1) ++ ([32, 101, 110, 100, 101, 100] : List UInt8), ())
    else
      some (t25 ++ t29.1, ())
noncomputable def spec_TrackLine (t0 : TTrack) : Option (List UInt8 × Unit) :=
  Option.bind (spec_l32Small t0.1) fun t6 =>
  bif !t6.1 then
    some (([] : List UInt8), ())
  else
    Option.bind (spec_FormatInt t0.1) fun t10 =>
    guardP (t10.1.length + ([32, 98, 121, 32, 99, 108, 105, 101, 110, 116] : List UInt8).length ≤ capS) <|
    bif t0.2.1 then
      Option.bind (spec_FormatInt t0.1) fun t16 =>
      guardP (t16.1.length + ([32, 98, 121, 32, 115, 101, 114, 118, 101, 114] : List UInt8).length ≤ capS) <|
      spec_TrackLine_j1 t0 (t16.1 ++ ([32, 98, 121, 32, 115, 101, 114, 118, 101, 114] : List UInt8))
    else
      spec_TrackLine_j1 t0 (t10.1 ++ ([32, 98, 121, 32, 99, 108, 105, 101, 110, 116] : List UInt8))
noncomputable def impl_within (n0 : Int) (low1 : Int) (high2 : Int) : Option (Bool × Unit) :=
  some ((decide (low1 ≤ n0)) && (decide (n0 ≤ high2)), ())
noncomputable def strconv_Itoa (n : Int) : Option (List UInt8 × Unit) := guardP (-9223372036854775808 ≤ n ∧ n ≤ 9223372036854775807) (some (Go.Lib.itoa n, ()))
noncomputable def impl_FormatInt (n0 : Int) : Option (List UInt8 × Unit) :=
  Option.bind (strconv_Itoa n0) fun t4 =>
  some (t4.1, ())
noncomputable def impl_told (ok0 : Bool) (yes1 : List UInt8) (no2 : List UInt8) : Option (List UInt8 × Unit) :=
  bif ok0 then
    some (yes1, ())
  else
    some (no2, ())
noncomputable def impl_TrackLine (t0 : TTrack) : Option (List UInt8 × Unit) :=
  Option.bind (impl_within t0.1 (0 : Int) (999999999 : Int)) fun t6 =>
  bif !t6.1 then
    some (([] : List UInt8), ())
  else
    Option.bind (impl_FormatInt t0.1) fun t10 =>
    guardP (t10.1.length + ([32, 98, 121, 32] : List UInt8).length ≤ capS) <|
    Option.bind (impl_told t0.2.1 ([115, 101, 114, 118, 101, 114] : List UInt8) ([99, 108, 105, 101, 110, 116] : List UInt8)) fun t14 =>
    guardP ((t10.1 ++ ([32, 98, 121, 32] : List UInt8)).length + t14.1.length ≤ capS) <|
    let t15 : List UInt8 := (t10.1 ++ ([32, 98, 121, 32] : List UInt8)) ++ t14.1
    guardP (t15.length + ([32, 119, 114, 111, 116, 101, 32] : List UInt8).length ≤ capS) <|
    let t16 : List UInt8 := t15 ++ ([32, 119, 114, 111, 116, 101, 32] : List UInt8)
    Option.bind (impl_FormatInt (t0.2.2.1.length : Int)) fun t20 =>
    guardP (t16.length + t20.1.length ≤ capS) <|
    guardP ((t16 ++ t20.1).length + ([32, 103, 111, 116, 32] : List UInt8).length ≤ capS) <|
    let t22 : List UInt8 := (t16 ++ t20.1) ++ ([32, 103, 111, 116, 32] : List UInt8)
    Option.bind (impl_FormatInt (t0.2.2.2.1.length : Int)) fun t26 =>
    guardP (t22.length + t26.1.length ≤ capS) <|
    bif t0.2.2.2.2.2.2.1 then
      guardP ((t22 ++ t26.1).length + ([32, 98, 114, 111, 107, 101, 110] : List UInt8).length ≤ capS) <|
      some ((t22 ++ t26.1) ++ ([32, 98, 114, 111, 107, 101, 110] : List UInt8), ())
    else
      bif t0.2.2.2.2.2.1 then
        guardP ((t22 ++ t26.1).length + ([32, 101, 110, 100, 101, 100] : List UInt8).length ≤ capS) <|
        some ((t22 ++ t26.1) ++ ([32, 101, 110, 100, 101, 100] : List UInt8), ())
      else
        some (t22 ++ t26.1, ())
noncomputable def laws_FnExactTrackLine (aT0 : TTrack) : Option (Bool × Unit) :=
  Option.bind (laws_szTrack aT0 (1048576 : Int)) fun t8 =>
  bif decide (t8.1 < (0 : Int)) then
    some (true, ())
  else
    Option.bind (laws_toTrack aT0) fun t12 =>
    Option.bind (spec_TrackLine t12.1) fun t13 =>
    Option.bind (laws_toTrack aT0) fun t15 =>
    Option.bind (impl_TrackLine t15.1) fun t16 =>
    bif !(t16.1 == t13.1) then
      some (false, ())
    else
      some (true, ())
def tab : Tab := lookT [(3, .int .i64), (4, .bool), (5, .int .u8), (9, .str), (23, tyTrack), (26, tyTrack), (80, .slice 5 (.int .u8))]
theorem tok_3 : TOK Tryd.prog 3 (.int .i64) := ⟨by kernel_rfl, by kernel_rfl⟩
theorem tok_4 : TOK Tryd.prog 4 (.bool) := ⟨by kernel_rfl, by kernel_rfl⟩
theorem tok_5 : TOK Tryd.prog 5 (.int .u8) := ⟨by kernel_rfl, by kernel_rfl⟩
theorem tok_9 : TOK Tryd.prog 9 (.str) := ⟨by kernel_rfl, by kernel_rfl⟩
theorem tok_23 : TOK Tryd.prog 23 (tyTrack) := ⟨by kernel_rfl, by kernel_rfl⟩
theorem tok_26 : TOK Tryd.prog 26 (tyTrack) := ⟨by kernel_rfl, by kernel_rfl⟩
theorem tok_80 : TOK Tryd.prog 80 (.slice 5 (.int .u8)) := ⟨by kernel_rfl, by kernel_rfl⟩
theorem tab_ok : tab.ok Tryd.prog := (tab_cons tok_3 (tab_cons tok_4 (tab_cons tok_5 (tab_cons tok_9 (tab_cons tok_23 (tab_cons tok_26 (tab_cons tok_80 tab_nil)))))))
noncomputable abbrev glob : Glob := Glob.vars Tryd.prog [("internal/strconv.uint64pow10", (Go.Lib.pow10Tab.map fun z => Value.int .u64 z).toArray)]
def eqsL : List Nat := []
theorem eqs_ok : EqsL Tryd.prog tab eqsL := eqs_nil
@[reducible] def cfg (Γ : Env) : Cfg := { τ := tab, eq := fun e => eqsL.any (Nat.beq e), Γ := Γ }
theorem cfg_ok {Γ : Env} (h : Γ.ok Tryd.prog glob) : (cfg Γ).ok Tryd.prog glob := ⟨tab_ok, eqs_ok, h, by kernel_rfl⟩
@[reducible] noncomputable def e_laws_szTrack : FnE := { f := 8, args := [tyTrack, .int .i64], res := [.int .i64], F := fun xs => laws_szTrack xs.1 xs.2.1 }
theorem ok_laws_szTrack : FnOK Tryd.prog glob e_laws_szTrack := by
  refine FnOK.of (e := e_laws_szTrack) (C := cfg []) (cfg_ok env_nil) Tryd.func8 (c := codeOf Tryd.f8) rfl Tryd.call8 (by decide)
    (.leaf) ?_ ?_
  · exact conds_leaf _ _
  · intro xs r h
    refine Eq.trans (Eq.symm ?_) h
    kernel_rfl
@[reducible] noncomputable def e_laws_toTrack : FnE := { f := 10, args := [tyTrack], res := [tyTrack], F := fun xs => laws_toTrack xs.1 }
theorem ok_laws_toTrack : FnOK Tryd.prog glob e_laws_toTrack := by
  refine FnOK.of (e := e_laws_toTrack) (C := cfg []) (cfg_ok env_nil) Tryd.func10 (c := codeOf Tryd.f10) rfl Tryd.call10 (by decide)
    (.leaf) ?_ ?_
  · exact conds_leaf _ _
  · intro xs r h
    refine Eq.trans (Eq.symm ?_) h
    kernel_rfl
@[reducible] noncomputable def e_spec_l1In : FnE := { f := 57, args := [.int .i64, .int .i64, .int .i64], res := [.bool], F := fun xs => spec_l1In xs.1 xs.2.1 xs.2.2.1 }
theorem ok_spec_l1In : FnOK Tryd.prog glob e_spec_l1In := by
  refine FnOK.of (e := e_spec_l1In) (C := cfg []) (cfg_ok env_nil) Tryd.func57 (c := codeOf Tryd.f57) rfl Tryd.call57 (by decide)
    (.leaf) ?_ ?_
  · exact conds_leaf _ _
  · intro xs r h
    refine Eq.trans (Eq.symm ?_) h
    kernel_rfl
@[reducible] noncomputable def e_spec_l32Small : FnE := { f := 31, args := [.int .i64], res := [.bool], F := fun xs => spec_l32Small xs.1 }
theorem ok_spec_l32Small : FnOK Tryd.prog glob e_spec_l32Small := by
  refine FnOK.of (e := e_spec_l32Small) (C := cfg [e_spec_l1In]) (cfg_ok (env_cons ok_spec_l1In env_nil)) Tryd.func31 (c := codeOf Tryd.f31) rfl Tryd.call31 (by decide)
    (.leaf) ?_ ?_
  · exact conds_leaf _ _
  · intro xs r h
    refine Eq.trans (Eq.symm ?_) h
    kernel_rfl
@[reducible] noncomputable def e_spec_FormatInt : FnE := { f := 32, args := [.int .i64], res := [.str], F := fun xs => spec_FormatInt xs.1 }
theorem ok_spec_FormatInt : FnOK Tryd.prog glob e_spec_FormatInt := by
  refine FnOK.of (e := e_spec_FormatInt) (C := cfg []) (cfg_ok env_nil) Tryd.func32 (c := codeOf Tryd.f32) rfl Tryd.call32 (by decide)
    ((.seq .leaf (.seq .leaf (.seq .leaf (.seq .leaf (.seq (.block (.loop spec_FormatInt_l1_p (fun N v => spec_FormatInt_l1 N v.1 v.2.1 v.2.2.1) (fun v => spec_FormatInt_l1_fuel v.1 v.2.1 v.2.2.1) (fun K1 => (.seq .leaf (.block (.seq .leaf (.join spec_FormatInt_j1_p (fun v => spec_FormatInt_j1 K1 v.1 v.2.1 v.2.2.1 v.2.2.2.1) .leaf .leaf))))))) .leaf)))))) ?_ ?_
  · exact ⟨conds_leaf _ _, ⟨conds_leaf _ _, ⟨conds_leaf _ _, ⟨conds_leaf _ _, ⟨⟨fun _ => rfl, fun N => ⟨(fun v => by kernel_rfl), ⟨conds_leaf _ _, ⟨conds_leaf _ _, ⟨conds_leaf _ _, (fun v => by kernel_rfl), conds_leaf _ _⟩⟩⟩⟩⟩, conds_leaf _ _⟩⟩⟩⟩⟩
  · intro xs r h
    refine Eq.trans (Eq.symm ?_) h
    kernel_rfl
@[reducible] noncomputable def e_spec_TrackLine : FnE := { f := 9, args := [tyTrack], res := [.str], F := fun xs => spec_TrackLine xs.1 }
theorem ok_spec_TrackLine : FnOK Tryd.prog glob e_spec_TrackLine := by
  refine FnOK.of (e := e_spec_TrackLine) (C := cfg [e_spec_l32Small, e_spec_FormatInt]) (cfg_ok (env_cons ok_spec_l32Small (env_cons ok_spec_FormatInt env_nil))) Tryd.func9 (c := codeOf Tryd.f9) rfl Tryd.call9 (by decide)
    ((.seq .leaf (.seq .leaf (.seq .leaf (.join spec_TrackLine_j1_p (fun v => spec_TrackLine_j1 v.1 v.2.1) .leaf .leaf))))) ?_ ?_
  · exact ⟨conds_leaf _ _, ⟨conds_leaf _ _, ⟨conds_leaf _ _, ⟨conds_leaf _ _, (fun v => by kernel_rfl), conds_leaf _ _⟩⟩⟩⟩
  · intro xs r h
    refine Eq.trans (Eq.symm ?_) h
    kernel_rfl
@[reducible] noncomputable def e_impl_within : FnE := { f := 33, args := [.int .i64, .int .i64, .int .i64], res := [.bool], F := fun xs => impl_within xs.1 xs.2.1 xs.2.2.1 }
theorem ok_impl_within : FnOK Tryd.prog glob e_impl_within := by
  refine FnOK.of (e := e_impl_within) (C := cfg []) (cfg_ok env_nil) Tryd.func33 (c := codeOf Tryd.f33) rfl Tryd.call33 (by decide)
    (.leaf) ?_ ?_
  · exact conds_leaf _ _
  · intro xs r h
    refine Eq.trans (Eq.symm ?_) h
    kernel_rfl
@[reducible] noncomputable def e_strconv_Itoa : FnE := { f := 58, args := [.int .i64], res := [.str], F := fun xs => strconv_Itoa xs.1 }
theorem ok_strconv_Itoa : FnOK Tryd.prog glob e_strconv_Itoa :=
  FnOK.intStr Tryd.call58 fun n w hg h0 h1 => (Tryd.strconv_Itoa n h0 h1 w (hg _ (List.getElem_mem (n := 0) (by decide)))).mono fun e w' ⟨he, k, os, hw⟩ => ⟨he, hw ▸ Go.Lib.below_grow _ _ (Nat.le_refl _) k os⟩
@[reducible] noncomputable def e_impl_FormatInt : FnE := { f := 34, args := [.int .i64], res := [.str], F := fun xs => impl_FormatInt xs.1 }
theorem ok_impl_FormatInt : FnOK Tryd.prog glob e_impl_FormatInt := by
  refine FnOK.of (e := e_impl_FormatInt) (C := cfg [e_strconv_Itoa]) (cfg_ok (env_cons ok_strconv_Itoa env_nil)) Tryd.func34 (c := codeOf Tryd.f34) rfl Tryd.call34 (by decide)
    (.leaf) ?_ ?_
  · exact conds_leaf _ _
  · intro xs r h
    refine Eq.trans (Eq.symm ?_) h
    kernel_rfl
@[reducible] noncomputable def e_impl_told : FnE := { f := 35, args := [.bool, .str, .str], res := [.str], F := fun xs => impl_told xs.1 xs.2.1 xs.2.2.1 }
theorem ok_impl_told : FnOK Tryd.prog glob e_impl_told := by
  refine FnOK.of (e := e_impl_told) (C := cfg []) (cfg_ok env_nil) Tryd.func35 (c := codeOf Tryd.f35) rfl Tryd.call35 (by decide)
    (.leaf) ?_ ?_
  · exact conds_leaf _ _
  · intro xs r h
    refine Eq.trans (Eq.symm ?_) h
    kernel_rfl
@[reducible] noncomputable def e_impl_TrackLine : FnE := { f := 11, args := [tyTrack], res := [.str], F := fun xs => impl_TrackLine xs.1 }
theorem ok_impl_TrackLine : FnOK Tryd.prog glob e_impl_TrackLine := by
  refine FnOK.of (e := e_impl_TrackLine) (C := cfg [e_impl_within, e_impl_FormatInt, e_impl_told]) (cfg_ok (env_cons ok_impl_within (env_cons ok_impl_FormatInt (env_cons ok_impl_told env_nil)))) Tryd.func11 (c := codeOf Tryd.f11) rfl Tryd.call11 (by decide)
    (.leaf) ?_ ?_
  · exact conds_leaf _ _
  · intro xs r h
    refine Eq.trans (Eq.symm ?_) h
    kernel_rfl
@[reducible] noncomputable def e_laws_FnExactTrackLine : FnE := { f := 3, args := [tyTrack], res := [.bool], F := fun xs => laws_FnExactTrackLine xs.1 }
theorem ok_laws_FnExactTrackLine : FnOK Tryd.prog glob e_laws_FnExactTrackLine := by
  refine FnOK.of (e := e_laws_FnExactTrackLine) (C := cfg [e_laws_szTrack, e_laws_toTrack, e_spec_TrackLine, e_impl_TrackLine]) (cfg_ok (env_cons ok_laws_szTrack (env_cons ok_laws_toTrack (env_cons ok_spec_TrackLine (env_cons ok_impl_TrackLine env_nil))))) Tryd.func3 (c := codeOf Tryd.f3) rfl Tryd.call3 (by decide)
    (.leaf) ?_ ?_
  · exact conds_leaf _ _
  · intro xs r h
    refine Eq.trans (Eq.symm ?_) h
    kernel_rfl
end Go.Proofs.YtifcipnimblkpabDoor

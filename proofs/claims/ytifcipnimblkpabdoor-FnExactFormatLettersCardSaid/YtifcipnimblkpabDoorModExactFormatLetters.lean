/- FnExactFormatLetters: what the functions that it reaches compute, as plain functions, and that they do so. No condition. -/
import Derived.Test.YtifcipnimblkpabDoorRows
import Derived.Test.YtifcipnimblkpabDoorAm4
import Derived.Test.YtifcipnimblkpabDoorShelf
import Derived.Lib.AppendIntMem
namespace Go.Proofs.YtifcipnimblkpabDoor
open Go.Am
set_option maxRecDepth 100000
set_option linter.unusedVariables false

@[reducible] def tyLetter : Ty := .pair (.int .i64) (.pair (.str) (.unit))
@[reducible] def TLetter : Type := Int × List UInt8 × Unit
def zLetter : TLetter := ((0 : Int), (([] : List UInt8), ()))
noncomputable def laws_szLetter (a0 : TLetter) (left1 : Int) : Option (Int × Unit) :=
  let t9 : Int := IntKind.i64.wrap (left1 - (a0.2.1.length : Int))
  bif decide (t9 < (0 : Int)) then
    some ((-1 : Int), ())
  else
    some (t9, ())
@[reducible] def laws_szLetterS_l1_p : List PE := [.val 0 (.slice 63 (tyLetter)) (.u false), .val 1 (.int .i64) (.u false), .val 5 (.int .i64) (.u false)]
def laws_szLetterS_l1_fuel (a0_1 : List TLetter) (left1_1 : Int) (i5 : Int) : Nat := ((a0_1.length : Int) - i5).toNat + 1
noncomputable def laws_szLetterS_l1 : Nat → List TLetter → Int → Int → Option (Int × Unit)
  | 0, _, _, _ => none
  | N + 1, a0_1, left1_1, i5 =>
    bif decide (i5 < (a0_1.length : Int)) then
      guardP (0 ≤ i5 ∧ i5 < a0_1.length) <|
      Option.bind (laws_szLetter (a0_1.getD i5.toNat zLetter) left1_1) fun t23 =>
      bif decide (t23.1 < (0 : Int)) then
        some ((-1 : Int), ())
      else
        laws_szLetterS_l1 N a0_1 t23.1 (IntKind.i64.wrap (i5 + (1 : Int)))
    else
      some (left1_1, ())
noncomputable def laws_szLetterS (a0 : List TLetter) (left1 : Int) : Option (Int × Unit) :=
  let t9 : Int := IntKind.i64.wrap (left1 - (a0.length : Int))
  bif decide (t9 < (0 : Int)) then
    some ((-1 : Int), ())
  else
    laws_szLetterS_l1 (laws_szLetterS_l1_fuel a0 t9 (0 : Int)) a0 t9 (0 : Int)
noncomputable def laws_toLetter (a0 : TLetter) : Option (TLetter × Unit) :=
  some ((a0.1, (a0.2.1, ())), ())
@[reducible] def laws_toLetterS_l1_p : List PE := [.val 0 (.slice 63 (tyLetter)) (.u false), .val 3 (.slice 64 (tyLetter)) (.u true), .val 4 (.int .i64) (.u false)]
def laws_toLetterS_l1_fuel (a0_1 : List TLetter) (out3 : List TLetter) (i4 : Int) : Nat := ((a0_1.length : Int) - i4).toNat + 1
noncomputable def laws_toLetterS_l1 : Nat → List TLetter → List TLetter → Int → Option (List TLetter × Unit)
  | 0, _, _, _ => none
  | N + 1, a0_1, out3, i4 =>
    bif decide (i4 < (a0_1.length : Int)) then
      guardP (0 ≤ i4 ∧ i4 < a0_1.length) <|
      Option.bind (laws_toLetter (a0_1.getD i4.toNat zLetter)) fun t20 =>
      guardP (0 ≤ i4 ∧ i4 < out3.length) <|
      laws_toLetterS_l1 N a0_1 (out3.set i4.toNat t20.1) (IntKind.i64.wrap (i4 + (1 : Int)))
    else
      some (out3, ())
noncomputable def laws_toLetterS (a0 : List TLetter) : Option (List TLetter × Unit) :=
  guardP (0 ≤ (a0.length : Int) ∧ (a0.length : Int) ≤ (a0.length : Int) ∧ (a0.length : Int) ≤ capN) <|
  let t7 : List TLetter := List.replicate (a0.length : Int).toNat zLetter
  laws_toLetterS_l1 (laws_toLetterS_l1_fuel a0 t7 (0 : Int)) a0 t7 (0 : Int)
@[reducible] def spec_FormatInt_j1_p : List PE := [.val 0 (.int .i64) (.u false), .val 3 (.str) (.u false), .val 4 (.bool) (.u false), .val 5 (.int .i64) (.u false)]
noncomputable def spec_FormatInt_j1 (K1 : (Int × List UInt8 × Bool × Unit) → Option (List UInt8 × Unit)) (n0_2 : Int) (out3_2 : List UInt8) (neg4_1 : Bool) (d5 : Int) : Option (List UInt8 × Unit) :=
  let t22 : List UInt8 := bytesOf ([(IntKind.u8.wrap (IntKind.i64.wrap ((48 : Int) + d5)))])
  guardP (t22.length + out3_2.length ≤ capS) <|
  guardP ((10 : Int) ≠ 0) <|
  K1 (IntKind.i64.wrap (Int.tdiv n0_2 (10 : Int)), t22 ++ out3_2, neg4_1, ())
@[reducible] def spec_FormatInt_l1_p : List PE := [.val 0 (.int .i64) (.u false), .val 3 (.str) (.u false), .val 4 (.bool) (.u false)]
def spec_FormatInt_l1_fuel (n0_1 : Int) (out3_1 : List UInt8) (neg4 : Bool) : Nat := 1048577
noncomputable def spec_FormatInt_l1 : Nat → Int → List UInt8 → Bool → Option (List UInt8 × Unit)
  | 0, _, _, _ => none
  | N + 1, n0_1, out3_1, neg4 =>
    bif n0_1 != (0 : Int) then
      guardP ((10 : Int) ≠ 0) <|
      bif decide ((Int.tmod n0_1 (10 : Int)) < (0 : Int)) then
        spec_FormatInt_j1 (fun v => spec_FormatInt_l1 N v.1 v.2.1 v.2.2.1) n0_1 out3_1 neg4 (IntKind.i64.wrap (0 - (Int.tmod n0_1 (10 : Int))))
      else
        spec_FormatInt_j1 (fun v => spec_FormatInt_l1 N v.1 v.2.1 v.2.2.1) n0_1 out3_1 neg4 (Int.tmod n0_1 (10 : Int))
    else
      bif neg4 then
        guardP (([45] : List UInt8).length + out3_1.length ≤ capS) <|
        some (([45] : List UInt8) ++ out3_1, ())
      else
        some (out3_1, ())
noncomputable def spec_FormatInt (n0 : Int) : Option (List UInt8 × Unit) :=
  bif n0 == (0 : Int) then
    some (([48] : List UInt8), ())
  else
    spec_FormatInt_l1 (spec_FormatInt_l1_fuel n0 ([] : List UInt8) (decide (n0 < (0 : Int)))) n0 ([] : List UInt8) (decide (n0 < (0 : Int)))
@[reducible] def spec_FormatLetters_j1_p : List PE := [.val 0 (.slice 64 (tyLetter)) (.u false), .val 3 (.str) (.u false), .val 4 (.int .i64) (.u false)]
noncomputable def spec_FormatLetters_j1 (K1 : (List TLetter × List UInt8 × Int × Unit) → Option (List UInt8 × Unit)) (l0_2 : List TLetter) (s3_2 : List UInt8) (i4_1 : Int) : Option (List UInt8 × Unit) :=
  guardP (0 ≤ i4_1 ∧ i4_1 < l0_2.length) <|
  guardP (0 ≤ i4_1 ∧ i4_1 < l0_2.length) <|
  Option.bind (spec_FormatInt (l0_2.getD i4_1.toNat zLetter).1) fun t21 =>
  guardP (s3_2.length + t21.1.length ≤ capS) <|
  guardP ((s3_2 ++ t21.1).length + ([58] : List UInt8).length ≤ capS) <|
  Option.bind (spec_FormatInt ((l0_2.getD i4_1.toNat zLetter).2.1.length : Int)) fun t30 =>
  guardP (((s3_2 ++ t21.1) ++ ([58] : List UInt8)).length + t30.1.length ≤ capS) <|
  K1 (l0_2, ((s3_2 ++ t21.1) ++ ([58] : List UInt8)) ++ t30.1, IntKind.i64.wrap (i4_1 + (1 : Int)), ())
@[reducible] def spec_FormatLetters_l1_p : List PE := [.val 0 (.slice 64 (tyLetter)) (.u false), .val 3 (.str) (.u false), .val 4 (.int .i64) (.u false)]
def spec_FormatLetters_l1_fuel (l0_1 : List TLetter) (s3_1 : List UInt8) (i4 : Int) : Nat := ((l0_1.length : Int) - i4).toNat + 1
noncomputable def spec_FormatLetters_l1 : Nat → List TLetter → List UInt8 → Int → Option (List UInt8 × Unit)
  | 0, _, _, _ => none
  | N + 1, l0_1, s3_1, i4 =>
    bif decide (i4 < (l0_1.length : Int)) then
      bif decide (i4 > (0 : Int)) then
        guardP (s3_1.length + ([32] : List UInt8).length ≤ capS) <|
        spec_FormatLetters_j1 (fun v => spec_FormatLetters_l1 N v.1 v.2.1 v.2.2.1) l0_1 (s3_1 ++ ([32] : List UInt8)) i4
      else
        spec_FormatLetters_j1 (fun v => spec_FormatLetters_l1 N v.1 v.2.1 v.2.2.1) l0_1 s3_1 i4
    else
      bif s3_1 == ([] : List UInt8) then
        some (([110, 111, 110, 101] : List UInt8), ())
      else
        some (s3_1, ())
noncomputable def spec_FormatLetters (l0 : List TLetter) : Option (List UInt8 × Unit) :=
  spec_FormatLetters_l1 (spec_FormatLetters_l1_fuel l0 ([] : List UInt8) (0 : Int)) l0 ([] : List UInt8) (0 : Int)
noncomputable def strconv_Itoa (n : Int) : Option (List UInt8 × Unit) := guardP (-9223372036854775808 ≤ n ∧ n ≤ 9223372036854775807) (some (Go.Lib.itoa n, ()))
noncomputable def impl_FormatInt (n0 : Int) : Option (List UInt8 × Unit) :=
  Option.bind (strconv_Itoa n0) fun t4 =>
  some (t4.1, ())
noncomputable def strings_Join (l : List (List UInt8)) (sep : List UInt8) : Option (List UInt8 × Unit) := guardP (l.length ≤ 140737488355328 ∧ (Go.Lib.join l sep).length ≤ 140737488355328) (some (Go.Lib.join l sep, ()))
noncomputable def impl_told (ok0 : Bool) (yes1 : List UInt8) (no2 : List UInt8) : Option (List UInt8 × Unit) :=
  bif ok0 then
    some (yes1, ())
  else
    some (no2, ())
noncomputable def impl_orNone (s0 : List UInt8) : Option (List UInt8 × Unit) :=
  Option.bind (impl_told (!(s0 == ([] : List UInt8))) s0 ([110, 111, 110, 101] : List UInt8)) fun t6 =>
  some (t6.1, ())
@[reducible] def impl_FormatLetters_l1_p : List PE := [.val 3 (.slice 9 (.str)) (.u true), .val 7 (.slice 64 (tyLetter)) (.u false), .val 8 (.int .i64) (.u false), .val 9 (.int .i64) (.u false)]
def impl_FormatLetters_l1_fuel (out3 : List (List UInt8)) (t7 : List TLetter) (t8_1 : Int) (t9 : Int) : Nat := (t8_1 - t9).toNat + 1
noncomputable def impl_FormatLetters_l1 : Nat → List (List UInt8) → List TLetter → Int → Int → Option (List UInt8 × Unit)
  | 0, _, _, _, _ => none
  | N + 1, out3, t7, t8_1, t9 =>
    bif decide (t9 < t8_1) then
      guardP (0 ≤ t9 ∧ t9 < t7.length) <|
      Option.bind (impl_FormatInt (t7.getD t9.toNat zLetter).1) fun t16 =>
      guardP (t16.1.length + ([58] : List UInt8).length ≤ capS) <|
      Option.bind (impl_FormatInt ((t7.getD t9.toNat zLetter).2.1.length : Int)) fun t21 =>
      guardP ((t16.1 ++ ([58] : List UInt8)).length + t21.1.length ≤ capS) <|
      let t23 : List (List UInt8) := [((t16.1 ++ ([58] : List UInt8)) ++ t21.1)]
      guardP (out3.length + t23.length ≤ capN) <|
      impl_FormatLetters_l1 N (out3 ++ t23) t7 t8_1 (IntKind.i64.wrap (t9 + (1 : Int)))
    else
      Option.bind (strings_Join out3 ([32] : List UInt8)) fun t27 =>
      Option.bind (impl_orNone t27.1) fun t28 =>
      some (t28.1, ())
noncomputable def impl_FormatLetters (l0 : List TLetter) : Option (List UInt8 × Unit) :=
  impl_FormatLetters_l1 (impl_FormatLetters_l1_fuel ([] : List (List UInt8)) l0 (l0.length : Int) (0 : Int)) ([] : List (List UInt8)) l0 (l0.length : Int) (0 : Int)
noncomputable def laws_eqLetter (a0 : TLetter) (b1 : TLetter) : Option (Bool × Unit) :=
  bif a0.1 != b1.1 then
    some (false, ())
  else
    bif !(a0.2.1 == b1.2.1) then
      some (false, ())
    else
      some (true, ())
@[reducible] def laws_eqLetterS_l1_p : List PE := [.val 0 (.slice 64 (tyLetter)) (.u false), .val 1 (.slice 64 (tyLetter)) (.u false), .val 5 (.int .i64) (.u false)]
def laws_eqLetterS_l1_fuel (a0_1 : List TLetter) (b1_1 : List TLetter) (i5 : Int) : Nat := ((a0_1.length : Int) - i5).toNat + 1
noncomputable def laws_eqLetterS_l1 : Nat → List TLetter → List TLetter → Int → Option (Bool × Unit)
  | 0, _, _, _ => none
  | N + 1, a0_1, b1_1, i5 =>
    bif decide (i5 < (a0_1.length : Int)) then
      guardP (0 ≤ i5 ∧ i5 < a0_1.length) <|
      guardP (0 ≤ i5 ∧ i5 < b1_1.length) <|
      Option.bind (laws_eqLetter (a0_1.getD i5.toNat zLetter) (b1_1.getD i5.toNat zLetter)) fun t25 =>
      bif !t25.1 then
        some (false, ())
      else
        laws_eqLetterS_l1 N a0_1 b1_1 (IntKind.i64.wrap (i5 + (1 : Int)))
    else
      some (true, ())
noncomputable def laws_eqLetterS (a0 : List TLetter) (b1 : List TLetter) : Option (Bool × Unit) :=
  bif (a0.length : Int) != (b1.length : Int) then
    some (false, ())
  else
    laws_eqLetterS_l1 (laws_eqLetterS_l1_fuel a0 b1 (0 : Int)) a0 b1 (0 : Int)
noncomputable def laws_FnExactFormatLetters (aL0 : List TLetter) : Option (Bool × Unit) :=
  Option.bind (laws_szLetterS aL0 (1048576 : Int)) fun t9 =>
  bif decide (t9.1 < (0 : Int)) then
    some (true, ())
  else
    Option.bind (laws_toLetterS aL0) fun t13 =>
    Option.bind (spec_FormatLetters t13.1) fun t14 =>
    Option.bind (laws_toLetterS aL0) fun t16 =>
    Option.bind (impl_FormatLetters t16.1) fun t18 =>
    bif !(t18.1 == t14.1) then
      some (false, ())
    else
      Option.bind (laws_toLetterS aL0) fun t24 =>
      Option.bind (laws_eqLetterS t16.1 t24.1) fun t25 =>
      bif !t25.1 then
        some (false, ())
      else
        some (true, ())
def tab : Tab := lookT [(3, .int .i64), (4, .bool), (5, .int .u8), (9, .str), (29, .slice 63 (tyLetter)), (32, .slice 64 (tyLetter)), (63, tyLetter), (64, tyLetter), (66, .slice 9 (.str)), (80, .slice 5 (.int .u8))]
theorem tok_3 : TOK Tryd.prog 3 (.int .i64) := ⟨by kernel_rfl, by kernel_rfl⟩
theorem tok_4 : TOK Tryd.prog 4 (.bool) := ⟨by kernel_rfl, by kernel_rfl⟩
theorem tok_5 : TOK Tryd.prog 5 (.int .u8) := ⟨by kernel_rfl, by kernel_rfl⟩
theorem tok_9 : TOK Tryd.prog 9 (.str) := ⟨by kernel_rfl, by kernel_rfl⟩
theorem tok_29 : TOK Tryd.prog 29 (.slice 63 (tyLetter)) := ⟨by kernel_rfl, by kernel_rfl⟩
theorem tok_32 : TOK Tryd.prog 32 (.slice 64 (tyLetter)) := ⟨by kernel_rfl, by kernel_rfl⟩
theorem tok_63 : TOK Tryd.prog 63 (tyLetter) := ⟨by kernel_rfl, by kernel_rfl⟩
theorem tok_64 : TOK Tryd.prog 64 (tyLetter) := ⟨by kernel_rfl, by kernel_rfl⟩
theorem tok_66 : TOK Tryd.prog 66 (.slice 9 (.str)) := ⟨by kernel_rfl, by kernel_rfl⟩
theorem tok_80 : TOK Tryd.prog 80 (.slice 5 (.int .u8)) := ⟨by kernel_rfl, by kernel_rfl⟩
theorem tab_ok : tab.ok Tryd.prog := (tab_cons tok_3 (tab_cons tok_4 (tab_cons tok_5 (tab_cons tok_9 (tab_cons tok_29 (tab_cons tok_32 (tab_cons tok_63 (tab_cons tok_64 (tab_cons tok_66 (tab_cons tok_80 tab_nil))))))))))
noncomputable abbrev glob : Glob := Glob.vars Tryd.prog [("internal/strconv.uint64pow10", (Go.Lib.pow10Tab.map fun z => Value.int .u64 z).toArray)]
def eqsL : List Nat := []
theorem eqs_ok : EqsL Tryd.prog tab eqsL := eqs_nil
@[reducible] def cfg (Γ : Env) : Cfg := { τ := tab, eq := fun e => eqsL.any (Nat.beq e), Γ := Γ }
theorem cfg_ok {Γ : Env} (h : Γ.ok Tryd.prog glob) : (cfg Γ).ok Tryd.prog glob := ⟨tab_ok, eqs_ok, h, by kernel_rfl⟩
@[reducible] noncomputable def e_laws_szLetter : FnE := { f := 36, args := [tyLetter, .int .i64], res := [.int .i64], F := fun xs => laws_szLetter xs.1 xs.2.1 }
theorem ok_laws_szLetter : FnOK Tryd.prog glob e_laws_szLetter := by
  refine FnOK.of (e := e_laws_szLetter) (C := cfg []) (cfg_ok env_nil) Tryd.func36 (c := codeOf Tryd.f36) rfl Tryd.call36 (by decide)
    (.leaf) ?_ ?_
  · exact conds_leaf _ _
  · intro xs r h
    refine Eq.trans (Eq.symm ?_) h
    kernel_rfl
@[reducible] noncomputable def e_laws_szLetterS : FnE := { f := 12, args := [.slice 63 (tyLetter), .int .i64], res := [.int .i64], F := fun xs => laws_szLetterS xs.1 xs.2.1 }
theorem ok_laws_szLetterS : FnOK Tryd.prog glob e_laws_szLetterS := by
  refine FnOK.of (e := e_laws_szLetterS) (C := cfg [e_laws_szLetter]) (cfg_ok (env_cons ok_laws_szLetter env_nil)) Tryd.func12 (c := codeOf Tryd.f12) rfl Tryd.call12 (by decide)
    ((.seq .leaf (.seq .leaf (.seq .leaf (.seq (.seq .leaf (.block (.loop laws_szLetterS_l1_p (fun N v => laws_szLetterS_l1 N v.1 v.2.1 v.2.2.1) (fun v => laws_szLetterS_l1_fuel v.1 v.2.1 v.2.2.1) (fun K1 => .leaf)))) .leaf))))) ?_ ?_
  · exact ⟨conds_leaf _ _, ⟨conds_leaf _ _, ⟨conds_leaf _ _, ⟨⟨conds_leaf _ _, ⟨fun _ => rfl, fun N => ⟨(fun v => by kernel_rfl), conds_leaf _ _⟩⟩⟩, conds_leaf _ _⟩⟩⟩⟩
  · intro xs r h
    refine Eq.trans (Eq.symm ?_) h
    kernel_rfl
@[reducible] noncomputable def e_laws_toLetter : FnE := { f := 37, args := [tyLetter], res := [tyLetter], F := fun xs => laws_toLetter xs.1 }
theorem ok_laws_toLetter : FnOK Tryd.prog glob e_laws_toLetter := by
  refine FnOK.of (e := e_laws_toLetter) (C := cfg []) (cfg_ok env_nil) Tryd.func37 (c := codeOf Tryd.f37) rfl Tryd.call37 (by decide)
    (.leaf) ?_ ?_
  · exact conds_leaf _ _
  · intro xs r h
    refine Eq.trans (Eq.symm ?_) h
    kernel_rfl
@[reducible] noncomputable def e_laws_toLetterS : FnE := { f := 14, args := [.slice 63 (tyLetter)], res := [.slice 64 (tyLetter)], F := fun xs => laws_toLetterS xs.1 }
theorem ok_laws_toLetterS : FnOK Tryd.prog glob e_laws_toLetterS := by
  refine FnOK.of (e := e_laws_toLetterS) (C := cfg [e_laws_toLetter]) (cfg_ok (env_cons ok_laws_toLetter env_nil)) Tryd.func14 (c := codeOf Tryd.f14) rfl Tryd.call14 (by decide)
    ((.seq .leaf (.seq .leaf (.seq (.seq .leaf (.block (.loop laws_toLetterS_l1_p (fun N v => laws_toLetterS_l1 N v.1 v.2.1 v.2.2.1) (fun v => laws_toLetterS_l1_fuel v.1 v.2.1 v.2.2.1) (fun K1 => .leaf)))) .leaf)))) ?_ ?_
  · exact ⟨conds_leaf _ _, ⟨conds_leaf _ _, ⟨⟨conds_leaf _ _, ⟨fun _ => rfl, fun N => ⟨(fun v => by kernel_rfl), conds_leaf _ _⟩⟩⟩, conds_leaf _ _⟩⟩⟩
  · intro xs r h
    refine Eq.trans (Eq.symm ?_) h
    kernel_rfl
@[reducible] noncomputable def e_spec_FormatInt : FnE := { f := 32, args := [.int .i64], res := [.str], F := fun xs => spec_FormatInt xs.1 }
theorem ok_spec_FormatInt : FnOK Tryd.prog glob e_spec_FormatInt := by
  refine FnOK.of (e := e_spec_FormatInt) (C := cfg []) (cfg_ok env_nil) Tryd.func32 (c := codeOf Tryd.f32) rfl Tryd.call32 (by decide)
    ((.seq .leaf (.seq .leaf (.seq .leaf (.seq .leaf (.seq (.block (.loop spec_FormatInt_l1_p (fun N v => spec_FormatInt_l1 N v.1 v.2.1 v.2.2.1) (fun v => spec_FormatInt_l1_fuel v.1 v.2.1 v.2.2.1) (fun K1 => (.seq .leaf (.block (.seq .leaf (.join spec_FormatInt_j1_p (fun v => spec_FormatInt_j1 K1 v.1 v.2.1 v.2.2.1 v.2.2.2.1) .leaf .leaf))))))) .leaf)))))) ?_ ?_
  · exact ⟨conds_leaf _ _, ⟨conds_leaf _ _, ⟨conds_leaf _ _, ⟨conds_leaf _ _, ⟨⟨fun _ => rfl, fun N => ⟨(fun v => by kernel_rfl), ⟨conds_leaf _ _, ⟨conds_leaf _ _, ⟨conds_leaf _ _, (fun v => by kernel_rfl), conds_leaf _ _⟩⟩⟩⟩⟩, conds_leaf _ _⟩⟩⟩⟩⟩
  · intro xs r h
    refine Eq.trans (Eq.symm ?_) h
    kernel_rfl
@[reducible] noncomputable def e_spec_FormatLetters : FnE := { f := 13, args := [.slice 64 (tyLetter)], res := [.str], F := fun xs => spec_FormatLetters xs.1 }
theorem ok_spec_FormatLetters : FnOK Tryd.prog glob e_spec_FormatLetters := by
  refine FnOK.of (e := e_spec_FormatLetters) (C := cfg [e_spec_FormatInt]) (cfg_ok (env_cons ok_spec_FormatInt env_nil)) Tryd.func13 (c := codeOf Tryd.f13) rfl Tryd.call13 (by decide)
    ((.seq .leaf (.seq .leaf (.seq (.seq .leaf (.block (.loop spec_FormatLetters_l1_p (fun N v => spec_FormatLetters_l1 N v.1 v.2.1 v.2.2.1) (fun v => spec_FormatLetters_l1_fuel v.1 v.2.1 v.2.2.1) (fun K1 => (.seq .leaf (.seq (.block (.join spec_FormatLetters_j1_p (fun v => spec_FormatLetters_j1 K1 v.1 v.2.1 v.2.2.1) .leaf .leaf)) .leaf)))))) .leaf)))) ?_ ?_
  · exact ⟨conds_leaf _ _, ⟨conds_leaf _ _, ⟨⟨conds_leaf _ _, ⟨fun _ => rfl, fun N => ⟨(fun v => by kernel_rfl), ⟨conds_leaf _ _, ⟨⟨conds_leaf _ _, (fun v => by kernel_rfl), conds_leaf _ _⟩, conds_leaf _ _⟩⟩⟩⟩⟩, conds_leaf _ _⟩⟩⟩
  · intro xs r h
    refine Eq.trans (Eq.symm ?_) h
    kernel_rfl
@[reducible] noncomputable def e_strconv_Itoa : FnE := { f := 58, args := [.int .i64], res := [.str], F := fun xs => strconv_Itoa xs.1 }
theorem ok_strconv_Itoa : FnOK Tryd.prog glob e_strconv_Itoa :=
  FnOK.intStr Tryd.call58 fun n w hg h0 h1 => (Tryd.strconv_Itoa n h0 h1 w (hg _ (List.getElem_mem (n := 0) (by decide)))).mono fun e w' ⟨he, k, os, hw⟩ => ⟨he, hw ▸ Go.Lib.below_grow _ _ (Nat.le_refl _) k os⟩
@[reducible] noncomputable def e_impl_FormatInt : FnE := { f := 34, args := [.int .i64], res := [.str], F := fun xs => impl_FormatInt xs.1 }
theorem ok_impl_FormatInt : FnOK Tryd.prog glob e_impl_FormatInt := by
  refine FnOK.of (e := e_impl_FormatInt) (C := cfg [e_strconv_Itoa]) (cfg_ok (env_cons ok_strconv_Itoa env_nil)) Tryd.func34 (c := codeOf Tryd.f34) rfl Tryd.call34 (by decide)
    (.leaf) ?_ ?_
  · exact conds_leaf _ _
  · intro xs r h
    refine Eq.trans (Eq.symm ?_) h
    kernel_rfl
@[reducible] noncomputable def e_strings_Join : FnE := { f := 39, args := [.slice 9 (.str), .str], res := [.str], F := fun xs => strings_Join xs.1 xs.2.1 }
theorem ok_strings_Join : FnOK Tryd.prog glob e_strings_Join :=
  FnOK.join Tryd.call39 (fun _ => rfl) (fun a c sep w => Tryd.strings_Join_none a c sep w) (fun bk o c xs sep w h1 h2 h3 h4 h5 => Tryd.strings_Join bk o c xs sep w h1 h2 h3 h4 h5)
@[reducible] noncomputable def e_impl_told : FnE := { f := 35, args := [.bool, .str, .str], res := [.str], F := fun xs => impl_told xs.1 xs.2.1 xs.2.2.1 }
theorem ok_impl_told : FnOK Tryd.prog glob e_impl_told := by
  refine FnOK.of (e := e_impl_told) (C := cfg []) (cfg_ok env_nil) Tryd.func35 (c := codeOf Tryd.f35) rfl Tryd.call35 (by decide)
    (.leaf) ?_ ?_
  · exact conds_leaf _ _
  · intro xs r h
    refine Eq.trans (Eq.symm ?_) h
    kernel_rfl
@[reducible] noncomputable def e_impl_orNone : FnE := { f := 38, args := [.str], res := [.str], F := fun xs => impl_orNone xs.1 }
theorem ok_impl_orNone : FnOK Tryd.prog glob e_impl_orNone := by
  refine FnOK.of (e := e_impl_orNone) (C := cfg [e_impl_told]) (cfg_ok (env_cons ok_impl_told env_nil)) Tryd.func38 (c := codeOf Tryd.f38) rfl Tryd.call38 (by decide)
    (.leaf) ?_ ?_
  · exact conds_leaf _ _
  · intro xs r h
    refine Eq.trans (Eq.symm ?_) h
    kernel_rfl
@[reducible] noncomputable def e_impl_FormatLetters : FnE := { f := 15, args := [.slice 64 (tyLetter)], res := [.str], F := fun xs => impl_FormatLetters xs.1 }
theorem ok_impl_FormatLetters : FnOK Tryd.prog glob e_impl_FormatLetters := by
  refine FnOK.of (e := e_impl_FormatLetters) (C := cfg [e_impl_FormatInt, e_strings_Join, e_impl_orNone]) (cfg_ok (env_cons ok_impl_FormatInt (env_cons ok_strings_Join (env_cons ok_impl_orNone env_nil)))) Tryd.func15 (c := codeOf Tryd.f15) rfl Tryd.call15 (by decide)
    ((.seq .leaf (.seq .leaf (.seq (.seq .leaf (.block (.loop impl_FormatLetters_l1_p (fun N v => impl_FormatLetters_l1 N v.1 v.2.1 v.2.2.1 v.2.2.2.1) (fun v => impl_FormatLetters_l1_fuel v.1 v.2.1 v.2.2.1 v.2.2.2.1) (fun K1 => .leaf)))) .leaf)))) ?_ ?_
  · exact ⟨conds_leaf _ _, ⟨conds_leaf _ _, ⟨⟨conds_leaf _ _, ⟨fun _ => rfl, fun N => ⟨(fun v => by kernel_rfl), conds_leaf _ _⟩⟩⟩, conds_leaf _ _⟩⟩⟩
  · intro xs r h
    refine Eq.trans (Eq.symm ?_) h
    kernel_rfl
@[reducible] noncomputable def e_laws_eqLetter : FnE := { f := 40, args := [tyLetter, tyLetter], res := [.bool], F := fun xs => laws_eqLetter xs.1 xs.2.1 }
theorem ok_laws_eqLetter : FnOK Tryd.prog glob e_laws_eqLetter := by
  refine FnOK.of (e := e_laws_eqLetter) (C := cfg []) (cfg_ok env_nil) Tryd.func40 (c := codeOf Tryd.f40) rfl Tryd.call40 (by decide)
    (.leaf) ?_ ?_
  · exact conds_leaf _ _
  · intro xs r h
    refine Eq.trans (Eq.symm ?_) h
    kernel_rfl
@[reducible] noncomputable def e_laws_eqLetterS : FnE := { f := 16, args := [.slice 64 (tyLetter), .slice 64 (tyLetter)], res := [.bool], F := fun xs => laws_eqLetterS xs.1 xs.2.1 }
theorem ok_laws_eqLetterS : FnOK Tryd.prog glob e_laws_eqLetterS := by
  refine FnOK.of (e := e_laws_eqLetterS) (C := cfg [e_laws_eqLetter]) (cfg_ok (env_cons ok_laws_eqLetter env_nil)) Tryd.func16 (c := codeOf Tryd.f16) rfl Tryd.call16 (by decide)
    ((.seq .leaf (.seq .leaf (.seq (.seq .leaf (.block (.loop laws_eqLetterS_l1_p (fun N v => laws_eqLetterS_l1 N v.1 v.2.1 v.2.2.1) (fun v => laws_eqLetterS_l1_fuel v.1 v.2.1 v.2.2.1) (fun K1 => .leaf)))) .leaf)))) ?_ ?_
  · exact ⟨conds_leaf _ _, ⟨conds_leaf _ _, ⟨⟨conds_leaf _ _, ⟨fun _ => rfl, fun N => ⟨(fun v => by kernel_rfl), conds_leaf _ _⟩⟩⟩, conds_leaf _ _⟩⟩⟩
  · intro xs r h
    refine Eq.trans (Eq.symm ?_) h
    kernel_rfl
@[reducible] noncomputable def e_laws_FnExactFormatLetters : FnE := { f := 4, args := [.slice 63 (tyLetter)], res := [.bool], F := fun xs => laws_FnExactFormatLetters xs.1 }
theorem ok_laws_FnExactFormatLetters : FnOK Tryd.prog glob e_laws_FnExactFormatLetters := by
  refine FnOK.of (e := e_laws_FnExactFormatLetters) (C := cfg [e_laws_szLetterS, e_laws_toLetterS, e_spec_FormatLetters, e_impl_FormatLetters, e_laws_eqLetterS]) (cfg_ok (env_cons ok_laws_szLetterS (env_cons ok_laws_toLetterS (env_cons ok_spec_FormatLetters (env_cons ok_impl_FormatLetters (env_cons ok_laws_eqLetterS env_nil)))))) Tryd.func4 (c := codeOf Tryd.f4) rfl Tryd.call4 (by decide)
    (.leaf) ?_ ?_
  · exact conds_leaf _ _
  · intro xs r h
    refine Eq.trans (Eq.symm ?_) h
    kernel_rfl
end Go.Proofs.YtifcipnimblkpabDoor

/- FnExactEncodeEvents: what the functions that it reaches compute, as plain functions, and that they do so. No condition. -/
import Derived.Test.YtifcipnimblkpabDoorRows
import Derived.Test.YtifcipnimblkpabDoorAm4
import Derived.Test.YtifcipnimblkpabDoorShelf
import Derived.Lib.AppendIntMem
namespace Go.Proofs.YtifcipnimblkpabDoor
open Go.Am
set_option maxRecDepth 100000
set_option linter.unusedVariables false

@[reducible] def tyEvent : Ty := .pair (.int .i64) (.pair (.int .i64) (.pair (.int .i64) (.pair (.str) (.unit))))
@[reducible] def TEvent : Type := Int × Int × Int × List UInt8 × Unit
def zEvent : TEvent := ((0 : Int), ((0 : Int), ((0 : Int), (([] : List UInt8), ()))))
noncomputable def laws_szEvent (a0 : TEvent) (left1 : Int) : Option (Int × Unit) :=
  let t9 : Int := IntKind.i64.wrap (left1 - (a0.2.2.2.1.length : Int))
  bif decide (t9 < (0 : Int)) then
    some ((-1 : Int), ())
  else
    some (t9, ())
@[reducible] def laws_szEventS_l1_p : List PE := [.val 0 (.slice 72 (tyEvent)) (.u false), .val 1 (.int .i64) (.u false), .val 5 (.int .i64) (.u false)]
def laws_szEventS_l1_fuel (a0_1 : List TEvent) (left1_1 : Int) (i5 : Int) : Nat := ((a0_1.length : Int) - i5).toNat + 1
noncomputable def laws_szEventS_l1 : Nat → List TEvent → Int → Int → Option (Int × Unit)
  | 0, _, _, _ => none
  | N + 1, a0_1, left1_1, i5 =>
    bif decide (i5 < (a0_1.length : Int)) then
      guardP (0 ≤ i5 ∧ i5 < a0_1.length) <|
      Option.bind (laws_szEvent (a0_1.getD i5.toNat zEvent) left1_1) fun t23 =>
      bif decide (t23.1 < (0 : Int)) then
        some ((-1 : Int), ())
      else
        laws_szEventS_l1 N a0_1 t23.1 (IntKind.i64.wrap (i5 + (1 : Int)))
    else
      some (left1_1, ())
noncomputable def laws_szEventS (a0 : List TEvent) (left1 : Int) : Option (Int × Unit) :=
  let t9 : Int := IntKind.i64.wrap (left1 - (a0.length : Int))
  bif decide (t9 < (0 : Int)) then
    some ((-1 : Int), ())
  else
    laws_szEventS_l1 (laws_szEventS_l1_fuel a0 t9 (0 : Int)) a0 t9 (0 : Int)
noncomputable def laws_toEvent (a0 : TEvent) : Option (TEvent × Unit) :=
  some ((a0.1, (a0.2.1, (a0.2.2.1, (a0.2.2.2.1, ())))), ())
@[reducible] def laws_toEventS_l1_p : List PE := [.val 0 (.slice 72 (tyEvent)) (.u false), .val 3 (.slice 74 (tyEvent)) (.u true), .val 4 (.int .i64) (.u false)]
def laws_toEventS_l1_fuel (a0_1 : List TEvent) (out3 : List TEvent) (i4 : Int) : Nat := ((a0_1.length : Int) - i4).toNat + 1
noncomputable def laws_toEventS_l1 : Nat → List TEvent → List TEvent → Int → Option (List TEvent × Unit)
  | 0, _, _, _ => none
  | N + 1, a0_1, out3, i4 =>
    bif decide (i4 < (a0_1.length : Int)) then
      guardP (0 ≤ i4 ∧ i4 < a0_1.length) <|
      Option.bind (laws_toEvent (a0_1.getD i4.toNat zEvent)) fun t20 =>
      guardP (0 ≤ i4 ∧ i4 < out3.length) <|
      laws_toEventS_l1 N a0_1 (out3.set i4.toNat t20.1) (IntKind.i64.wrap (i4 + (1 : Int)))
    else
      some (out3, ())
noncomputable def laws_toEventS (a0 : List TEvent) : Option (List TEvent × Unit) :=
  guardP (0 ≤ (a0.length : Int) ∧ (a0.length : Int) ≤ (a0.length : Int) ∧ (a0.length : Int) ≤ capN) <|
  let t7 : List TEvent := List.replicate (a0.length : Int).toNat zEvent
  laws_toEventS_l1 (laws_toEventS_l1_fuel a0 t7 (0 : Int)) a0 t7 (0 : Int)
noncomputable def spec_l1In (x0 : Int) (low1 : Int) (high2 : Int) : Option (Bool × Unit) :=
  some ((decide (x0 ≥ low1)) && (decide (x0 ≤ high2)), ())
noncomputable def spec_EventWord (kind0 : Int) : Option (List UInt8 × Unit) :=
  Option.bind (spec_l1In kind0 (1 : Int) (12 : Int)) fun t4 =>
  bif !t4.1 then
    some (([] : List UInt8), ())
  else
    let t6 : List (List UInt8) := [([111, 112, 101, 110] : List UInt8), ([119, 114, 105, 116, 101] : List UInt8), ([102, 105, 110, 105, 115, 104] : List UInt8), ([114, 101, 97, 100] : List UInt8), ([114, 101, 115, 101, 116] : List UInt8), ([115, 116, 111, 112] : List UInt8), ([112, 114, 105, 111, 114, 105, 116, 121] : List UInt8), ([101, 109, 105, 116] : List UInt8), ([97, 99, 107] : List UInt8), ([108, 111, 115, 101] : List UInt8), ([112, 97, 121, 108, 111, 97, 100] : List UInt8), ([116, 105, 109, 101] : List UInt8)]
    guardP (0 ≤ (IntKind.i64.wrap (kind0 - (1 : Int))) ∧ (IntKind.i64.wrap (kind0 - (1 : Int))) < t6.length) <|
    some (t6.getD (IntKind.i64.wrap (kind0 - (1 : Int))).toNat ([] : List UInt8), ())
@[reducible] def spec_l23Form_j3_p : List PE := [.box 1 74 (tyEvent) (.u false), .box 2 74 (tyEvent) (.u false), .box 3 74 (tyEvent) (.u false), .val 32 (.bool) (.u false)]
noncomputable def spec_l23Form_j3 (e1_2 : TEvent) (t2_2 : TEvent) (x3_2 : TEvent) (t32 : Bool) : Option (TEvent × Unit) :=
  bif t32 then
    some ((x3_2.1, (e1_2.2.1, (e1_2.2.2.1, x3_2.2.2.2))), ())
  else
    some ((x3_2.1, (x3_2.2.1, (e1_2.2.2.1, x3_2.2.2.2))), ())
@[reducible] def spec_l23Form_j2_p : List PE := [.box 1 74 (tyEvent) (.u false), .box 2 74 (tyEvent) (.u false), .box 3 74 (tyEvent) (.u false), .val 8 (.int .i64) (.u false), .val 18 (.bool) (.u false)]
noncomputable def spec_l23Form_j2 (e1_1 : TEvent) (t2_1 : TEvent) (x3_1 : TEvent) (t8_1 : Int) (t18 : Bool) : Option (TEvent × Unit) :=
  bif t18 then
    some ((x3_1.1, (e1_1.2.1, (x3_1.2.2.1, (e1_1.2.2.2.1, x3_1.2.2.2.2)))), ())
  else
    bif t8_1 == (3 : Int) then
      some ((x3_1.1, (e1_1.2.1, x3_1.2.2)), ())
    else
      bif t8_1 == (4 : Int) then
        spec_l23Form_j3 e1_1 t2_1 x3_1 (t8_1 == (4 : Int))
      else
        bif t8_1 == (5 : Int) then
          spec_l23Form_j3 e1_1 t2_1 x3_1 (t8_1 == (5 : Int))
        else
          spec_l23Form_j3 e1_1 t2_1 x3_1 (t8_1 == (6 : Int))
@[reducible] def spec_l23Form_j1_p : List PE := [.box 1 74 (tyEvent) (.u false), .box 2 74 (tyEvent) (.u false), .box 3 74 (tyEvent) (.u false), .val 8 (.int .i64) (.u false), .val 12 (.bool) (.u false)]
noncomputable def spec_l23Form_j1 (e1 : TEvent) (t2 : TEvent) (x3 : TEvent) (t8 : Int) (t12 : Bool) : Option (TEvent × Unit) :=
  bif t12 then
    some ((x3.1, (x3.2.1, (x3.2.2.1, (e1.2.2.2.1, x3.2.2.2.2)))), ())
  else
    bif t8 == (2 : Int) then
      spec_l23Form_j2 e1 t2 x3 t8 (t8 == (2 : Int))
    else
      spec_l23Form_j2 e1 t2 x3 t8 (t8 == (7 : Int))
noncomputable def spec_l23Form (e0 : TEvent) : Option (TEvent × Unit) :=
  bif e0.1 == (1 : Int) then
    spec_l23Form_j1 e0 ((0 : Int), ((0 : Int), ((0 : Int), (([] : List UInt8), ())))) (e0.1, ((0 : Int), ((0 : Int), (([] : List UInt8), ())))) e0.1 (e0.1 == (1 : Int))
  else
    spec_l23Form_j1 e0 ((0 : Int), ((0 : Int), ((0 : Int), (([] : List UInt8), ())))) (e0.1, ((0 : Int), ((0 : Int), (([] : List UInt8), ())))) e0.1 (e0.1 == (11 : Int))
@[reducible] def spec_l23Letters_l1_p : List PE := [.val 0 (.str) (.u false), .val 3 (.int .i64) (.u false)]
def spec_l23Letters_l1_fuel (s0_1 : List UInt8) (i3 : Int) : Nat := ((s0_1.length : Int) - i3).toNat + 1
noncomputable def spec_l23Letters_l1 : Nat → List UInt8 → Int → Option (Bool × Unit)
  | 0, _, _ => none
  | N + 1, s0_1, i3 =>
    bif decide (i3 < (s0_1.length : Int)) then
      guardP (0 ≤ i3 ∧ i3 < s0_1.length) <|
      let t13 : Bool := decide (((s0_1.getD i3.toNat 0).toNat : Int) < (97 : Int))
      guardP ((t13 = false → (0 ≤ i3 ∧ i3 < s0_1.length))) <|
      bif t13 || (decide (((s0_1.getD i3.toNat 0).toNat : Int) > (122 : Int))) then
        some (false, ())
      else
        spec_l23Letters_l1 N s0_1 (IntKind.i64.wrap (i3 + (1 : Int)))
    else
      Option.bind (spec_l1In (s0_1.length : Int) (1 : Int) (40 : Int)) fun t22 =>
      some (t22.1, ())
noncomputable def spec_l23Letters (s0 : List UInt8) : Option (Bool × Unit) :=
  spec_l23Letters_l1 (spec_l23Letters_l1_fuel s0 (0 : Int)) s0 (0 : Int)
@[reducible] def spec_l23Printable_l1_p : List PE := [.val 0 (.str) (.u false), .val 3 (.int .i64) (.u false)]
def spec_l23Printable_l1_fuel (s0_1 : List UInt8) (i3 : Int) : Nat := ((s0_1.length : Int) - i3).toNat + 1
noncomputable def spec_l23Printable_l1 : Nat → List UInt8 → Int → Option (Bool × Unit)
  | 0, _, _ => none
  | N + 1, s0_1, i3 =>
    bif decide (i3 < (s0_1.length : Int)) then
      guardP (0 ≤ i3 ∧ i3 < s0_1.length) <|
      let t13 : Bool := decide (((s0_1.getD i3.toNat 0).toNat : Int) < (32 : Int))
      guardP ((t13 = false → (0 ≤ i3 ∧ i3 < s0_1.length))) <|
      bif t13 || (decide (((s0_1.getD i3.toNat 0).toNat : Int) > (126 : Int))) then
        some (false, ())
      else
        spec_l23Printable_l1 N s0_1 (IntKind.i64.wrap (i3 + (1 : Int)))
    else
      Option.bind (spec_l1In (s0_1.length : Int) (1 : Int) (40 : Int)) fun t22 =>
      some (t22.1, ())
noncomputable def spec_l23Printable (s0 : List UInt8) : Option (Bool × Unit) :=
  spec_l23Printable_l1 (spec_l23Printable_l1_fuel s0 (0 : Int)) s0 (0 : Int)
noncomputable def spec_l1Digit (k0 : Int) : Option (Int × Unit) :=
  guardP (0 ≤ k0 ∧ k0 < ([48, 49, 50, 51, 52, 53, 54, 55, 56, 57, 97, 98, 99, 100, 101, 102] : List UInt8).length) <|
  some (((([48, 49, 50, 51, 52, 53, 54, 55, 56, 57, 97, 98, 99, 100, 101, 102] : List UInt8).getD k0.toNat 0).toNat : Int), ())
@[reducible] def spec_l1FromHex_l1_p : List PE := [.val 0 (.int .u8) (.u false), .val 3 (.int .i64) (.u false)]
def spec_l1FromHex_l1_fuel (b0_1 : Int) (k3 : Int) : Nat := ((16 : Int) - k3).toNat + 1
noncomputable def spec_l1FromHex_l1 : Nat → Int → Int → Option (Int × Unit)
  | 0, _, _ => none
  | N + 1, b0_1, k3 =>
    bif decide (k3 < (16 : Int)) then
      Option.bind (spec_l1Digit k3) fun t9 =>
      bif t9.1 == b0_1 then
        some (k3, ())
      else
        spec_l1FromHex_l1 N b0_1 (IntKind.i64.wrap (k3 + (1 : Int)))
    else
      some ((-1 : Int), ())
noncomputable def spec_l1FromHex (b0 : Int) : Option (Int × Unit) :=
  spec_l1FromHex_l1 (spec_l1FromHex_l1_fuel b0 (0 : Int)) b0 (0 : Int)
@[reducible] def spec_DecodeHex_l1_p : List PE := [.val 0 (.str) (.u false), .val 4 (.slice 5 (.int .u8)) (.u true), .val 5 (.int .i64) (.u false)]
def spec_DecodeHex_l1_fuel (s0_1 : List UInt8) (out4 : List Int) (i5 : Int) : Nat := ((s0_1.length : Int) - i5).toNat + 1
noncomputable def spec_DecodeHex_l1 : Nat → List UInt8 → List Int → Int → Option (List UInt8 × Bool × Unit)
  | 0, _, _, _ => none
  | N + 1, s0_1, out4, i5 =>
    bif decide (i5 < (s0_1.length : Int)) then
      guardP (0 ≤ i5 ∧ i5 < s0_1.length) <|
      Option.bind (spec_l1FromHex ((s0_1.getD i5.toNat 0).toNat : Int)) fun t22 =>
      guardP (0 ≤ (IntKind.i64.wrap (i5 + (1 : Int))) ∧ (IntKind.i64.wrap (i5 + (1 : Int))) < s0_1.length) <|
      Option.bind (spec_l1FromHex ((s0_1.getD (IntKind.i64.wrap (i5 + (1 : Int))).toNat 0).toNat : Int)) fun t27 =>
      bif (decide (t22.1 < (0 : Int))) || (decide (t27.1 < (0 : Int))) then
        some (([] : List UInt8), false, ())
      else
        let t40 : List Int := [(IntKind.u8.wrap (IntKind.i64.wrap ((IntKind.i64.wrap ((16 : Int) * t22.1)) + t27.1)))]
        guardP (out4.length + t40.length ≤ capN) <|
        spec_DecodeHex_l1 N s0_1 (out4 ++ t40) (IntKind.i64.wrap (i5 + (2 : Int)))
    else
      some (bytesOf out4, true, ())
noncomputable def spec_DecodeHex (s0 : List UInt8) : Option (List UInt8 × Bool × Unit) :=
  guardP ((2 : Int) ≠ 0) <|
  bif (Int.tmod (s0.length : Int) (2 : Int)) == (1 : Int) then
    some (([] : List UInt8), false, ())
  else
    spec_DecodeHex_l1 (spec_DecodeHex_l1_fuel s0 ([] : List Int) (0 : Int)) s0 ([] : List Int) (0 : Int)
noncomputable def spec_IsEvent (e0 : TEvent) : Option (Bool × Unit) :=
  Option.bind (spec_EventWord e0.1) fun t7 =>
  Option.bind (bif (t7.1 == ([] : List UInt8)) then some (((0 : Int), ((0 : Int), ((0 : Int), (([] : List UInt8), ())))), ()) else (spec_l23Form e0)) fun t11 =>
  let t14 : Bool := (t7.1 == ([] : List UInt8)) || (!(eqV (tyEvent) t11.1 e0))
  Option.bind (bif t14 then some (false, ()) else (spec_l1In e0.2.1 (0 : Int) (999999 : Int))) fun t18 =>
  Option.bind (bif (t14 || (!t18.1)) then some (false, ()) else (spec_l1In e0.2.2.1 (0 : Int) (999999 : Int))) fun t24 =>
  bif (t14 || (!t18.1)) || (!t24.1) then
    some (false, ())
  else
    bif e0.1 == (1 : Int) then
      some ((e0.2.2.2.1 == ([98, 105, 100, 105] : List UInt8)) || (e0.2.2.2.1 == ([117, 110, 105] : List UInt8)), ())
    else
      bif e0.1 == (2 : Int) then
        Option.bind (spec_l23Letters e0.2.2.2.1) fun t43 =>
        some (t43.1, ())
      else
        bif e0.1 == (7 : Int) then
          Option.bind (spec_l23Printable e0.2.2.2.1) fun t48 =>
          some (t48.1, ())
        else
          bif e0.1 == (11 : Int) then
            Option.bind (spec_DecodeHex e0.2.2.2.1) fun t54 =>
            Option.bind (bif t54.2.1 then (spec_l1In (t54.1.length : Int) (1 : Int) (400 : Int)) else some (false, ())) fun t61 =>
            some (t54.2.1 && t61.1, ())
          else
            some (true, ())
@[reducible] def spec_FormatInt_j1_p : List PE := [.val 0 (.int .i64) (.u false), .val 3 (.str) (.u false), .val 4 (.bool) (.u false), .val 5 (.int .i64) (.u false)]
noncomputable def spec_FormatInt_j1 (K1 : (Int × List UInt8 × Bool × Unit) → Option (List UInt8 × Unit)) (n0_2 : Int) (out3_2 : List UInt8) (neg4_1 : Bool) (d5 : Int) : Option (List UInt8 × Unit) :=
  let t22 : List UInt8 := bytesOf ([(IntKind.u8.wrap (IntKind.i64.wrap ((48 : Int) + d5)))])
  guardP (t22.length + out3_2.length ≤ capS) <|
  guardP ((10 : Int) ≠ 0) <|
  K1 (IntKind.i64.wrap (Int.tdiv n0_2 (10 : Int)), t22 ++ out3_2, neg4_1, ())
@[reducible] def spec_FormatInt_l1_p : List PE := [.val 0 (.int .i64) (.u false), .val 3 (.str) (.u false), .val 4 (.bool) (.u false)]
def spec_FormatInt_l1_fuel (n0_1 : Int) (out3_1 : List UInt8) (neg4 : Bool) : Nat := 1048577
noncomputable def spec_FormatInt_l1 : Nat → Int → List UInt8 → Bool → Option (List UInt8 × Unit)
  | 0, _, _, _ => none
  | N + 1, n0_1, out3_1, neg4 =>
    bif n0_1 != (0 : Int) then
      guardP ((10 : Int) ≠ 0) <|
      bif decide ((Int.tmod n0_1 (10 : Int)) < (0 : Int)) then
        spec_FormatInt_j1 (fun v => spec_FormatInt_l1 N v.1 v.2.1 v.2.2.1) n0_1 out3_1 neg4 (IntKind.i64.wrap (0 - (Int.tmod n0_1 (10 : Int))))
      else
        spec_FormatInt_j1 (fun v => spec_FormatInt_l1 N v.1 v.2.1 v.2.2.1) n0_1 out3_1 neg4 (Int.tmod n0_1 (10 : Int))
    else
      bif neg4 then
        guardP (([45] : List UInt8).length + out3_1.length ≤ capS) <|
        some (([45] : List UInt8) ++ out3_1, ())
      else
        some (out3_1, ())
noncomputable def spec_FormatInt (n0 : Int) : Option (List UInt8 × Unit) :=
  bif n0 == (0 : Int) then
    some (([48] : List UInt8), ())
  else
    spec_FormatInt_l1 (spec_FormatInt_l1_fuel n0 ([] : List UInt8) (decide (n0 < (0 : Int)))) n0 ([] : List UInt8) (decide (n0 < (0 : Int)))
@[reducible] def spec_FormatEvent_j3_p : List PE := [.box 1 74 (tyEvent) (.u false), .val 3 (.str) (.u false), .val 41 (.bool) (.u false)]
noncomputable def spec_FormatEvent_j3 (e1_2 : TEvent) (s3_2 : List UInt8) (t41 : Bool) : Option (List UInt8 × Unit) :=
  bif t41 then
    guardP (s3_2.length + ([32] : List UInt8).length ≤ capS) <|
    Option.bind (spec_FormatInt e1_2.2.1) fun t49 =>
    guardP ((s3_2 ++ ([32] : List UInt8)).length + t49.1.length ≤ capS) <|
    guardP (((s3_2 ++ ([32] : List UInt8)) ++ t49.1).length + ([32] : List UInt8).length ≤ capS) <|
    let t51 : List UInt8 := ((s3_2 ++ ([32] : List UInt8)) ++ t49.1) ++ ([32] : List UInt8)
    Option.bind (spec_FormatInt e1_2.2.2.1) fun t54 =>
    guardP (t51.length + t54.1.length ≤ capS) <|
    some (t51 ++ t54.1, ())
  else
    guardP (s3_2.length + ([32] : List UInt8).length ≤ capS) <|
    Option.bind (spec_FormatInt e1_2.2.2.1) fun t60 =>
    guardP ((s3_2 ++ ([32] : List UInt8)).length + t60.1.length ≤ capS) <|
    some ((s3_2 ++ ([32] : List UInt8)) ++ t60.1, ())
@[reducible] def spec_FormatEvent_j2_p : List PE := [.box 1 74 (tyEvent) (.u false), .val 3 (.str) (.u false), .val 11 (.int .i64) (.u false), .val 20 (.bool) (.u false)]
noncomputable def spec_FormatEvent_j2 (e1_1 : TEvent) (s3_1 : List UInt8) (t11_1 : Int) (t20 : Bool) : Option (List UInt8 × Unit) :=
  bif t20 then
    guardP (s3_1.length + ([32] : List UInt8).length ≤ capS) <|
    Option.bind (spec_FormatInt e1_1.2.1) fun t27 =>
    guardP ((s3_1 ++ ([32] : List UInt8)).length + t27.1.length ≤ capS) <|
    guardP (((s3_1 ++ ([32] : List UInt8)) ++ t27.1).length + ([32] : List UInt8).length ≤ capS) <|
    let t29 : List UInt8 := ((s3_1 ++ ([32] : List UInt8)) ++ t27.1) ++ ([32] : List UInt8)
    guardP (t29.length + e1_1.2.2.2.1.length ≤ capS) <|
    some (t29 ++ e1_1.2.2.2.1, ())
  else
    bif t11_1 == (3 : Int) then
      guardP (s3_1.length + ([32] : List UInt8).length ≤ capS) <|
      Option.bind (spec_FormatInt e1_1.2.1) fun t39 =>
      guardP ((s3_1 ++ ([32] : List UInt8)).length + t39.1.length ≤ capS) <|
      some ((s3_1 ++ ([32] : List UInt8)) ++ t39.1, ())
    else
      bif t11_1 == (4 : Int) then
        spec_FormatEvent_j3 e1_1 s3_1 (t11_1 == (4 : Int))
      else
        bif t11_1 == (5 : Int) then
          spec_FormatEvent_j3 e1_1 s3_1 (t11_1 == (5 : Int))
        else
          spec_FormatEvent_j3 e1_1 s3_1 (t11_1 == (6 : Int))
@[reducible] def spec_FormatEvent_j1_p : List PE := [.box 1 74 (tyEvent) (.u false), .val 3 (.str) (.u false), .val 11 (.int .i64) (.u false), .val 12 (.bool) (.u false)]
noncomputable def spec_FormatEvent_j1 (e1 : TEvent) (s3 : List UInt8) (t11 : Int) (t12 : Bool) : Option (List UInt8 × Unit) :=
  bif t12 then
    guardP (s3.length + ([32] : List UInt8).length ≤ capS) <|
    guardP ((s3 ++ ([32] : List UInt8)).length + e1.2.2.2.1.length ≤ capS) <|
    some ((s3 ++ ([32] : List UInt8)) ++ e1.2.2.2.1, ())
  else
    bif t11 == (2 : Int) then
      spec_FormatEvent_j2 e1 s3 t11 (t11 == (2 : Int))
    else
      spec_FormatEvent_j2 e1 s3 t11 (t11 == (7 : Int))
noncomputable def spec_FormatEvent (e0 : TEvent) : Option (List UInt8 × Unit) :=
  Option.bind (spec_IsEvent e0) fun t5 =>
  bif !t5.1 then
    some (([] : List UInt8), ())
  else
    Option.bind (spec_EventWord e0.1) fun t9 =>
    bif e0.1 == (1 : Int) then
      spec_FormatEvent_j1 e0 t9.1 e0.1 (e0.1 == (1 : Int))
    else
      spec_FormatEvent_j1 e0 t9.1 e0.1 (e0.1 == (11 : Int))
@[reducible] def spec_EncodeEvents_l1_p : List PE := [.val 0 (.slice 74 (tyEvent)) (.u false), .val 3 (.str) (.u false), .val 4 (.int .i64) (.u false)]
def spec_EncodeEvents_l1_fuel (l0_1 : List TEvent) (s3_1 : List UInt8) (i4 : Int) : Nat := ((l0_1.length : Int) - i4).toNat + 1
noncomputable def spec_EncodeEvents_l1 : Nat → List TEvent → List UInt8 → Int → Option (List UInt8 × Unit)
  | 0, _, _, _ => none
  | N + 1, l0_1, s3_1, i4 =>
    bif decide (i4 < (l0_1.length : Int)) then
      guardP (0 ≤ i4 ∧ i4 < l0_1.length) <|
      Option.bind (spec_FormatEvent (l0_1.getD i4.toNat zEvent)) fun t16 =>
      bif t16.1 == ([] : List UInt8) then
        some (([] : List UInt8), ())
      else
        guardP (s3_1.length + t16.1.length ≤ capS) <|
        guardP ((s3_1 ++ t16.1).length + ([10] : List UInt8).length ≤ capS) <|
        spec_EncodeEvents_l1 N l0_1 ((s3_1 ++ t16.1) ++ ([10] : List UInt8)) (IntKind.i64.wrap (i4 + (1 : Int)))
    else
      some (s3_1, ())
noncomputable def spec_EncodeEvents (l0 : List TEvent) : Option (List UInt8 × Unit) :=
  spec_EncodeEvents_l1 (spec_EncodeEvents_l1_fuel l0 ([] : List UInt8) (0 : Int)) l0 ([] : List UInt8) (0 : Int)
@[reducible] def impl_uses_j3_p : List PE := [.val 14 (.bool) (.u false)]
noncomputable def impl_uses_j3 (t14 : Bool) : Option (Bool × Bool × Bool × Unit) :=
  bif t14 then
    some (true, true, false, ())
  else
    some (false, true, false, ())
@[reducible] def impl_uses_j2_p : List PE := [.val 5 (.int .i64) (.u false), .val 9 (.bool) (.u false)]
noncomputable def impl_uses_j2 (t5_1 : Int) (t9 : Bool) : Option (Bool × Bool × Bool × Unit) :=
  bif t9 then
    some (true, false, true, ())
  else
    bif t5_1 == (3 : Int) then
      some (true, false, false, ())
    else
      bif t5_1 == (4 : Int) then
        impl_uses_j3 (t5_1 == (4 : Int))
      else
        bif t5_1 == (5 : Int) then
          impl_uses_j3 (t5_1 == (5 : Int))
        else
          impl_uses_j3 (t5_1 == (6 : Int))
@[reducible] def impl_uses_j1_p : List PE := [.val 5 (.int .i64) (.u false), .val 6 (.bool) (.u false)]
noncomputable def impl_uses_j1 (t5 : Int) (t6 : Bool) : Option (Bool × Bool × Bool × Unit) :=
  bif t6 then
    some (false, false, true, ())
  else
    bif t5 == (2 : Int) then
      impl_uses_j2 t5 (t5 == (2 : Int))
    else
      impl_uses_j2 t5 (t5 == (7 : Int))
noncomputable def impl_uses (kind0 : Int) : Option (Bool × Bool × Bool × Unit) :=
  bif kind0 == (1 : Int) then
    impl_uses_j1 kind0 (kind0 == (1 : Int))
  else
    impl_uses_j1 kind0 (kind0 == (11 : Int))
def wordsL : List (List UInt8) := [[], [111, 112, 101, 110], [119, 114, 105, 116, 101], [102, 105, 110, 105, 115, 104], [114, 101, 97, 100], [114, 101, 115, 101, 116], [115, 116, 111, 112], [112, 114, 105, 111, 114, 105, 116, 121], [101, 109, 105, 116], [97, 99, 107], [108, 111, 115, 101], [112, 97, 121, 108, 111, 97, 100], [116, 105, 109, 101]]
def impl_EventWord (k : Int) : Option (List UInt8 × Unit) := some (bif decide (1 ≤ k) && decide (k ≤ 12) then wordsL.getD k.toNat [] else [], ())
noncomputable def impl_within (n0 : Int) (low1 : Int) (high2 : Int) : Option (Bool × Unit) :=
  some ((decide (low1 ≤ n0)) && (decide (n0 ≤ high2)), ())
@[reducible] def impl_areBytes_l1_p : List PE := [.val 0 (.str) (.u false), .val 1 (.int .u8) (.u false), .val 2 (.int .u8) (.u false), .val 7 (.int .i64) (.u false)]
def impl_areBytes_l1_fuel (s0_1 : List UInt8) (low1_1 : Int) (high2_1 : Int) (i7 : Int) : Nat := ((s0_1.length : Int) - i7).toNat + 1
noncomputable def impl_areBytes_l1 : Nat → List UInt8 → Int → Int → Int → Option (Bool × Unit)
  | 0, _, _, _, _ => none
  | N + 1, s0_1, low1_1, high2_1, i7 =>
    bif decide (i7 < (s0_1.length : Int)) then
      guardP (0 ≤ i7 ∧ i7 < s0_1.length) <|
      let t18 : Bool := decide (((s0_1.getD i7.toNat 0).toNat : Int) < low1_1)
      guardP ((t18 = false → (0 ≤ i7 ∧ i7 < s0_1.length))) <|
      bif t18 || (decide (((s0_1.getD i7.toNat 0).toNat : Int) > high2_1)) then
        some (false, ())
      else
        impl_areBytes_l1 N s0_1 low1_1 high2_1 (IntKind.i64.wrap (i7 + (1 : Int)))
    else
      Option.bind (impl_within (s0_1.length : Int) (1 : Int) (40 : Int)) fun t28 =>
      some (t28.1, ())
noncomputable def impl_areBytes (s0 : List UInt8) (low1 : Int) (high2 : Int) : Option (Bool × Unit) :=
  impl_areBytes_l1 (impl_areBytes_l1_fuel s0 low1 high2 (0 : Int)) s0 low1 high2 (0 : Int)
noncomputable def impl_hexValue (b0 : Int) : Option (Int × Unit) :=
  bif (decide ((48 : Int) ≤ b0)) && (decide (b0 ≤ (57 : Int))) then
    some (IntKind.i64.wrap (IntKind.u8.wrap (b0 - (48 : Int))), ())
  else
    bif (decide ((97 : Int) ≤ b0)) && (decide (b0 ≤ (102 : Int))) then
      some (IntKind.i64.wrap ((IntKind.i64.wrap (IntKind.u8.wrap (b0 - (97 : Int)))) + (10 : Int)), ())
    else
      some ((-1 : Int), ())
@[reducible] def impl_DecodeHex_l1_p : List PE := [.val 0 (.str) (.u false), .val 4 (.slice 5 (.int .u8)) (.u true), .val 5 (.int .i64) (.u false)]
def impl_DecodeHex_l1_fuel (s0_1 : List UInt8) (out4 : List Int) (i5 : Int) : Nat := ((s0_1.length : Int) - i5).toNat + 1
noncomputable def impl_DecodeHex_l1 : Nat → List UInt8 → List Int → Int → Option (List UInt8 × Bool × Unit)
  | 0, _, _, _ => none
  | N + 1, s0_1, out4, i5 =>
    bif decide (i5 < (s0_1.length : Int)) then
      guardP (0 ≤ i5 ∧ i5 < s0_1.length) <|
      guardP (0 ≤ (IntKind.i64.wrap (i5 + (1 : Int))) ∧ (IntKind.i64.wrap (i5 + (1 : Int))) < s0_1.length) <|
      Option.bind (impl_hexValue ((s0_1.getD i5.toNat 0).toNat : Int)) fun t22 =>
      Option.bind (impl_hexValue ((s0_1.getD (IntKind.i64.wrap (i5 + (1 : Int))).toNat 0).toNat : Int)) fun t27 =>
      bif (decide (t22.1 < (0 : Int))) || (decide (t27.1 < (0 : Int))) then
        some (([] : List UInt8), false, ())
      else
        let t40 : List Int := [(IntKind.u8.wrap (IntKind.i64.wrap ((IntKind.i64.wrap ((16 : Int) * t22.1)) + t27.1)))]
        guardP (out4.length + t40.length ≤ capN) <|
        impl_DecodeHex_l1 N s0_1 (out4 ++ t40) (IntKind.i64.wrap (i5 + (2 : Int)))
    else
      some (bytesOf out4, true, ())
noncomputable def impl_DecodeHex (s0 : List UInt8) : Option (List UInt8 × Bool × Unit) :=
  guardP ((2 : Int) ≠ 0) <|
  bif (Int.tmod (s0.length : Int) (2 : Int)) != (0 : Int) then
    some (([] : List UInt8), false, ())
  else
    impl_DecodeHex_l1 (impl_DecodeHex_l1_fuel s0 ([] : List Int) (0 : Int)) s0 ([] : List Int) (0 : Int)
noncomputable def impl_isText (e0 : TEvent) : Option (Bool × Unit) :=
  bif e0.1 == (1 : Int) then
    some ((e0.2.2.2.1 == ([98, 105, 100, 105] : List UInt8)) || (e0.2.2.2.1 == ([117, 110, 105] : List UInt8)), ())
  else
    bif e0.1 == (2 : Int) then
      Option.bind (impl_areBytes e0.2.2.2.1 (97 : Int) (122 : Int)) fun t21 =>
      some (t21.1, ())
    else
      bif e0.1 == (7 : Int) then
        Option.bind (impl_areBytes e0.2.2.2.1 (32 : Int) (126 : Int)) fun t26 =>
        some (t26.1, ())
      else
        bif e0.1 == (11 : Int) then
          Option.bind (impl_DecodeHex e0.2.2.2.1) fun t32 =>
          Option.bind (bif t32.2.1 then (impl_within (t32.1.length : Int) (1 : Int) (400 : Int)) else some (false, ())) fun t39 =>
          some (t32.2.1 && t39.1, ())
        else
          some (e0.2.2.2.1 == ([] : List UInt8), ())
noncomputable def impl_IsEvent (e0 : TEvent) : Option (Bool × Unit) :=
  Option.bind (impl_uses e0.1) fun t9 =>
  Option.bind (impl_EventWord e0.1) fun t15 =>
  Option.bind (bif (!(t15.1 == ([] : List UInt8))) then (impl_within e0.2.1 (0 : Int) (999999 : Int)) else some (false, ())) fun t20 =>
  let t21 : Bool := (!(t15.1 == ([] : List UInt8))) && t20.1
  Option.bind (bif t21 then (impl_within e0.2.2.1 (0 : Int) (999999 : Int)) else some (false, ())) fun t25 =>
  let t42 : Bool := ((t21 && t25.1) && (t9.1 || (e0.2.1 == (0 : Int)))) && (t9.2.1 || (e0.2.2.1 == (0 : Int)))
  Option.bind (bif t42 then (impl_isText e0) else some (false, ())) fun t45 =>
  some (t42 && t45.1, ())
noncomputable def strconv_Itoa (n : Int) : Option (List UInt8 × Unit) := guardP (-9223372036854775808 ≤ n ∧ n ≤ 9223372036854775807) (some (Go.Lib.itoa n, ()))
noncomputable def impl_FormatInt (n0 : Int) : Option (List UInt8 × Unit) :=
  Option.bind (strconv_Itoa n0) fun t4 =>
  some (t4.1, ())
@[reducible] def impl_FormatEvent_j2_p : List PE := [.box 1 74 (tyEvent) (.u false), .val 5 (.bool) (.u false), .val 6 (.str) (.u false)]
noncomputable def impl_FormatEvent_j2 (e1_1 : TEvent) (text5_1 : Bool) (out6_1 : List UInt8) : Option (List UInt8 × Unit) :=
  bif text5_1 then
    guardP (([32] : List UInt8).length + e1_1.2.2.2.1.length ≤ capS) <|
    guardP (out6_1.length + (([32] : List UInt8) ++ e1_1.2.2.2.1).length ≤ capS) <|
    some (out6_1 ++ (([32] : List UInt8) ++ e1_1.2.2.2.1), ())
  else
    some (out6_1, ())
@[reducible] def impl_FormatEvent_j1_p : List PE := [.box 1 74 (tyEvent) (.u false), .val 4 (.bool) (.u false), .val 5 (.bool) (.u false), .val 6 (.str) (.u false)]
noncomputable def impl_FormatEvent_j1 (e1 : TEvent) (n4 : Bool) (text5 : Bool) (out6 : List UInt8) : Option (List UInt8 × Unit) :=
  bif n4 then
    Option.bind (impl_FormatInt e1.2.2.1) fun t31 =>
    guardP (([32] : List UInt8).length + t31.1.length ≤ capS) <|
    guardP (out6.length + (([32] : List UInt8) ++ t31.1).length ≤ capS) <|
    impl_FormatEvent_j2 e1 text5 (out6 ++ (([32] : List UInt8) ++ t31.1))
  else
    impl_FormatEvent_j2 e1 text5 out6
noncomputable def impl_FormatEvent (e0 : TEvent) : Option (List UInt8 × Unit) :=
  Option.bind (impl_IsEvent e0) fun t8 =>
  bif !t8.1 then
    some (([] : List UInt8), ())
  else
    Option.bind (impl_uses e0.1) fun t13 =>
    Option.bind (impl_EventWord e0.1) fun t19 =>
    bif t13.1 then
      Option.bind (impl_FormatInt e0.2.1) fun t24 =>
      guardP (([32] : List UInt8).length + t24.1.length ≤ capS) <|
      guardP (t19.1.length + (([32] : List UInt8) ++ t24.1).length ≤ capS) <|
      impl_FormatEvent_j1 e0 t13.2.1 t13.2.2.1 (t19.1 ++ (([32] : List UInt8) ++ t24.1))
    else
      impl_FormatEvent_j1 e0 t13.2.1 t13.2.2.1 t19.1
@[reducible] def impl_EncodeEvents_l1_p : List PE := [.val 3 (.str) (.u false), .val 7 (.slice 74 (tyEvent)) (.u false), .val 8 (.int .i64) (.u false), .val 9 (.int .i64) (.u false)]
def impl_EncodeEvents_l1_fuel (out3_1 : List UInt8) (t7 : List TEvent) (t8_1 : Int) (t9 : Int) : Nat := (t8_1 - t9).toNat + 1
noncomputable def impl_EncodeEvents_l1 : Nat → List UInt8 → List TEvent → Int → Int → Option (List UInt8 × Unit)
  | 0, _, _, _, _ => none
  | N + 1, out3_1, t7, t8_1, t9 =>
    bif decide (t9 < t8_1) then
      guardP (0 ≤ t9 ∧ t9 < t7.length) <|
      Option.bind (impl_FormatEvent (t7.getD t9.toNat zEvent)) fun t14 =>
      bif t14.1 == ([] : List UInt8) then
        some (([] : List UInt8), ())
      else
        guardP (t14.1.length + ([10] : List UInt8).length ≤ capS) <|
        guardP (out3_1.length + (t14.1 ++ ([10] : List UInt8)).length ≤ capS) <|
        impl_EncodeEvents_l1 N (out3_1 ++ (t14.1 ++ ([10] : List UInt8))) t7 t8_1 (IntKind.i64.wrap (t9 + (1 : Int)))
    else
      some (out3_1, ())
noncomputable def impl_EncodeEvents (l0 : List TEvent) : Option (List UInt8 × Unit) :=
  impl_EncodeEvents_l1 (impl_EncodeEvents_l1_fuel ([] : List UInt8) l0 (l0.length : Int) (0 : Int)) ([] : List UInt8) l0 (l0.length : Int) (0 : Int)
noncomputable def laws_eqEvent (a0 : TEvent) (b1 : TEvent) : Option (Bool × Unit) :=
  bif a0.1 != b1.1 then
    some (false, ())
  else
    bif a0.2.1 != b1.2.1 then
      some (false, ())
    else
      bif a0.2.2.1 != b1.2.2.1 then
        some (false, ())
      else
        bif !(a0.2.2.2.1 == b1.2.2.2.1) then
          some (false, ())
        else
          some (true, ())
@[reducible] def laws_eqEventS_l1_p : List PE := [.val 0 (.slice 74 (tyEvent)) (.u false), .val 1 (.slice 74 (tyEvent)) (.u false), .val 5 (.int .i64) (.u false)]
def laws_eqEventS_l1_fuel (a0_1 : List TEvent) (b1_1 : List TEvent) (i5 : Int) : Nat := ((a0_1.length : Int) - i5).toNat + 1
noncomputable def laws_eqEventS_l1 : Nat → List TEvent → List TEvent → Int → Option (Bool × Unit)
  | 0, _, _, _ => none
  | N + 1, a0_1, b1_1, i5 =>
    bif decide (i5 < (a0_1.length : Int)) then
      guardP (0 ≤ i5 ∧ i5 < a0_1.length) <|
      guardP (0 ≤ i5 ∧ i5 < b1_1.length) <|
      Option.bind (laws_eqEvent (a0_1.getD i5.toNat zEvent) (b1_1.getD i5.toNat zEvent)) fun t25 =>
      bif !t25.1 then
        some (false, ())
      else
        laws_eqEventS_l1 N a0_1 b1_1 (IntKind.i64.wrap (i5 + (1 : Int)))
    else
      some (true, ())
noncomputable def laws_eqEventS (a0 : List TEvent) (b1 : List TEvent) : Option (Bool × Unit) :=
  bif (a0.length : Int) != (b1.length : Int) then
    some (false, ())
  else
    laws_eqEventS_l1 (laws_eqEventS_l1_fuel a0 b1 (0 : Int)) a0 b1 (0 : Int)
noncomputable def laws_FnExactEncodeEvents (aL0 : List TEvent) : Option (Bool × Unit) :=
  Option.bind (laws_szEventS aL0 (1048576 : Int)) fun t9 =>
  bif decide (t9.1 < (0 : Int)) then
    some (true, ())
  else
    Option.bind (laws_toEventS aL0) fun t13 =>
    Option.bind (spec_EncodeEvents t13.1) fun t14 =>
    Option.bind (laws_toEventS aL0) fun t16 =>
    Option.bind (impl_EncodeEvents t16.1) fun t18 =>
    bif !(t18.1 == t14.1) then
      some (false, ())
    else
      Option.bind (laws_toEventS aL0) fun t24 =>
      Option.bind (laws_eqEventS t16.1 t24.1) fun t25 =>
      bif !t25.1 then
        some (false, ())
      else
        some (true, ())
def tab : Tab := lookT [(3, .int .i64), (4, .bool), (5, .int .u8), (9, .str), (36, .slice 72 (tyEvent)), (39, .slice 74 (tyEvent)), (66, .slice 9 (.str)), (72, tyEvent), (74, tyEvent), (80, .slice 5 (.int .u8))]
theorem tok_3 : TOK Tryd.prog 3 (.int .i64) := ⟨by kernel_rfl, by kernel_rfl⟩
theorem tok_4 : TOK Tryd.prog 4 (.bool) := ⟨by kernel_rfl, by kernel_rfl⟩
theorem tok_5 : TOK Tryd.prog 5 (.int .u8) := ⟨by kernel_rfl, by kernel_rfl⟩
theorem tok_9 : TOK Tryd.prog 9 (.str) := ⟨by kernel_rfl, by kernel_rfl⟩
theorem tok_36 : TOK Tryd.prog 36 (.slice 72 (tyEvent)) := ⟨by kernel_rfl, by kernel_rfl⟩
theorem tok_39 : TOK Tryd.prog 39 (.slice 74 (tyEvent)) := ⟨by kernel_rfl, by kernel_rfl⟩
theorem tok_66 : TOK Tryd.prog 66 (.slice 9 (.str)) := ⟨by kernel_rfl, by kernel_rfl⟩
theorem tok_72 : TOK Tryd.prog 72 (tyEvent) := ⟨by kernel_rfl, by kernel_rfl⟩
theorem tok_74 : TOK Tryd.prog 74 (tyEvent) := ⟨by kernel_rfl, by kernel_rfl⟩
theorem tok_80 : TOK Tryd.prog 80 (.slice 5 (.int .u8)) := ⟨by kernel_rfl, by kernel_rfl⟩
theorem tab_ok : tab.ok Tryd.prog := (tab_cons tok_3 (tab_cons tok_4 (tab_cons tok_5 (tab_cons tok_9 (tab_cons tok_36 (tab_cons tok_39 (tab_cons tok_66 (tab_cons tok_72 (tab_cons tok_74 (tab_cons tok_80 tab_nil))))))))))
noncomputable abbrev glob : Glob := Glob.vars Tryd.prog [("loop.example/g01633/impl.eventWords", (wordsL.map fun z => Value.string ⟨⟨z⟩⟩).toArray), ("internal/strconv.uint64pow10", (Go.Lib.pow10Tab.map fun z => Value.int .u64 z).toArray)]
theorem eqo_74 : EqOK Tryd.prog 74 (tyEvent) := EqOK.of (by kernel_rfl) (by kernel_rfl) rfl (by decide)
def eqsL : List Nat := [74]
theorem eqs_ok : EqsL Tryd.prog tab eqsL := (eqs_cons eqo_74 rfl eqs_nil)
@[reducible] def cfg (Γ : Env) : Cfg := { τ := tab, eq := fun e => eqsL.any (Nat.beq e), Γ := Γ }
theorem cfg_ok {Γ : Env} (h : Γ.ok Tryd.prog glob) : (cfg Γ).ok Tryd.prog glob := ⟨tab_ok, eqs_ok, h, by kernel_rfl⟩
@[reducible] noncomputable def e_laws_szEvent : FnE := { f := 41, args := [tyEvent, .int .i64], res := [.int .i64], F := fun xs => laws_szEvent xs.1 xs.2.1 }
theorem ok_laws_szEvent : FnOK Tryd.prog glob e_laws_szEvent := by
  refine FnOK.of (e := e_laws_szEvent) (C := cfg []) (cfg_ok env_nil) Tryd.func41 (c := codeOf Tryd.f41) rfl Tryd.call41 (by decide)
    (.leaf) ?_ ?_
  · exact conds_leaf _ _
  · intro xs r h
    refine Eq.trans (Eq.symm ?_) h
    kernel_rfl
@[reducible] noncomputable def e_laws_szEventS : FnE := { f := 17, args := [.slice 72 (tyEvent), .int .i64], res := [.int .i64], F := fun xs => laws_szEventS xs.1 xs.2.1 }
theorem ok_laws_szEventS : FnOK Tryd.prog glob e_laws_szEventS := by
  refine FnOK.of (e := e_laws_szEventS) (C := cfg [e_laws_szEvent]) (cfg_ok (env_cons ok_laws_szEvent env_nil)) Tryd.func17 (c := codeOf Tryd.f17) rfl Tryd.call17 (by decide)
    ((.seq .leaf (.seq .leaf (.seq .leaf (.seq (.seq .leaf (.block (.loop laws_szEventS_l1_p (fun N v => laws_szEventS_l1 N v.1 v.2.1 v.2.2.1) (fun v => laws_szEventS_l1_fuel v.1 v.2.1 v.2.2.1) (fun K1 => .leaf)))) .leaf))))) ?_ ?_
  · exact ⟨conds_leaf _ _, ⟨conds_leaf _ _, ⟨conds_leaf _ _, ⟨⟨conds_leaf _ _, ⟨fun _ => rfl, fun N => ⟨(fun v => by kernel_rfl), conds_leaf _ _⟩⟩⟩, conds_leaf _ _⟩⟩⟩⟩
  · intro xs r h
    refine Eq.trans (Eq.symm ?_) h
    kernel_rfl
@[reducible] noncomputable def e_laws_toEvent : FnE := { f := 43, args := [tyEvent], res := [tyEvent], F := fun xs => laws_toEvent xs.1 }
theorem ok_laws_toEvent : FnOK Tryd.prog glob e_laws_toEvent := by
  refine FnOK.of (e := e_laws_toEvent) (C := cfg []) (cfg_ok env_nil) Tryd.func43 (c := codeOf Tryd.f43) rfl Tryd.call43 (by decide)
    (.leaf) ?_ ?_
  · exact conds_leaf _ _
  · intro xs r h
    refine Eq.trans (Eq.symm ?_) h
    kernel_rfl
@[reducible] noncomputable def e_laws_toEventS : FnE := { f := 19, args := [.slice 72 (tyEvent)], res := [.slice 74 (tyEvent)], F := fun xs => laws_toEventS xs.1 }
theorem ok_laws_toEventS : FnOK Tryd.prog glob e_laws_toEventS := by
  refine FnOK.of (e := e_laws_toEventS) (C := cfg [e_laws_toEvent]) (cfg_ok (env_cons ok_laws_toEvent env_nil)) Tryd.func19 (c := codeOf Tryd.f19) rfl Tryd.call19 (by decide)
    ((.seq .leaf (.seq .leaf (.seq (.seq .leaf (.block (.loop laws_toEventS_l1_p (fun N v => laws_toEventS_l1 N v.1 v.2.1 v.2.2.1) (fun v => laws_toEventS_l1_fuel v.1 v.2.1 v.2.2.1) (fun K1 => .leaf)))) .leaf)))) ?_ ?_
  · exact ⟨conds_leaf _ _, ⟨conds_leaf _ _, ⟨⟨conds_leaf _ _, ⟨fun _ => rfl, fun N => ⟨(fun v => by kernel_rfl), conds_leaf _ _⟩⟩⟩, conds_leaf _ _⟩⟩⟩
  · intro xs r h
    refine Eq.trans (Eq.symm ?_) h
    kernel_rfl
@[reducible] noncomputable def e_spec_l1In : FnE := { f := 57, args := [.int .i64, .int .i64, .int .i64], res := [.bool], F := fun xs => spec_l1In xs.1 xs.2.1 xs.2.2.1 }
theorem ok_spec_l1In : FnOK Tryd.prog glob e_spec_l1In := by
  refine FnOK.of (e := e_spec_l1In) (C := cfg []) (cfg_ok env_nil) Tryd.func57 (c := codeOf Tryd.f57) rfl Tryd.call57 (by decide)
    (.leaf) ?_ ?_
  · exact conds_leaf _ _
  · intro xs r h
    refine Eq.trans (Eq.symm ?_) h
    kernel_rfl
@[reducible] noncomputable def e_spec_EventWord : FnE := { f := 63, args := [.int .i64], res := [.str], F := fun xs => spec_EventWord xs.1 }
theorem ok_spec_EventWord : FnOK Tryd.prog glob e_spec_EventWord := by
  refine FnOK.of (e := e_spec_EventWord) (C := cfg [e_spec_l1In]) (cfg_ok (env_cons ok_spec_l1In env_nil)) Tryd.func63 (c := codeOf Tryd.f63) rfl Tryd.call63 (by decide)
    (.leaf) ?_ ?_
  · exact conds_leaf _ _
  · intro xs r h
    refine Eq.trans (Eq.symm ?_) h
    kernel_rfl
@[reducible] noncomputable def e_spec_l23Form : FnE := { f := 75, args := [tyEvent], res := [tyEvent], F := fun xs => spec_l23Form xs.1 }
theorem ok_spec_l23Form : FnOK Tryd.prog glob e_spec_l23Form := by
  refine FnOK.of (e := e_spec_l23Form) (C := cfg []) (cfg_ok env_nil) Tryd.func75 (c := codeOf Tryd.f75) rfl Tryd.call75 (by decide)
    ((.seq .leaf (.seq .leaf (.seq (.seq .leaf (.block (.join spec_l23Form_j1_p (fun v => spec_l23Form_j1 v.1 v.2.1 v.2.2.1 v.2.2.2.1 v.2.2.2.2.1) .leaf (.cond .leaf (.join spec_l23Form_j2_p (fun v => spec_l23Form_j2 v.1 v.2.1 v.2.2.1 v.2.2.2.1 v.2.2.2.2.1) .leaf (.cond .leaf (.seq .leaf (.cond .leaf (.join spec_l23Form_j3_p (fun v => spec_l23Form_j3 v.1 v.2.1 v.2.2.1 v.2.2.2.1) .leaf .leaf))))))))) .leaf)))) ?_ ?_
  · exact ⟨conds_leaf _ _, ⟨conds_leaf _ _, ⟨⟨conds_leaf _ _, ⟨conds_leaf _ _, (fun v => by kernel_rfl), ⟨conds_leaf _ _, ⟨conds_leaf _ _, (fun v => by kernel_rfl), ⟨conds_leaf _ _, ⟨conds_leaf _ _, ⟨conds_leaf _ _, ⟨conds_leaf _ _, (fun v => by kernel_rfl), conds_leaf _ _⟩⟩⟩⟩⟩⟩⟩⟩, conds_leaf _ _⟩⟩⟩
  · intro xs r h
    refine Eq.trans (Eq.symm ?_) h
    kernel_rfl
@[reducible] noncomputable def e_spec_l23Letters : FnE := { f := 76, args := [.str], res := [.bool], F := fun xs => spec_l23Letters xs.1 }
theorem ok_spec_l23Letters : FnOK Tryd.prog glob e_spec_l23Letters := by
  refine FnOK.of (e := e_spec_l23Letters) (C := cfg [e_spec_l1In]) (cfg_ok (env_cons ok_spec_l1In env_nil)) Tryd.func76 (c := codeOf Tryd.f76) rfl Tryd.call76 (by decide)
    ((.seq .leaf (.seq (.seq .leaf (.block (.loop spec_l23Letters_l1_p (fun N v => spec_l23Letters_l1 N v.1 v.2.1) (fun v => spec_l23Letters_l1_fuel v.1 v.2.1) (fun K1 => .leaf)))) .leaf))) ?_ ?_
  · exact ⟨conds_leaf _ _, ⟨⟨conds_leaf _ _, ⟨fun _ => rfl, fun N => ⟨(fun v => by kernel_rfl), conds_leaf _ _⟩⟩⟩, conds_leaf _ _⟩⟩
  · intro xs r h
    refine Eq.trans (Eq.symm ?_) h
    kernel_rfl
@[reducible] noncomputable def e_spec_l23Printable : FnE := { f := 77, args := [.str], res := [.bool], F := fun xs => spec_l23Printable xs.1 }
theorem ok_spec_l23Printable : FnOK Tryd.prog glob e_spec_l23Printable := by
  refine FnOK.of (e := e_spec_l23Printable) (C := cfg [e_spec_l1In]) (cfg_ok (env_cons ok_spec_l1In env_nil)) Tryd.func77 (c := codeOf Tryd.f77) rfl Tryd.call77 (by decide)
    ((.seq .leaf (.seq (.seq .leaf (.block (.loop spec_l23Printable_l1_p (fun N v => spec_l23Printable_l1 N v.1 v.2.1) (fun v => spec_l23Printable_l1_fuel v.1 v.2.1) (fun K1 => .leaf)))) .leaf))) ?_ ?_
  · exact ⟨conds_leaf _ _, ⟨⟨conds_leaf _ _, ⟨fun _ => rfl, fun N => ⟨(fun v => by kernel_rfl), conds_leaf _ _⟩⟩⟩, conds_leaf _ _⟩⟩
  · intro xs r h
    refine Eq.trans (Eq.symm ?_) h
    kernel_rfl
@[reducible] noncomputable def e_spec_l1Digit : FnE := { f := 69, args := [.int .i64], res := [.int .u8], F := fun xs => spec_l1Digit xs.1 }
theorem ok_spec_l1Digit : FnOK Tryd.prog glob e_spec_l1Digit := by
  refine FnOK.of (e := e_spec_l1Digit) (C := cfg []) (cfg_ok env_nil) Tryd.func69 (c := codeOf Tryd.f69) rfl Tryd.call69 (by decide)
    (.leaf) ?_ ?_
  · exact conds_leaf _ _
  · intro xs r h
    refine Eq.trans (Eq.symm ?_) h
    kernel_rfl
@[reducible] noncomputable def e_spec_l1FromHex : FnE := { f := 84, args := [.int .u8], res := [.int .i64], F := fun xs => spec_l1FromHex xs.1 }
theorem ok_spec_l1FromHex : FnOK Tryd.prog glob e_spec_l1FromHex := by
  refine FnOK.of (e := e_spec_l1FromHex) (C := cfg [e_spec_l1Digit]) (cfg_ok (env_cons ok_spec_l1Digit env_nil)) Tryd.func84 (c := codeOf Tryd.f84) rfl Tryd.call84 (by decide)
    ((.seq .leaf (.seq (.seq .leaf (.block (.loop spec_l1FromHex_l1_p (fun N v => spec_l1FromHex_l1 N v.1 v.2.1) (fun v => spec_l1FromHex_l1_fuel v.1 v.2.1) (fun K1 => .leaf)))) .leaf))) ?_ ?_
  · exact ⟨conds_leaf _ _, ⟨⟨conds_leaf _ _, ⟨fun _ => rfl, fun N => ⟨(fun v => by kernel_rfl), conds_leaf _ _⟩⟩⟩, conds_leaf _ _⟩⟩
  · intro xs r h
    refine Eq.trans (Eq.symm ?_) h
    kernel_rfl
@[reducible] noncomputable def e_spec_DecodeHex : FnE := { f := 78, args := [.str], res := [.str, .bool], F := fun xs => spec_DecodeHex xs.1 }
theorem ok_spec_DecodeHex : FnOK Tryd.prog glob e_spec_DecodeHex := by
  refine FnOK.of (e := e_spec_DecodeHex) (C := cfg [e_spec_l1FromHex]) (cfg_ok (env_cons ok_spec_l1FromHex env_nil)) Tryd.func78 (c := codeOf Tryd.f78) rfl Tryd.call78 (by decide)
    ((.seq .leaf (.seq .leaf (.seq .leaf (.seq (.seq .leaf (.block (.loop spec_DecodeHex_l1_p (fun N v => spec_DecodeHex_l1 N v.1 v.2.1 v.2.2.1) (fun v => spec_DecodeHex_l1_fuel v.1 v.2.1 v.2.2.1) (fun K1 => .leaf)))) .leaf))))) ?_ ?_
  · exact ⟨conds_leaf _ _, ⟨conds_leaf _ _, ⟨conds_leaf _ _, ⟨⟨conds_leaf _ _, ⟨fun _ => rfl, fun N => ⟨(fun v => by kernel_rfl), conds_leaf _ _⟩⟩⟩, conds_leaf _ _⟩⟩⟩⟩
  · intro xs r h
    refine Eq.trans (Eq.symm ?_) h
    kernel_rfl
@[reducible] noncomputable def e_spec_IsEvent : FnE := { f := 62, args := [tyEvent], res := [.bool], F := fun xs => spec_IsEvent xs.1 }
theorem ok_spec_IsEvent : FnOK Tryd.prog glob e_spec_IsEvent := by
  refine FnOK.of (e := e_spec_IsEvent) (C := cfg [e_spec_EventWord, e_spec_l23Form, e_spec_l1In, e_spec_l23Letters, e_spec_l23Printable, e_spec_DecodeHex]) (cfg_ok (env_cons ok_spec_EventWord (env_cons ok_spec_l23Form (env_cons ok_spec_l1In (env_cons ok_spec_l23Letters (env_cons ok_spec_l23Printable (env_cons ok_spec_DecodeHex env_nil))))))) Tryd.func62 (c := codeOf Tryd.f62) rfl Tryd.call62 (by decide)
    (.leaf) ?_ ?_
  · exact conds_leaf _ _
  · intro xs r h
    refine Eq.trans (Eq.symm ?_) h
    kernel_rfl
@[reducible] noncomputable def e_spec_FormatInt : FnE := { f := 32, args := [.int .i64], res := [.str], F := fun xs => spec_FormatInt xs.1 }
theorem ok_spec_FormatInt : FnOK Tryd.prog glob e_spec_FormatInt := by
  refine FnOK.of (e := e_spec_FormatInt) (C := cfg []) (cfg_ok env_nil) Tryd.func32 (c := codeOf Tryd.f32) rfl Tryd.call32 (by decide)
    ((.seq .leaf (.seq .leaf (.seq .leaf (.seq .leaf (.seq (.block (.loop spec_FormatInt_l1_p (fun N v => spec_FormatInt_l1 N v.1 v.2.1 v.2.2.1) (fun v => spec_FormatInt_l1_fuel v.1 v.2.1 v.2.2.1) (fun K1 => (.seq .leaf (.block (.seq .leaf (.join spec_FormatInt_j1_p (fun v => spec_FormatInt_j1 K1 v.1 v.2.1 v.2.2.1 v.2.2.2.1) .leaf .leaf))))))) .leaf)))))) ?_ ?_
  · exact ⟨conds_leaf _ _, ⟨conds_leaf _ _, ⟨conds_leaf _ _, ⟨conds_leaf _ _, ⟨⟨fun _ => rfl, fun N => ⟨(fun v => by kernel_rfl), ⟨conds_leaf _ _, ⟨conds_leaf _ _, ⟨conds_leaf _ _, (fun v => by kernel_rfl), conds_leaf _ _⟩⟩⟩⟩⟩, conds_leaf _ _⟩⟩⟩⟩⟩
  · intro xs r h
    refine Eq.trans (Eq.symm ?_) h
    kernel_rfl
@[reducible] noncomputable def e_spec_FormatEvent : FnE := { f := 42, args := [tyEvent], res := [.str], F := fun xs => spec_FormatEvent xs.1 }
theorem ok_spec_FormatEvent : FnOK Tryd.prog glob e_spec_FormatEvent := by
  refine FnOK.of (e := e_spec_FormatEvent) (C := cfg [e_spec_IsEvent, e_spec_EventWord, e_spec_FormatInt]) (cfg_ok (env_cons ok_spec_IsEvent (env_cons ok_spec_EventWord (env_cons ok_spec_FormatInt env_nil)))) Tryd.func42 (c := codeOf Tryd.f42) rfl Tryd.call42 (by decide)
    ((.seq .leaf (.seq .leaf (.seq .leaf (.seq (.seq .leaf (.block (.join spec_FormatEvent_j1_p (fun v => spec_FormatEvent_j1 v.1 v.2.1 v.2.2.1 v.2.2.2.1) .leaf (.cond .leaf (.join spec_FormatEvent_j2_p (fun v => spec_FormatEvent_j2 v.1 v.2.1 v.2.2.1 v.2.2.2.1) .leaf (.cond .leaf (.seq .leaf (.cond .leaf (.join spec_FormatEvent_j3_p (fun v => spec_FormatEvent_j3 v.1 v.2.1 v.2.2.1) .leaf .leaf))))))))) .leaf))))) ?_ ?_
  · exact ⟨conds_leaf _ _, ⟨conds_leaf _ _, ⟨conds_leaf _ _, ⟨⟨conds_leaf _ _, ⟨conds_leaf _ _, (fun v => by kernel_rfl), ⟨conds_leaf _ _, ⟨conds_leaf _ _, (fun v => by kernel_rfl), ⟨conds_leaf _ _, ⟨conds_leaf _ _, ⟨conds_leaf _ _, ⟨conds_leaf _ _, (fun v => by kernel_rfl), conds_leaf _ _⟩⟩⟩⟩⟩⟩⟩⟩, conds_leaf _ _⟩⟩⟩⟩
  · intro xs r h
    refine Eq.trans (Eq.symm ?_) h
    kernel_rfl
@[reducible] noncomputable def e_spec_EncodeEvents : FnE := { f := 18, args := [.slice 74 (tyEvent)], res := [.str], F := fun xs => spec_EncodeEvents xs.1 }
theorem ok_spec_EncodeEvents : FnOK Tryd.prog glob e_spec_EncodeEvents := by
  refine FnOK.of (e := e_spec_EncodeEvents) (C := cfg [e_spec_FormatEvent]) (cfg_ok (env_cons ok_spec_FormatEvent env_nil)) Tryd.func18 (c := codeOf Tryd.f18) rfl Tryd.call18 (by decide)
    ((.seq .leaf (.seq .leaf (.seq (.seq .leaf (.block (.loop spec_EncodeEvents_l1_p (fun N v => spec_EncodeEvents_l1 N v.1 v.2.1 v.2.2.1) (fun v => spec_EncodeEvents_l1_fuel v.1 v.2.1 v.2.2.1) (fun K1 => .leaf)))) .leaf)))) ?_ ?_
  · exact ⟨conds_leaf _ _, ⟨conds_leaf _ _, ⟨⟨conds_leaf _ _, ⟨fun _ => rfl, fun N => ⟨(fun v => by kernel_rfl), conds_leaf _ _⟩⟩⟩, conds_leaf _ _⟩⟩⟩
  · intro xs r h
    refine Eq.trans (Eq.symm ?_) h
    kernel_rfl
@[reducible] noncomputable def e_impl_uses : FnE := { f := 65, args := [.int .i64], res := [.bool, .bool, .bool], F := fun xs => impl_uses xs.1 }
theorem ok_impl_uses : FnOK Tryd.prog glob e_impl_uses := by
  refine FnOK.of (e := e_impl_uses) (C := cfg []) (cfg_ok env_nil) Tryd.func65 (c := codeOf Tryd.f65) rfl Tryd.call65 (by decide)
    ((.seq .leaf (.seq (.seq .leaf (.block (.join impl_uses_j1_p (fun v => impl_uses_j1 v.1 v.2.1) .leaf (.cond .leaf (.join impl_uses_j2_p (fun v => impl_uses_j2 v.1 v.2.1) .leaf (.cond .leaf (.seq .leaf (.cond .leaf (.join impl_uses_j3_p (fun v => impl_uses_j3 v.1) .leaf .leaf))))))))) .leaf))) ?_ ?_
  · exact ⟨conds_leaf _ _, ⟨⟨conds_leaf _ _, ⟨conds_leaf _ _, (fun v => by kernel_rfl), ⟨conds_leaf _ _, ⟨conds_leaf _ _, (fun v => by kernel_rfl), ⟨conds_leaf _ _, ⟨conds_leaf _ _, ⟨conds_leaf _ _, ⟨conds_leaf _ _, (fun v => by kernel_rfl), conds_leaf _ _⟩⟩⟩⟩⟩⟩⟩⟩, conds_leaf _ _⟩⟩
  · intro xs r h
    refine Eq.trans (Eq.symm ?_) h
    kernel_rfl
@[reducible] noncomputable def e_impl_EventWord : FnE := { f := 66, args := [.int .i64], res := [.str], F := fun xs => impl_EventWord xs.1 }
open Go.RowKit in
theorem walk_impl_EventWord (k : Int) (w : World) (hw : ∀ i, i < 13 → w.cell? ⟨0, i, none⟩ = some (.string ⟨⟨wordsL.getD i []⟩⟩)) :
    Calls Tryd.prog 66 #[.int .i64 k] w fun e w' => e = .returned (.string ⟨⟨bif decide (1 ≤ k) && decide (k ≤ 12) then wordsL.getD k.toNat [] else []⟩⟩) ∧ Below w.heap.size w w' := by
  by_cases h1 : 1 ≤ k
  · by_cases h2 : k ≤ 12
    · have hc := hw k.toNat (by omega)
      have e : (bif decide (1 ≤ k) && decide (k ≤ 12) then wordsL.getD k.toNat [] else []) = wordsL.getD k.toNat [] := by simp [h1, h2]
      rw [e]
      generalize wordsL.getD k.toNat [] = t at *
      go_enter Tryd.func66, Tryd.ntmps66
      go_wp2
      go_ret
      exact ⟨rfl, Below.refl _ _⟩
    · have e : (bif decide (1 ≤ k) && decide (k ≤ 12) then wordsL.getD k.toNat [] else []) = [] := by simp [h2]
      rw [e]
      go_enter Tryd.func66, Tryd.ntmps66
      go_wp2
      go_ret
      exact ⟨rfl, Below.refl _ _⟩
  · have e : (bif decide (1 ≤ k) && decide (k ≤ 12) then wordsL.getD k.toNat [] else []) = [] := by simp [h1]
    rw [e]
    go_enter Tryd.func66, Tryd.ntmps66
    go_wp2
    go_ret
    exact ⟨rfl, Below.refl _ _⟩
theorem ok_impl_EventWord : FnOK Tryd.prog glob e_impl_EventWord where
  enters := Tryd.call66
  calls := fun w xs r vals hg hx hr => by
    obtain ⟨cs, us, rfl, h1, rfl⟩ := hx
    obtain ⟨rfl, _⟩ : cs = [.int .i64 xs.1] ∧ _ := h1
    simp only [impl_EventWord, Option.some.injEq] at hr
    subst hr
    have hv := hg _ (List.getElem_mem (n := 0) (by decide))
    exact (walk_impl_EventWord xs.1 w (fun j hj => strs_cell hv (by kernel_rfl) j hj)).mono fun e w' ⟨h2, h3⟩ => ⟨[_], [], h2, ⟨[_], [], [], [], rfl, rfl, ⟨rfl, rfl⟩, rfl, rfl⟩, by simp, h3⟩
@[reducible] noncomputable def e_impl_within : FnE := { f := 33, args := [.int .i64, .int .i64, .int .i64], res := [.bool], F := fun xs => impl_within xs.1 xs.2.1 xs.2.2.1 }
theorem ok_impl_within : FnOK Tryd.prog glob e_impl_within := by
  refine FnOK.of (e := e_impl_within) (C := cfg []) (cfg_ok env_nil) Tryd.func33 (c := codeOf Tryd.f33) rfl Tryd.call33 (by decide)
    (.leaf) ?_ ?_
  · exact conds_leaf _ _
  · intro xs r h
    refine Eq.trans (Eq.symm ?_) h
    kernel_rfl
@[reducible] noncomputable def e_impl_areBytes : FnE := { f := 85, args := [.str, .int .u8, .int .u8], res := [.bool], F := fun xs => impl_areBytes xs.1 xs.2.1 xs.2.2.1 }
theorem ok_impl_areBytes : FnOK Tryd.prog glob e_impl_areBytes := by
  refine FnOK.of (e := e_impl_areBytes) (C := cfg [e_impl_within]) (cfg_ok (env_cons ok_impl_within env_nil)) Tryd.func85 (c := codeOf Tryd.f85) rfl Tryd.call85 (by decide)
    ((.seq .leaf (.seq (.seq .leaf (.block (.loop impl_areBytes_l1_p (fun N v => impl_areBytes_l1 N v.1 v.2.1 v.2.2.1 v.2.2.2.1) (fun v => impl_areBytes_l1_fuel v.1 v.2.1 v.2.2.1 v.2.2.2.1) (fun K1 => .leaf)))) .leaf))) ?_ ?_
  · exact ⟨conds_leaf _ _, ⟨⟨conds_leaf _ _, ⟨fun _ => rfl, fun N => ⟨(fun v => by kernel_rfl), conds_leaf _ _⟩⟩⟩, conds_leaf _ _⟩⟩
  · intro xs r h
    refine Eq.trans (Eq.symm ?_) h
    kernel_rfl
@[reducible] noncomputable def e_impl_hexValue : FnE := { f := 91, args := [.int .u8], res := [.int .i64], F := fun xs => impl_hexValue xs.1 }
theorem ok_impl_hexValue : FnOK Tryd.prog glob e_impl_hexValue := by
  refine FnOK.of (e := e_impl_hexValue) (C := cfg []) (cfg_ok env_nil) Tryd.func91 (c := codeOf Tryd.f91) rfl Tryd.call91 (by decide)
    (.leaf) ?_ ?_
  · exact conds_leaf _ _
  · intro xs r h
    refine Eq.trans (Eq.symm ?_) h
    kernel_rfl
@[reducible] noncomputable def e_impl_DecodeHex : FnE := { f := 86, args := [.str], res := [.str, .bool], F := fun xs => impl_DecodeHex xs.1 }
theorem ok_impl_DecodeHex : FnOK Tryd.prog glob e_impl_DecodeHex := by
  refine FnOK.of (e := e_impl_DecodeHex) (C := cfg [e_impl_hexValue]) (cfg_ok (env_cons ok_impl_hexValue env_nil)) Tryd.func86 (c := codeOf Tryd.f86) rfl Tryd.call86 (by decide)
    ((.seq .leaf (.seq .leaf (.seq .leaf (.seq (.seq .leaf (.block (.loop impl_DecodeHex_l1_p (fun N v => impl_DecodeHex_l1 N v.1 v.2.1 v.2.2.1) (fun v => impl_DecodeHex_l1_fuel v.1 v.2.1 v.2.2.1) (fun K1 => .leaf)))) .leaf))))) ?_ ?_
  · exact ⟨conds_leaf _ _, ⟨conds_leaf _ _, ⟨conds_leaf _ _, ⟨⟨conds_leaf _ _, ⟨fun _ => rfl, fun N => ⟨(fun v => by kernel_rfl), conds_leaf _ _⟩⟩⟩, conds_leaf _ _⟩⟩⟩⟩
  · intro xs r h
    refine Eq.trans (Eq.symm ?_) h
    kernel_rfl
@[reducible] noncomputable def e_impl_isText : FnE := { f := 79, args := [tyEvent], res := [.bool], F := fun xs => impl_isText xs.1 }
theorem ok_impl_isText : FnOK Tryd.prog glob e_impl_isText := by
  refine FnOK.of (e := e_impl_isText) (C := cfg [e_impl_areBytes, e_impl_DecodeHex, e_impl_within]) (cfg_ok (env_cons ok_impl_areBytes (env_cons ok_impl_DecodeHex (env_cons ok_impl_within env_nil)))) Tryd.func79 (c := codeOf Tryd.f79) rfl Tryd.call79 (by decide)
    (.leaf) ?_ ?_
  · exact conds_leaf _ _
  · intro xs r h
    refine Eq.trans (Eq.symm ?_) h
    kernel_rfl
@[reducible] noncomputable def e_impl_IsEvent : FnE := { f := 64, args := [tyEvent], res := [.bool], F := fun xs => impl_IsEvent xs.1 }
theorem ok_impl_IsEvent : FnOK Tryd.prog glob e_impl_IsEvent := by
  refine FnOK.of (e := e_impl_IsEvent) (C := cfg [e_impl_uses, e_impl_EventWord, e_impl_within, e_impl_isText]) (cfg_ok (env_cons ok_impl_uses (env_cons ok_impl_EventWord (env_cons ok_impl_within (env_cons ok_impl_isText env_nil))))) Tryd.func64 (c := codeOf Tryd.f64) rfl Tryd.call64 (by decide)
    (.leaf) ?_ ?_
  · exact conds_leaf _ _
  · intro xs r h
    refine Eq.trans (Eq.symm ?_) h
    kernel_rfl
@[reducible] noncomputable def e_strconv_Itoa : FnE := { f := 58, args := [.int .i64], res := [.str], F := fun xs => strconv_Itoa xs.1 }
theorem ok_strconv_Itoa : FnOK Tryd.prog glob e_strconv_Itoa :=
  FnOK.intStr Tryd.call58 fun n w hg h0 h1 => (Tryd.strconv_Itoa n h0 h1 w (hg _ (List.getElem_mem (n := 1) (by decide)))).mono fun e w' ⟨he, k, os, hw⟩ => ⟨he, hw ▸ Go.Lib.below_grow _ _ (Nat.le_refl _) k os⟩
@[reducible] noncomputable def e_impl_FormatInt : FnE := { f := 34, args := [.int .i64], res := [.str], F := fun xs => impl_FormatInt xs.1 }
theorem ok_impl_FormatInt : FnOK Tryd.prog glob e_impl_FormatInt := by
  refine FnOK.of (e := e_impl_FormatInt) (C := cfg [e_strconv_Itoa]) (cfg_ok (env_cons ok_strconv_Itoa env_nil)) Tryd.func34 (c := codeOf Tryd.f34) rfl Tryd.call34 (by decide)
    (.leaf) ?_ ?_
  · exact conds_leaf _ _
  · intro xs r h
    refine Eq.trans (Eq.symm ?_) h
    kernel_rfl
@[reducible] noncomputable def e_impl_FormatEvent : FnE := { f := 44, args := [tyEvent], res := [.str], F := fun xs => impl_FormatEvent xs.1 }
theorem ok_impl_FormatEvent : FnOK Tryd.prog glob e_impl_FormatEvent := by
  refine FnOK.of (e := e_impl_FormatEvent) (C := cfg [e_impl_IsEvent, e_impl_uses, e_impl_EventWord, e_impl_FormatInt]) (cfg_ok (env_cons ok_impl_IsEvent (env_cons ok_impl_uses (env_cons ok_impl_EventWord (env_cons ok_impl_FormatInt env_nil))))) Tryd.func44 (c := codeOf Tryd.f44) rfl Tryd.call44 (by decide)
    ((.seq .leaf (.seq .leaf (.seq .leaf (.seq .leaf (.join impl_FormatEvent_j1_p (fun v => impl_FormatEvent_j1 v.1 v.2.1 v.2.2.1 v.2.2.2.1) .leaf (.join impl_FormatEvent_j2_p (fun v => impl_FormatEvent_j2 v.1 v.2.1 v.2.2.1) .leaf .leaf))))))) ?_ ?_
  · exact ⟨conds_leaf _ _, ⟨conds_leaf _ _, ⟨conds_leaf _ _, ⟨conds_leaf _ _, ⟨conds_leaf _ _, (fun v => by kernel_rfl), ⟨conds_leaf _ _, (fun v => by kernel_rfl), conds_leaf _ _⟩⟩⟩⟩⟩⟩
  · intro xs r h
    refine Eq.trans (Eq.symm ?_) h
    kernel_rfl
@[reducible] noncomputable def e_impl_EncodeEvents : FnE := { f := 20, args := [.slice 74 (tyEvent)], res := [.str], F := fun xs => impl_EncodeEvents xs.1 }
theorem ok_impl_EncodeEvents : FnOK Tryd.prog glob e_impl_EncodeEvents := by
  refine FnOK.of (e := e_impl_EncodeEvents) (C := cfg [e_impl_FormatEvent]) (cfg_ok (env_cons ok_impl_FormatEvent env_nil)) Tryd.func20 (c := codeOf Tryd.f20) rfl Tryd.call20 (by decide)
    ((.seq .leaf (.seq .leaf (.seq (.seq .leaf (.block (.loop impl_EncodeEvents_l1_p (fun N v => impl_EncodeEvents_l1 N v.1 v.2.1 v.2.2.1 v.2.2.2.1) (fun v => impl_EncodeEvents_l1_fuel v.1 v.2.1 v.2.2.1 v.2.2.2.1) (fun K1 => .leaf)))) .leaf)))) ?_ ?_
  · exact ⟨conds_leaf _ _, ⟨conds_leaf _ _, ⟨⟨conds_leaf _ _, ⟨fun _ => rfl, fun N => ⟨(fun v => by kernel_rfl), conds_leaf _ _⟩⟩⟩, conds_leaf _ _⟩⟩⟩
  · intro xs r h
    refine Eq.trans (Eq.symm ?_) h
    kernel_rfl
@[reducible] noncomputable def e_laws_eqEvent : FnE := { f := 45, args := [tyEvent, tyEvent], res := [.bool], F := fun xs => laws_eqEvent xs.1 xs.2.1 }
theorem ok_laws_eqEvent : FnOK Tryd.prog glob e_laws_eqEvent := by
  refine FnOK.of (e := e_laws_eqEvent) (C := cfg []) (cfg_ok env_nil) Tryd.func45 (c := codeOf Tryd.f45) rfl Tryd.call45 (by decide)
    (.leaf) ?_ ?_
  · exact conds_leaf _ _
  · intro xs r h
    refine Eq.trans (Eq.symm ?_) h
    kernel_rfl
@[reducible] noncomputable def e_laws_eqEventS : FnE := { f := 21, args := [.slice 74 (tyEvent), .slice 74 (tyEvent)], res := [.bool], F := fun xs => laws_eqEventS xs.1 xs.2.1 }
theorem ok_laws_eqEventS : FnOK Tryd.prog glob e_laws_eqEventS := by
  refine FnOK.of (e := e_laws_eqEventS) (C := cfg [e_laws_eqEvent]) (cfg_ok (env_cons ok_laws_eqEvent env_nil)) Tryd.func21 (c := codeOf Tryd.f21) rfl Tryd.call21 (by decide)
    ((.seq .leaf (.seq .leaf (.seq (.seq .leaf (.block (.loop laws_eqEventS_l1_p (fun N v => laws_eqEventS_l1 N v.1 v.2.1 v.2.2.1) (fun v => laws_eqEventS_l1_fuel v.1 v.2.1 v.2.2.1) (fun K1 => .leaf)))) .leaf)))) ?_ ?_
  · exact ⟨conds_leaf _ _, ⟨conds_leaf _ _, ⟨⟨conds_leaf _ _, ⟨fun _ => rfl, fun N => ⟨(fun v => by kernel_rfl), conds_leaf _ _⟩⟩⟩, conds_leaf _ _⟩⟩⟩
  · intro xs r h
    refine Eq.trans (Eq.symm ?_) h
    kernel_rfl
@[reducible] noncomputable def e_laws_FnExactEncodeEvents : FnE := { f := 5, args := [.slice 72 (tyEvent)], res := [.bool], F := fun xs => laws_FnExactEncodeEvents xs.1 }
theorem ok_laws_FnExactEncodeEvents : FnOK Tryd.prog glob e_laws_FnExactEncodeEvents := by
  refine FnOK.of (e := e_laws_FnExactEncodeEvents) (C := cfg [e_laws_szEventS, e_laws_toEventS, e_spec_EncodeEvents, e_impl_EncodeEvents, e_laws_eqEventS]) (cfg_ok (env_cons ok_laws_szEventS (env_cons ok_laws_toEventS (env_cons ok_spec_EncodeEvents (env_cons ok_impl_EncodeEvents (env_cons ok_laws_eqEventS env_nil)))))) Tryd.func5 (c := codeOf Tryd.f5) rfl Tryd.call5 (by decide)
    (.leaf) ?_ ?_
  · exact conds_leaf _ _
  · intro xs r h
    refine Eq.trans (Eq.symm ?_) h
    kernel_rfl
end Go.Proofs.YtifcipnimblkpabDoor

/- FnExactDecodeEvents: what the functions that it reaches compute, as plain functions, and that they do so. No condition. -/
import Derived.Test.YtbcdobkgmgngmaaDoorRows
import Derived.Test.YtbcdobkgmgngmaaDoorAm5
import Derived.Test.YtbcdobkgmgngmaaDoorShelf
import Derived.Lib.AppendIntMem
namespace Go.Proofs.YtbcdobkgmgngmaaDoor
open Go.Am
set_option maxRecDepth 100000
set_option linter.unusedVariables false

@[reducible] def tyEvent : Ty := .pair (.int .i64) (.pair (.int .i64) (.pair (.int .i64) (.pair (.str) (.unit))))
@[reducible] def TEvent : Type := Int × Int × Int × List UInt8 × Unit
def zEvent : TEvent := ((0 : Int), ((0 : Int), ((0 : Int), (([] : List UInt8), ()))))
@[reducible] def spec_l13Cut_j1_p : List PE := [.val 0 (.str) (.u false), .val 1 (.int .u8) (.u false), .val 5 (.slice 9 (.str)) (.u true), .val 6 (.str) (.u false), .val 7 (.int .i64) (.u false)]
noncomputable def spec_l13Cut_j1 (K1 : (List UInt8 × Int × List (List UInt8) × List UInt8 × Int × Unit) → Option (List (List UInt8) × Unit)) (s0_2 : List UInt8) (by1_2 : Int) (out5_1 : List (List UInt8)) (part6_2 : List UInt8) (i7_1 : Int) : Option (List (List UInt8) × Unit) :=
  K1 (s0_2, by1_2, out5_1, part6_2, IntKind.i64.wrap (i7_1 + (1 : Int)), ())
@[reducible] def spec_l13Cut_l1_p : List PE := [.val 0 (.str) (.u false), .val 1 (.int .u8) (.u false), .val 5 (.slice 9 (.str)) (.u true), .val 6 (.str) (.u false), .val 7 (.int .i64) (.u false)]
def spec_l13Cut_l1_fuel (s0_1 : List UInt8) (by1_1 : Int) (out5 : List (List UInt8)) (part6_1 : List UInt8) (i7 : Int) : Nat := ((s0_1.length : Int) - i7).toNat + 1
noncomputable def spec_l13Cut_l1 : Nat → List UInt8 → Int → List (List UInt8) → List UInt8 → Int → Option (List (List UInt8) × Unit)
  | 0, _, _, _, _, _ => none
  | N + 1, s0_1, by1_1, out5, part6_1, i7 =>
    bif decide (i7 < (s0_1.length : Int)) then
      guardP (0 ≤ i7 ∧ i7 < s0_1.length) <|
      bif ((s0_1.getD i7.toNat 0).toNat : Int) == by1_1 then
        guardP (out5.length + ([part6_1]).length ≤ capN) <|
        spec_l13Cut_j1 (fun v => spec_l13Cut_l1 N v.1 v.2.1 v.2.2.1 v.2.2.2.1 v.2.2.2.2.1) s0_1 by1_1 (out5 ++ ([part6_1])) ([] : List UInt8) i7
      else
        guardP (0 ≤ i7 ∧ i7 ≤ (IntKind.i64.wrap (i7 + (1 : Int))) ∧ (IntKind.i64.wrap (i7 + (1 : Int))) ≤ s0_1.length) <|
        let t29 : List UInt8 := (s0_1.drop i7.toNat).take ((IntKind.i64.wrap (i7 + (1 : Int))).toNat - i7.toNat)
        guardP (part6_1.length + t29.length ≤ capS) <|
        spec_l13Cut_j1 (fun v => spec_l13Cut_l1 N v.1 v.2.1 v.2.2.1 v.2.2.2.1 v.2.2.2.2.1) s0_1 by1_1 out5 (part6_1 ++ t29) i7
    else
      guardP (out5.length + ([part6_1]).length ≤ capN) <|
      some (out5 ++ ([part6_1]), ())
noncomputable def spec_l13Cut (s0 : List UInt8) (by1 : Int) : Option (List (List UInt8) × Unit) :=
  spec_l13Cut_l1 (spec_l13Cut_l1_fuel s0 by1 ([] : List (List UInt8)) ([] : List UInt8) (0 : Int)) s0 by1 ([] : List (List UInt8)) ([] : List UInt8) (0 : Int)
@[reducible] def spec_l23Word_l1_p : List PE := [.val 0 (.str) (.u false), .val 4 (.int .i64) (.u false)]
def spec_l23Word_l1_fuel (s0_1 : List UInt8) (i4 : Int) : Nat := ((s0_1.length : Int) - i4).toNat + 1
noncomputable def spec_l23Word_l1 : Nat → List UInt8 → Int → Option (List UInt8 × List UInt8 × Unit)
  | 0, _, _ => none
  | N + 1, s0_1, i4 =>
    bif decide (i4 < (s0_1.length : Int)) then
      guardP (0 ≤ i4 ∧ i4 < s0_1.length) <|
      bif ((s0_1.getD i4.toNat 0).toNat : Int) == (32 : Int) then
        bothK (
          guardP (0 ≤ (0 : Int) ∧ (0 : Int) ≤ i4 ∧ i4 ≤ s0_1.length) <|
          let t17 : List UInt8 := (s0_1.drop (0 : Int).toNat).take (i4.toNat - (0 : Int).toNat)
          guardP (0 ≤ (IntKind.i64.wrap (i4 + (1 : Int))) ∧ (IntKind.i64.wrap (i4 + (1 : Int))) ≤ (s0_1.length : Int) ∧ (s0_1.length : Int) ≤ s0_1.length) <|
          let t21 : List UInt8 := (s0_1.drop (IntKind.i64.wrap (i4 + (1 : Int))).toNat).take ((s0_1.length : Int).toNat - (IntKind.i64.wrap (i4 + (1 : Int))).toNat)
          some (t17, t21, ())
        ) (
          guardP (0 ≤ (IntKind.i64.wrap (i4 + (1 : Int))) ∧ (IntKind.i64.wrap (i4 + (1 : Int))) ≤ (s0_1.length : Int) ∧ (s0_1.length : Int) ≤ s0_1.length) <|
          let t21 : List UInt8 := (s0_1.drop (IntKind.i64.wrap (i4 + (1 : Int))).toNat).take ((s0_1.length : Int).toNat - (IntKind.i64.wrap (i4 + (1 : Int))).toNat)
          guardP (0 ≤ (0 : Int) ∧ (0 : Int) ≤ i4 ∧ i4 ≤ s0_1.length) <|
          let t17 : List UInt8 := (s0_1.drop (0 : Int).toNat).take (i4.toNat - (0 : Int).toNat)
          some (t17, t21, ())
        )
      else
        spec_l23Word_l1 N s0_1 (IntKind.i64.wrap (i4 + (1 : Int)))
    else
      some (s0_1, ([] : List UInt8), ())
noncomputable def spec_l23Word (s0 : List UInt8) : Option (List UInt8 × List UInt8 × Unit) :=
  spec_l23Word_l1 (spec_l23Word_l1_fuel s0 (0 : Int)) s0 (0 : Int)
noncomputable def spec_l1In (x0 : Int) (low1 : Int) (high2 : Int) : Option (Bool × Unit) :=
  some ((decide (x0 ≥ low1)) && (decide (x0 ≤ high2)), ())
noncomputable def spec_EventWord (kind0 : Int) : Option (List UInt8 × Unit) :=
  Option.bind (spec_l1In kind0 (1 : Int) (12 : Int)) fun t4 =>
  bif !t4.1 then
    some (([] : List UInt8), ())
  else
    let t6 : List (List UInt8) := [([111, 112, 101, 110] : List UInt8), ([119, 114, 105, 116, 101] : List UInt8), ([102, 105, 110, 105, 115, 104] : List UInt8), ([114, 101, 97, 100] : List UInt8), ([114, 101, 115, 101, 116] : List UInt8), ([115, 116, 111, 112] : List UInt8), ([112, 114, 105, 111, 114, 105, 116, 121] : List UInt8), ([101, 109, 105, 116] : List UInt8), ([97, 99, 107] : List UInt8), ([108, 111, 115, 101] : List UInt8), ([112, 97, 121, 108, 111, 97, 100] : List UInt8), ([116, 105, 109, 101] : List UInt8)]
    guardP (0 ≤ (IntKind.i64.wrap (kind0 - (1 : Int))) ∧ (IntKind.i64.wrap (kind0 - (1 : Int))) < t6.length) <|
    some (t6.getD (IntKind.i64.wrap (kind0 - (1 : Int))).toNat ([] : List UInt8), ())
@[reducible] def spec_FormatInt_j1_p : List PE := [.val 0 (.int .i64) (.u false), .val 3 (.str) (.u false), .val 4 (.bool) (.u false), .val 5 (.int .i64) (.u false)]
noncomputable def spec_FormatInt_j1 (K1 : (Int × List UInt8 × Bool × Unit) → Option (List UInt8 × Unit)) (n0_2 : Int) (out3_2 : List UInt8) (neg4_1 : Bool) (d5 : Int) : Option (List UInt8 × Unit) :=
  let t22 : List UInt8 := bytesOf ([(IntKind.u8.wrap (IntKind.i64.wrap ((48 : Int) + d5)))])
  guardP (t22.length + out3_2.length ≤ capS) <|
  guardP ((10 : Int) ≠ 0) <|
  K1 (IntKind.i64.wrap (Int.tdiv n0_2 (10 : Int)), t22 ++ out3_2, neg4_1, ())
@[reducible] def spec_FormatInt_l1_p : List PE := [.val 0 (.int .i64) (.u false), .val 3 (.str) (.u false), .val 4 (.bool) (.u false)]
def spec_FormatInt_l1_fuel (n0_1 : Int) (out3_1 : List UInt8) (neg4 : Bool) : Nat := 1048577 + (n0_1.toNat - n0_1.toNat)
noncomputable def spec_FormatInt_l1 : Nat → Int → List UInt8 → Bool → Option (List UInt8 × Unit)
  | 0, _, _, _ => none
  | N + 1, n0_1, out3_1, neg4 =>
    bif n0_1 != (0 : Int) then
      guardP ((10 : Int) ≠ 0) <|
      bif decide ((Int.tmod n0_1 (10 : Int)) < (0 : Int)) then
        spec_FormatInt_j1 (fun v => spec_FormatInt_l1 N v.1 v.2.1 v.2.2.1) n0_1 out3_1 neg4 (IntKind.i64.wrap (0 - (Int.tmod n0_1 (10 : Int))))
      else
        spec_FormatInt_j1 (fun v => spec_FormatInt_l1 N v.1 v.2.1 v.2.2.1) n0_1 out3_1 neg4 (Int.tmod n0_1 (10 : Int))
    else
      bif neg4 then
        guardP (([45] : List UInt8).length + out3_1.length ≤ capS) <|
        some (([45] : List UInt8) ++ out3_1, ())
      else
        some (out3_1, ())
noncomputable def spec_FormatInt (n0 : Int) : Option (List UInt8 × Unit) :=
  bif n0 == (0 : Int) then
    some (([48] : List UInt8), ())
  else
    spec_FormatInt_l1 (spec_FormatInt_l1_fuel n0 ([] : List UInt8) (decide (n0 < (0 : Int)))) n0 ([] : List UInt8) (decide (n0 < (0 : Int)))
@[reducible] def spec_ParseInt_j1_p : List PE := [.val 0 (.str) (.u false), .val 4 (.int .i64) (.u false), .val 5 (.int .i64) (.u false), .val 6 (.int .i64) (.u false)]
noncomputable def spec_ParseInt_j1 (K1 : (List UInt8 × Int × Int × Int × Unit) → Option (Int × Bool × Unit)) (s0_2 : List UInt8) (n4_1 : Int) (k5_1 : Int) (i6_1 : Int) : Option (Int × Bool × Unit) :=
  K1 (s0_2, n4_1, k5_1, IntKind.i64.wrap (i6_1 + (1 : Int)), ())
@[reducible] def spec_ParseInt_j2_p : List PE := [.val 0 (.str) (.u false), .val 4 (.int .i64) (.u false), .val 5 (.int .i64) (.u false)]
noncomputable def spec_ParseInt_j2 (s0_3 : List UInt8) (n4_2 : Int) (k5_2 : Int) : Option (Int × Bool × Unit) :=
  let t53 : Bool := (decide (k5_2 > (9 : Int))) || (decide ((s0_3.length : Int) > (10 : Int)))
  Option.bind (bif t53 then some (([] : List UInt8), ()) else (spec_FormatInt n4_2)) fun t56 =>
  bif t53 || (!(t56.1 == s0_3)) then
    some ((0 : Int), false, ())
  else
    some (n4_2, true, ())
@[reducible] def spec_ParseInt_l1_p : List PE := [.val 0 (.str) (.u false), .val 4 (.int .i64) (.u false), .val 5 (.int .i64) (.u false), .val 6 (.int .i64) (.u false)]
def spec_ParseInt_l1_fuel (s0_1 : List UInt8) (n4 : Int) (k5 : Int) (i6 : Int) : Nat := ((s0_1.length : Int) - i6).toNat + 1
noncomputable def spec_ParseInt_l1 : Nat → List UInt8 → Int → Int → Int → Option (Int × Bool × Unit)
  | 0, _, _, _, _ => none
  | N + 1, s0_1, n4, k5, i6 =>
    bif (decide (i6 < (s0_1.length : Int))) && (decide (i6 < (11 : Int))) then
      guardP (0 ≤ i6 ∧ i6 < s0_1.length) <|
      let t20 : Bool := decide (((s0_1.getD i6.toNat 0).toNat : Int) ≥ (48 : Int))
      guardP ((t20 = true → (0 ≤ i6 ∧ i6 < s0_1.length))) <|
      bif t20 && (decide (((s0_1.getD i6.toNat 0).toNat : Int) ≤ (57 : Int))) then
        guardP (0 ≤ i6 ∧ i6 < s0_1.length) <|
        spec_ParseInt_j1 (fun v => spec_ParseInt_l1 N v.1 v.2.1 v.2.2.1 v.2.2.2.1) s0_1 (IntKind.i64.wrap ((IntKind.i64.wrap (n4 * (10 : Int))) + (IntKind.i64.wrap (IntKind.u8.wrap (((s0_1.getD i6.toNat 0).toNat : Int) - (48 : Int)))))) (IntKind.i64.wrap (k5 + (1 : Int))) i6
      else
        spec_ParseInt_j1 (fun v => spec_ParseInt_l1 N v.1 v.2.1 v.2.2.1 v.2.2.2.1) s0_1 n4 k5 i6
    else
      guardP (((decide ((s0_1.length : Int) > (0 : Int))) = true → (0 ≤ (0 : Int) ∧ (0 : Int) < s0_1.length))) <|
      bif (decide ((s0_1.length : Int) > (0 : Int))) && (((s0_1.getD (0 : Int).toNat 0).toNat : Int) == (45 : Int)) then
        spec_ParseInt_j2 s0_1 (IntKind.i64.wrap (0 - n4)) k5
      else
        spec_ParseInt_j2 s0_1 n4 k5
noncomputable def spec_ParseInt (s0 : List UInt8) : Option (Int × Bool × Unit) :=
  spec_ParseInt_l1 (spec_ParseInt_l1_fuel s0 (0 : Int) (0 : Int) (0 : Int)) s0 (0 : Int) (0 : Int) (0 : Int)
noncomputable def spec_l23Num (s0 : List UInt8) : Option (Int × Unit) :=
  Option.bind (spec_ParseInt s0) fun t7 =>
  bif !t7.2.1 then
    some ((-1 : Int), ())
  else
    some (t7.1, ())
@[reducible] def spec_l23Form_j3_p : List PE := [.box 1 36 (tyEvent) (.u false), .box 2 36 (tyEvent) (.u false), .box 3 36 (tyEvent) (.u false), .val 32 (.bool) (.u false)]
noncomputable def spec_l23Form_j3 (e1_2 : TEvent) (t2_2 : TEvent) (x3_2 : TEvent) (t32 : Bool) : Option (TEvent × Unit) :=
  bif t32 then
    some ((x3_2.1, (e1_2.2.1, (e1_2.2.2.1, x3_2.2.2.2))), ())
  else
    some ((x3_2.1, (x3_2.2.1, (e1_2.2.2.1, x3_2.2.2.2))), ())
@[reducible] def spec_l23Form_j2_p : List PE := [.box 1 36 (tyEvent) (.u false), .box 2 36 (tyEvent) (.u false), .box 3 36 (tyEvent) (.u false), .val 8 (.int .i64) (.u false), .val 18 (.bool) (.u false)]
noncomputable def spec_l23Form_j2 (e1_1 : TEvent) (t2_1 : TEvent) (x3_1 : TEvent) (t8_1 : Int) (t18 : Bool) : Option (TEvent × Unit) :=
  bif t18 then
    some ((x3_1.1, (e1_1.2.1, (x3_1.2.2.1, (e1_1.2.2.2.1, x3_1.2.2.2.2)))), ())
  else
    bif t8_1 == (3 : Int) then
      some ((x3_1.1, (e1_1.2.1, x3_1.2.2)), ())
    else
      bif t8_1 == (4 : Int) then
        spec_l23Form_j3 e1_1 t2_1 x3_1 (t8_1 == (4 : Int))
      else
        bif t8_1 == (5 : Int) then
          spec_l23Form_j3 e1_1 t2_1 x3_1 (t8_1 == (5 : Int))
        else
          spec_l23Form_j3 e1_1 t2_1 x3_1 (t8_1 == (6 : Int))
@[reducible] def spec_l23Form_j1_p : List PE := [.box 1 36 (tyEvent) (.u false), .box 2 36 (tyEvent) (.u false), .box 3 36 (tyEvent) (.u false), .val 8 (.int .i64) (.u false), .val 12 (.bool) (.u false)]
noncomputable def spec_l23Form_j1 (e1 : TEvent) (t2 : TEvent) (x3 : TEvent) (t8 : Int) (t12 : Bool) : Option (TEvent × Unit) :=
  bif t12 then
    some ((x3.1, (x3.2.1, (x3.2.2.1, (e1.2.2.2.1, x3.2.2.2.2)))), ())
  else
    bif t8 == (2 : Int) then
      spec_l23Form_j2 e1 t2 x3 t8 (t8 == (2 : Int))
    else
      spec_l23Form_j2 e1 t2 x3 t8 (t8 == (7 : Int))
noncomputable def spec_l23Form (e0 : TEvent) : Option (TEvent × Unit) :=
  bif e0.1 == (1 : Int) then
    spec_l23Form_j1 e0 ((0 : Int), ((0 : Int), ((0 : Int), (([] : List UInt8), ())))) (e0.1, ((0 : Int), ((0 : Int), (([] : List UInt8), ())))) e0.1 (e0.1 == (1 : Int))
  else
    spec_l23Form_j1 e0 ((0 : Int), ((0 : Int), ((0 : Int), (([] : List UInt8), ())))) (e0.1, ((0 : Int), ((0 : Int), (([] : List UInt8), ())))) e0.1 (e0.1 == (11 : Int))
@[reducible] def spec_l23Letters_l1_p : List PE := [.val 0 (.str) (.u false), .val 3 (.int .i64) (.u false)]
def spec_l23Letters_l1_fuel (s0_1 : List UInt8) (i3 : Int) : Nat := ((s0_1.length : Int) - i3).toNat + 1
noncomputable def spec_l23Letters_l1 : Nat → List UInt8 → Int → Option (Bool × Unit)
  | 0, _, _ => none
  | N + 1, s0_1, i3 =>
    bif decide (i3 < (s0_1.length : Int)) then
      guardP (0 ≤ i3 ∧ i3 < s0_1.length) <|
      let t13 : Bool := decide (((s0_1.getD i3.toNat 0).toNat : Int) < (97 : Int))
      guardP ((t13 = false → (0 ≤ i3 ∧ i3 < s0_1.length))) <|
      bif t13 || (decide (((s0_1.getD i3.toNat 0).toNat : Int) > (122 : Int))) then
        some (false, ())
      else
        spec_l23Letters_l1 N s0_1 (IntKind.i64.wrap (i3 + (1 : Int)))
    else
      Option.bind (spec_l1In (s0_1.length : Int) (1 : Int) (40 : Int)) fun t22 =>
      some (t22.1, ())
noncomputable def spec_l23Letters (s0 : List UInt8) : Option (Bool × Unit) :=
  spec_l23Letters_l1 (spec_l23Letters_l1_fuel s0 (0 : Int)) s0 (0 : Int)
@[reducible] def spec_l23Printable_l1_p : List PE := [.val 0 (.str) (.u false), .val 3 (.int .i64) (.u false)]
def spec_l23Printable_l1_fuel (s0_1 : List UInt8) (i3 : Int) : Nat := ((s0_1.length : Int) - i3).toNat + 1
noncomputable def spec_l23Printable_l1 : Nat → List UInt8 → Int → Option (Bool × Unit)
  | 0, _, _ => none
  | N + 1, s0_1, i3 =>
    bif decide (i3 < (s0_1.length : Int)) then
      guardP (0 ≤ i3 ∧ i3 < s0_1.length) <|
      let t13 : Bool := decide (((s0_1.getD i3.toNat 0).toNat : Int) < (32 : Int))
      guardP ((t13 = false → (0 ≤ i3 ∧ i3 < s0_1.length))) <|
      bif t13 || (decide (((s0_1.getD i3.toNat 0).toNat : Int) > (126 : Int))) then
        some (false, ())
      else
        spec_l23Printable_l1 N s0_1 (IntKind.i64.wrap (i3 + (1 : Int)))
    else
      Option.bind (spec_l1In (s0_1.length : Int) (1 : Int) (40 : Int)) fun t22 =>
      some (t22.1, ())
noncomputable def spec_l23Printable (s0 : List UInt8) : Option (Bool × Unit) :=
  spec_l23Printable_l1 (spec_l23Printable_l1_fuel s0 (0 : Int)) s0 (0 : Int)
noncomputable def spec_l1Digit (k0 : Int) : Option (Int × Unit) :=
  guardP (0 ≤ k0 ∧ k0 < ([48, 49, 50, 51, 52, 53, 54, 55, 56, 57, 97, 98, 99, 100, 101, 102] : List UInt8).length) <|
  some (((([48, 49, 50, 51, 52, 53, 54, 55, 56, 57, 97, 98, 99, 100, 101, 102] : List UInt8).getD k0.toNat 0).toNat : Int), ())
@[reducible] def spec_l1FromHex_l1_p : List PE := [.val 0 (.int .u8) (.u false), .val 3 (.int .i64) (.u false)]
def spec_l1FromHex_l1_fuel (b0_1 : Int) (k3 : Int) : Nat := ((16 : Int) - k3).toNat + 1
noncomputable def spec_l1FromHex_l1 : Nat → Int → Int → Option (Int × Unit)
  | 0, _, _ => none
  | N + 1, b0_1, k3 =>
    bif decide (k3 < (16 : Int)) then
      Option.bind (spec_l1Digit k3) fun t9 =>
      bif t9.1 == b0_1 then
        some (k3, ())
      else
        spec_l1FromHex_l1 N b0_1 (IntKind.i64.wrap (k3 + (1 : Int)))
    else
      some ((-1 : Int), ())
noncomputable def spec_l1FromHex (b0 : Int) : Option (Int × Unit) :=
  spec_l1FromHex_l1 (spec_l1FromHex_l1_fuel b0 (0 : Int)) b0 (0 : Int)
@[reducible] def spec_DecodeHex_l1_p : List PE := [.val 0 (.str) (.u false), .val 4 (.slice 5 (.int .u8)) (.u true), .val 5 (.int .i64) (.u false)]
def spec_DecodeHex_l1_fuel (s0_1 : List UInt8) (out4 : List Int) (i5 : Int) : Nat := ((s0_1.length : Int) - i5).toNat + 1
noncomputable def spec_DecodeHex_l1 : Nat → List UInt8 → List Int → Int → Option (List UInt8 × Bool × Unit)
  | 0, _, _, _ => none
  | N + 1, s0_1, out4, i5 =>
    bif decide (i5 < (s0_1.length : Int)) then
      guardP (0 ≤ i5 ∧ i5 < s0_1.length) <|
      Option.bind (spec_l1FromHex ((s0_1.getD i5.toNat 0).toNat : Int)) fun t22 =>
      guardP (0 ≤ (IntKind.i64.wrap (i5 + (1 : Int))) ∧ (IntKind.i64.wrap (i5 + (1 : Int))) < s0_1.length) <|
      Option.bind (spec_l1FromHex ((s0_1.getD (IntKind.i64.wrap (i5 + (1 : Int))).toNat 0).toNat : Int)) fun t27 =>
      bif (decide (t22.1 < (0 : Int))) || (decide (t27.1 < (0 : Int))) then
        some (([] : List UInt8), false, ())
      else
        let t40 : List Int := [(IntKind.u8.wrap (IntKind.i64.wrap ((IntKind.i64.wrap ((16 : Int) * t22.1)) + t27.1)))]
        guardP (out4.length + t40.length ≤ capN) <|
        spec_DecodeHex_l1 N s0_1 (out4 ++ t40) (IntKind.i64.wrap (i5 + (2 : Int)))
    else
      some (bytesOf out4, true, ())
noncomputable def spec_DecodeHex (s0 : List UInt8) : Option (List UInt8 × Bool × Unit) :=
  guardP ((2 : Int) ≠ 0) <|
  bif (Int.tmod (s0.length : Int) (2 : Int)) == (1 : Int) then
    some (([] : List UInt8), false, ())
  else
    spec_DecodeHex_l1 (spec_DecodeHex_l1_fuel s0 ([] : List Int) (0 : Int)) s0 ([] : List Int) (0 : Int)
noncomputable def spec_IsEvent (e0 : TEvent) : Option (Bool × Unit) :=
  Option.bind (spec_EventWord e0.1) fun t7 =>
  Option.bind (bif (t7.1 == ([] : List UInt8)) then some (((0 : Int), ((0 : Int), ((0 : Int), (([] : List UInt8), ())))), ()) else (spec_l23Form e0)) fun t11 =>
  let t14 : Bool := (t7.1 == ([] : List UInt8)) || (!(eqV (tyEvent) t11.1 e0))
  Option.bind (bif t14 then some (false, ()) else (spec_l1In e0.2.1 (0 : Int) (999999 : Int))) fun t18 =>
  Option.bind (bif (t14 || (!t18.1)) then some (false, ()) else (spec_l1In e0.2.2.1 (0 : Int) (999999 : Int))) fun t24 =>
  bif (t14 || (!t18.1)) || (!t24.1) then
    some (false, ())
  else
    bif e0.1 == (1 : Int) then
      some ((e0.2.2.2.1 == ([98, 105, 100, 105] : List UInt8)) || (e0.2.2.2.1 == ([117, 110, 105] : List UInt8)), ())
    else
      bif e0.1 == (2 : Int) then
        Option.bind (spec_l23Letters e0.2.2.2.1) fun t43 =>
        some (t43.1, ())
      else
        bif e0.1 == (7 : Int) then
          Option.bind (spec_l23Printable e0.2.2.2.1) fun t48 =>
          some (t48.1, ())
        else
          bif e0.1 == (11 : Int) then
            Option.bind (spec_DecodeHex e0.2.2.2.1) fun t54 =>
            Option.bind (bif t54.2.1 then (spec_l1In (t54.1.length : Int) (1 : Int) (400 : Int)) else some (false, ())) fun t61 =>
            some (t54.2.1 && t61.1, ())
          else
            some (true, ())
@[reducible] def spec_FormatEvent_j3_p : List PE := [.box 1 36 (tyEvent) (.u false), .val 3 (.str) (.u false), .val 41 (.bool) (.u false)]
noncomputable def spec_FormatEvent_j3 (e1_2 : TEvent) (s3_2 : List UInt8) (t41 : Bool) : Option (List UInt8 × Unit) :=
  bif t41 then
    guardP (s3_2.length + ([32] : List UInt8).length ≤ capS) <|
    Option.bind (spec_FormatInt e1_2.2.1) fun t49 =>
    guardP ((s3_2 ++ ([32] : List UInt8)).length + t49.1.length ≤ capS) <|
    guardP (((s3_2 ++ ([32] : List UInt8)) ++ t49.1).length + ([32] : List UInt8).length ≤ capS) <|
    let t51 : List UInt8 := ((s3_2 ++ ([32] : List UInt8)) ++ t49.1) ++ ([32] : List UInt8)
    Option.bind (spec_FormatInt e1_2.2.2.1) fun t54 =>
    guardP (t51.length + t54.1.length ≤ capS) <|
    some (t51 ++ t54.1, ())
  else
    guardP (s3_2.length + ([32] : List UInt8).length ≤ capS) <|
    Option.bind (spec_FormatInt e1_2.2.2.1) fun t60 =>
    guardP ((s3_2 ++ ([32] : List UInt8)).length + t60.1.length ≤ capS) <|
    some ((s3_2 ++ ([32] : List UInt8)) ++ t60.1, ())
@[reducible] def spec_FormatEvent_j2_p : List PE := [.box 1 36 (tyEvent) (.u false), .val 3 (.str) (.u false), .val 11 (.int .i64) (.u false), .val 20 (.bool) (.u false)]
noncomputable def spec_FormatEvent_j2 (e1_1 : TEvent) (s3_1 : List UInt8) (t11_1 : Int) (t20 : Bool) : Option (List UInt8 × Unit) :=
  bif t20 then
    guardP (s3_1.length + ([32] : List UInt8).length ≤ capS) <|
    Option.bind (spec_FormatInt e1_1.2.1) fun t27 =>
    guardP ((s3_1 ++ ([32] : List UInt8)).length + t27.1.length ≤ capS) <|
    guardP (((s3_1 ++ ([32] : List UInt8)) ++ t27.1).length + ([32] : List UInt8).length ≤ capS) <|
    let t29 : List UInt8 := ((s3_1 ++ ([32] : List UInt8)) ++ t27.1) ++ ([32] : List UInt8)
    guardP (t29.length + e1_1.2.2.2.1.length ≤ capS) <|
    some (t29 ++ e1_1.2.2.2.1, ())
  else
    bif t11_1 == (3 : Int) then
      guardP (s3_1.length + ([32] : List UInt8).length ≤ capS) <|
      Option.bind (spec_FormatInt e1_1.2.1) fun t39 =>
      guardP ((s3_1 ++ ([32] : List UInt8)).length + t39.1.length ≤ capS) <|
      some ((s3_1 ++ ([32] : List UInt8)) ++ t39.1, ())
    else
      bif t11_1 == (4 : Int) then
        spec_FormatEvent_j3 e1_1 s3_1 (t11_1 == (4 : Int))
      else
        bif t11_1 == (5 : Int) then
          spec_FormatEvent_j3 e1_1 s3_1 (t11_1 == (5 : Int))
        else
          spec_FormatEvent_j3 e1_1 s3_1 (t11_1 == (6 : Int))
@[reducible] def spec_FormatEvent_j1_p : List PE := [.box 1 36 (tyEvent) (.u false), .val 3 (.str) (.u false), .val 11 (.int .i64) (.u false), .val 12 (.bool) (.u false)]
noncomputable def spec_FormatEvent_j1 (e1 : TEvent) (s3 : List UInt8) (t11 : Int) (t12 : Bool) : Option (List UInt8 × Unit) :=
  bif t12 then
    guardP (s3.length + ([32] : List UInt8).length ≤ capS) <|
    guardP ((s3 ++ ([32] : List UInt8)).length + e1.2.2.2.1.length ≤ capS) <|
    some ((s3 ++ ([32] : List UInt8)) ++ e1.2.2.2.1, ())
  else
    bif t11 == (2 : Int) then
      spec_FormatEvent_j2 e1 s3 t11 (t11 == (2 : Int))
    else
      spec_FormatEvent_j2 e1 s3 t11 (t11 == (7 : Int))
noncomputable def spec_FormatEvent (e0 : TEvent) : Option (List UInt8 × Unit) :=
  Option.bind (spec_IsEvent e0) fun t5 =>
  bif !t5.1 then
    some (([] : List UInt8), ())
  else
    Option.bind (spec_EventWord e0.1) fun t9 =>
    bif e0.1 == (1 : Int) then
      spec_FormatEvent_j1 e0 t9.1 e0.1 (e0.1 == (1 : Int))
    else
      spec_FormatEvent_j1 e0 t9.1 e0.1 (e0.1 == (11 : Int))
@[reducible] def spec_ParseEvent_j1_p : List PE := [.val 0 (.str) (.u false), .box 2 36 (tyEvent) (.u false), .val 4 (.str) (.u false), .val 5 (.str) (.u false), .box 6 36 (tyEvent) (.u false), .val 7 (.int .i64) (.u false)]
noncomputable def spec_ParseEvent_j1 (K1 : (List UInt8 × TEvent × List UInt8 × List UInt8 × TEvent × Int × Unit) → Option (TEvent × Bool × Unit)) (line0_2 : List UInt8) (t2_1 : TEvent) (w4_1 : List UInt8) (rest5_1 : List UInt8) (e6_1 : TEvent) (k7_1 : Int) : Option (TEvent × Bool × Unit) :=
  K1 (line0_2, t2_1, w4_1, rest5_1, e6_1, IntKind.i64.wrap (k7_1 + (1 : Int)), ())
@[reducible] def spec_ParseEvent_j2_p : List PE := [.val 0 (.str) (.u false), .box 2 36 (tyEvent) (.u false), .box 6 36 (tyEvent) (.u false)]
noncomputable def spec_ParseEvent_j2 (line0_3 : List UInt8) (t2_2 : TEvent) (e6_2 : TEvent) : Option (TEvent × Bool × Unit) :=
  Option.bind (spec_FormatEvent e6_2) fun t65 =>
  bif (!(t65.1 == line0_3)) || (line0_3 == ([] : List UInt8)) then
    some (((0 : Int), ((0 : Int), ((0 : Int), (([] : List UInt8), ())))), false, ())
  else
    some (e6_2, true, ())
@[reducible] def spec_ParseEvent_j5_p : List PE := [.val 0 (.str) (.u false), .box 2 36 (tyEvent) (.u false), .val 5 (.str) (.u false), .box 6 36 (tyEvent) (.u false), .val 8 (.str) (.u false), .val 9 (.str) (.u false), .val 54 (.bool) (.u false)]
noncomputable def spec_ParseEvent_j5 (line0_6 : List UInt8) (t2_5 : TEvent) (rest5_4 : List UInt8) (e6_5 : TEvent) (a8_2 : List UInt8) (b9_2 : List UInt8) (t54 : Bool) : Option (TEvent × Bool × Unit) :=
  bif t54 then
    Option.bind (spec_l23Num a8_2) fun t59 =>
    Option.bind (spec_l23Num b9_2) fun t62 =>
    spec_ParseEvent_j2 line0_6 t2_5 (e6_5.1, (t59.1, (t62.1, e6_5.2.2.2)))
  else
    Option.bind (spec_l23Num rest5_4) fun t34 =>
    spec_ParseEvent_j2 line0_6 t2_5 (e6_5.1, (e6_5.2.1, (t34.1, e6_5.2.2.2)))
@[reducible] def spec_ParseEvent_j4_p : List PE := [.val 0 (.str) (.u false), .box 2 36 (tyEvent) (.u false), .val 5 (.str) (.u false), .box 6 36 (tyEvent) (.u false), .val 8 (.str) (.u false), .val 9 (.str) (.u false), .val 32 (.int .i64) (.u false), .val 41 (.bool) (.u false)]
noncomputable def spec_ParseEvent_j4 (line0_5 : List UInt8) (t2_4 : TEvent) (rest5_3 : List UInt8) (e6_4 : TEvent) (a8_1 : List UInt8) (b9_1 : List UInt8) (t32_1 : Int) (t41 : Bool) : Option (TEvent × Bool × Unit) :=
  bif t41 then
    Option.bind (spec_l23Num a8_1) fun t45 =>
    spec_ParseEvent_j2 line0_5 t2_4 (e6_4.1, (t45.1, (e6_4.2.2.1, (b9_1, e6_4.2.2.2.2))))
  else
    bif t32_1 == (3 : Int) then
      Option.bind (spec_l23Num rest5_3) fun t52 =>
      spec_ParseEvent_j2 line0_5 t2_4 (e6_4.1, (t52.1, e6_4.2.2))
    else
      bif t32_1 == (4 : Int) then
        spec_ParseEvent_j5 line0_5 t2_4 rest5_3 e6_4 a8_1 b9_1 (t32_1 == (4 : Int))
      else
        bif t32_1 == (5 : Int) then
          spec_ParseEvent_j5 line0_5 t2_4 rest5_3 e6_4 a8_1 b9_1 (t32_1 == (5 : Int))
        else
          spec_ParseEvent_j5 line0_5 t2_4 rest5_3 e6_4 a8_1 b9_1 (t32_1 == (6 : Int))
@[reducible] def spec_ParseEvent_j3_p : List PE := [.val 0 (.str) (.u false), .box 2 36 (tyEvent) (.u false), .val 5 (.str) (.u false), .box 6 36 (tyEvent) (.u false), .val 8 (.str) (.u false), .val 9 (.str) (.u false), .val 32 (.int .i64) (.u false), .val 36 (.bool) (.u false)]
noncomputable def spec_ParseEvent_j3 (line0_4 : List UInt8) (t2_3 : TEvent) (rest5_2 : List UInt8) (e6_3 : TEvent) (a8 : List UInt8) (b9 : List UInt8) (t32 : Int) (t36 : Bool) : Option (TEvent × Bool × Unit) :=
  bif t36 then
    spec_ParseEvent_j2 line0_4 t2_3 (e6_3.1, (e6_3.2.1, (e6_3.2.2.1, (rest5_2, e6_3.2.2.2.2))))
  else
    bif t32 == (2 : Int) then
      spec_ParseEvent_j4 line0_4 t2_3 rest5_2 e6_3 a8 b9 t32 (t32 == (2 : Int))
    else
      spec_ParseEvent_j4 line0_4 t2_3 rest5_2 e6_3 a8 b9 t32 (t32 == (7 : Int))
@[reducible] def spec_ParseEvent_l1_p : List PE := [.val 0 (.str) (.u false), .box 2 36 (tyEvent) (.u false), .val 4 (.str) (.u false), .val 5 (.str) (.u false), .box 6 36 (tyEvent) (.u false), .val 7 (.int .i64) (.u false)]
def spec_ParseEvent_l1_fuel (line0_1 : List UInt8) (t2 : TEvent) (w4 : List UInt8) (rest5 : List UInt8) (e6 : TEvent) (k7 : Int) : Nat := ((12 : Int) - k7).toNat + 2
noncomputable def spec_ParseEvent_l1 : Nat → List UInt8 → TEvent → List UInt8 → List UInt8 → TEvent → Int → Option (TEvent × Bool × Unit)
  | 0, _, _, _, _, _, _ => none
  | N + 1, line0_1, t2, w4, rest5, e6, k7 =>
    bif decide (k7 ≤ (12 : Int)) then
      Option.bind (spec_EventWord k7) fun t21 =>
      bif t21.1 == w4 then
        spec_ParseEvent_j1 (fun v => spec_ParseEvent_l1 N v.1 v.2.1 v.2.2.1 v.2.2.2.1 v.2.2.2.2.1 v.2.2.2.2.2.1) line0_1 t2 w4 rest5 (k7, e6.2) k7
      else
        spec_ParseEvent_j1 (fun v => spec_ParseEvent_l1 N v.1 v.2.1 v.2.2.1 v.2.2.2.1 v.2.2.2.2.1 v.2.2.2.2.2.1) line0_1 t2 w4 rest5 e6 k7
    else
      Option.bind (spec_l23Word rest5) fun t28 =>
      bif e6.1 == (1 : Int) then
        spec_ParseEvent_j3 line0_1 t2 rest5 e6 t28.1 t28.2.1 e6.1 (e6.1 == (1 : Int))
      else
        spec_ParseEvent_j3 line0_1 t2 rest5 e6 t28.1 t28.2.1 e6.1 (e6.1 == (11 : Int))
noncomputable def spec_ParseEvent (line0 : List UInt8) : Option (TEvent × Bool × Unit) :=
  Option.bind (spec_l23Word line0) fun t12 =>
  spec_ParseEvent_l1 (spec_ParseEvent_l1_fuel line0 ((0 : Int), ((0 : Int), ((0 : Int), (([] : List UInt8), ())))) t12.1 t12.2.1 ((0 : Int), ((0 : Int), ((0 : Int), (([] : List UInt8), ())))) (1 : Int)) line0 ((0 : Int), ((0 : Int), ((0 : Int), (([] : List UInt8), ())))) t12.1 t12.2.1 ((0 : Int), ((0 : Int), ((0 : Int), (([] : List UInt8), ())))) (1 : Int)
@[reducible] def spec_DecodeEvents_l1_p : List PE := [.val 4 (.slice 36 (tyEvent)) (.u true), .val 5 (.slice 9 (.str)) (.u true), .val 6 (.int .i64) (.u false)]
def spec_DecodeEvents_l1_fuel (out4 : List TEvent) (lines5 : List (List UInt8)) (i6 : Int) : Nat := ((lines5.length : Int) - (IntKind.i64.wrap (i6 + (1 : Int)))).toNat + 1
noncomputable def spec_DecodeEvents_l1 : Nat → List TEvent → List (List UInt8) → Int → Option (List TEvent × Bool × Unit)
  | 0, _, _, _ => none
  | N + 1, out4, lines5, i6 =>
    bif decide ((IntKind.i64.wrap (i6 + (1 : Int))) < (lines5.length : Int)) then
      guardP (0 ≤ i6 ∧ i6 < lines5.length) <|
      Option.bind (spec_ParseEvent (lines5.getD i6.toNat ([] : List UInt8))) fun t24 =>
      bif !t24.2.1 then
        some (([] : List TEvent), false, ())
      else
        guardP (out4.length + ([t24.1]).length ≤ capN) <|
        spec_DecodeEvents_l1 N (out4 ++ ([t24.1])) lines5 (IntKind.i64.wrap (i6 + (1 : Int)))
    else
      let t37 : Int := IntKind.i64.wrap ((lines5.length : Int) - (1 : Int))
      guardP (0 ≤ t37 ∧ t37 < lines5.length) <|
      bif !((lines5.getD t37.toNat ([] : List UInt8)) == ([] : List UInt8)) then
        some (([] : List TEvent), false, ())
      else
        some (out4, true, ())
noncomputable def spec_DecodeEvents (text0 : List UInt8) : Option (List TEvent × Bool × Unit) :=
  Option.bind (spec_l13Cut text0 (10 : Int)) fun t11 =>
  spec_DecodeEvents_l1 (spec_DecodeEvents_l1_fuel ([] : List TEvent) t11.1 (0 : Int)) ([] : List TEvent) t11.1 (0 : Int)
noncomputable def strings_Split (s p : List UInt8) : Option (List (List UInt8) × Unit) := guardP (s.length < 4294967281 ∧ 1 ≤ p.length) (some (Go.Lib.splitK p 0 (Go.Lib.count s p) s, ()))
noncomputable def strings_Cut (s p : List UInt8) : Option (List UInt8 × List UInt8 × Bool × Unit) := guardP (s.length < 4294967281) (some ((Go.Lib.cut s p).1, (Go.Lib.cut s p).2.1, (Go.Lib.cut s p).2.2, ()))
def wordsL : List (List UInt8) := [[], [111, 112, 101, 110], [119, 114, 105, 116, 101], [102, 105, 110, 105, 115, 104], [114, 101, 97, 100], [114, 101, 115, 101, 116], [115, 116, 111, 112], [112, 114, 105, 111, 114, 105, 116, 121], [101, 109, 105, 116], [97, 99, 107], [108, 111, 115, 101], [112, 97, 121, 108, 111, 97, 100], [116, 105, 109, 101]]
def impl_EventWord (k : Int) : Option (List UInt8 × Unit) := some (bif decide (1 ≤ k) && decide (k ≤ 12) then wordsL.getD k.toNat [] else [], ())
@[reducible] def impl_uses_j3_p : List PE := [.val 14 (.bool) (.u false)]
noncomputable def impl_uses_j3 (t14 : Bool) : Option (Bool × Bool × Bool × Unit) :=
  bif t14 then
    some (true, true, false, ())
  else
    some (false, true, false, ())
@[reducible] def impl_uses_j2_p : List PE := [.val 5 (.int .i64) (.u false), .val 9 (.bool) (.u false)]
noncomputable def impl_uses_j2 (t5_1 : Int) (t9 : Bool) : Option (Bool × Bool × Bool × Unit) :=
  bif t9 then
    some (true, false, true, ())
  else
    bif t5_1 == (3 : Int) then
      some (true, false, false, ())
    else
      bif t5_1 == (4 : Int) then
        impl_uses_j3 (t5_1 == (4 : Int))
      else
        bif t5_1 == (5 : Int) then
          impl_uses_j3 (t5_1 == (5 : Int))
        else
          impl_uses_j3 (t5_1 == (6 : Int))
@[reducible] def impl_uses_j1_p : List PE := [.val 5 (.int .i64) (.u false), .val 6 (.bool) (.u false)]
noncomputable def impl_uses_j1 (t5 : Int) (t6 : Bool) : Option (Bool × Bool × Bool × Unit) :=
  bif t6 then
    some (false, false, true, ())
  else
    bif t5 == (2 : Int) then
      impl_uses_j2 t5 (t5 == (2 : Int))
    else
      impl_uses_j2 t5 (t5 == (7 : Int))
noncomputable def impl_uses (kind0 : Int) : Option (Bool × Bool × Bool × Unit) :=
  bif kind0 == (1 : Int) then
    impl_uses_j1 kind0 (kind0 == (1 : Int))
  else
    impl_uses_j1 kind0 (kind0 == (11 : Int))
noncomputable def impl_within (n0 : Int) (low1 : Int) (high2 : Int) : Option (Bool × Unit) :=
  some ((decide (low1 ≤ n0)) && (decide (n0 ≤ high2)), ())
@[reducible] def impl_areBytes_l1_p : List PE := [.val 0 (.str) (.u false), .val 1 (.int .u8) (.u false), .val 2 (.int .u8) (.u false), .val 7 (.int .i64) (.u false)]
def impl_areBytes_l1_fuel (s0_1 : List UInt8) (low1_1 : Int) (high2_1 : Int) (i7 : Int) : Nat := ((s0_1.length : Int) - i7).toNat + 1
noncomputable def impl_areBytes_l1 : Nat → List UInt8 → Int → Int → Int → Option (Bool × Unit)
  | 0, _, _, _, _ => none
  | N + 1, s0_1, low1_1, high2_1, i7 =>
    bif decide (i7 < (s0_1.length : Int)) then
      guardP (0 ≤ i7 ∧ i7 < s0_1.length) <|
      let t18 : Bool := decide (((s0_1.getD i7.toNat 0).toNat : Int) < low1_1)
      guardP ((t18 = false → (0 ≤ i7 ∧ i7 < s0_1.length))) <|
      bif t18 || (decide (((s0_1.getD i7.toNat 0).toNat : Int) > high2_1)) then
        some (false, ())
      else
        impl_areBytes_l1 N s0_1 low1_1 high2_1 (IntKind.i64.wrap (i7 + (1 : Int)))
    else
      Option.bind (impl_within (s0_1.length : Int) (1 : Int) (40 : Int)) fun t28 =>
      some (t28.1, ())
noncomputable def impl_areBytes (s0 : List UInt8) (low1 : Int) (high2 : Int) : Option (Bool × Unit) :=
  impl_areBytes_l1 (impl_areBytes_l1_fuel s0 low1 high2 (0 : Int)) s0 low1 high2 (0 : Int)
noncomputable def impl_hexValue (b0 : Int) : Option (Int × Unit) :=
  bif (decide ((48 : Int) ≤ b0)) && (decide (b0 ≤ (57 : Int))) then
    some (IntKind.i64.wrap (IntKind.u8.wrap (b0 - (48 : Int))), ())
  else
    bif (decide ((97 : Int) ≤ b0)) && (decide (b0 ≤ (102 : Int))) then
      some (IntKind.i64.wrap ((IntKind.i64.wrap (IntKind.u8.wrap (b0 - (97 : Int)))) + (10 : Int)), ())
    else
      some ((-1 : Int), ())
@[reducible] def impl_DecodeHex_l1_p : List PE := [.val 0 (.str) (.u false), .val 4 (.slice 5 (.int .u8)) (.u true), .val 5 (.int .i64) (.u false)]
def impl_DecodeHex_l1_fuel (s0_1 : List UInt8) (out4 : List Int) (i5 : Int) : Nat := ((s0_1.length : Int) - i5).toNat + 1
noncomputable def impl_DecodeHex_l1 : Nat → List UInt8 → List Int → Int → Option (List UInt8 × Bool × Unit)
  | 0, _, _, _ => none
  | N + 1, s0_1, out4, i5 =>
    bif decide (i5 < (s0_1.length : Int)) then
      guardP (0 ≤ i5 ∧ i5 < s0_1.length) <|
      guardP (0 ≤ (IntKind.i64.wrap (i5 + (1 : Int))) ∧ (IntKind.i64.wrap (i5 + (1 : Int))) < s0_1.length) <|
      Option.bind (impl_hexValue ((s0_1.getD i5.toNat 0).toNat : Int)) fun t22 =>
      Option.bind (impl_hexValue ((s0_1.getD (IntKind.i64.wrap (i5 + (1 : Int))).toNat 0).toNat : Int)) fun t27 =>
      bif (decide (t22.1 < (0 : Int))) || (decide (t27.1 < (0 : Int))) then
        some (([] : List UInt8), false, ())
      else
        let t40 : List Int := [(IntKind.u8.wrap (IntKind.i64.wrap ((IntKind.i64.wrap ((16 : Int) * t22.1)) + t27.1)))]
        guardP (out4.length + t40.length ≤ capN) <|
        impl_DecodeHex_l1 N s0_1 (out4 ++ t40) (IntKind.i64.wrap (i5 + (2 : Int)))
    else
      some (bytesOf out4, true, ())
noncomputable def impl_DecodeHex (s0 : List UInt8) : Option (List UInt8 × Bool × Unit) :=
  guardP ((2 : Int) ≠ 0) <|
  bif (Int.tmod (s0.length : Int) (2 : Int)) != (0 : Int) then
    some (([] : List UInt8), false, ())
  else
    impl_DecodeHex_l1 (impl_DecodeHex_l1_fuel s0 ([] : List Int) (0 : Int)) s0 ([] : List Int) (0 : Int)
noncomputable def impl_isText (e0 : TEvent) : Option (Bool × Unit) :=
  bif e0.1 == (1 : Int) then
    some ((e0.2.2.2.1 == ([98, 105, 100, 105] : List UInt8)) || (e0.2.2.2.1 == ([117, 110, 105] : List UInt8)), ())
  else
    bif e0.1 == (2 : Int) then
      Option.bind (impl_areBytes e0.2.2.2.1 (97 : Int) (122 : Int)) fun t21 =>
      some (t21.1, ())
    else
      bif e0.1 == (7 : Int) then
        Option.bind (impl_areBytes e0.2.2.2.1 (32 : Int) (126 : Int)) fun t26 =>
        some (t26.1, ())
      else
        bif e0.1 == (11 : Int) then
          Option.bind (impl_DecodeHex e0.2.2.2.1) fun t32 =>
          Option.bind (bif t32.2.1 then (impl_within (t32.1.length : Int) (1 : Int) (400 : Int)) else some (false, ())) fun t39 =>
          some (t32.2.1 && t39.1, ())
        else
          some (e0.2.2.2.1 == ([] : List UInt8), ())
noncomputable def impl_IsEvent (e0 : TEvent) : Option (Bool × Unit) :=
  Option.bind (impl_uses e0.1) fun t9 =>
  Option.bind (impl_EventWord e0.1) fun t15 =>
  Option.bind (bif (!(t15.1 == ([] : List UInt8))) then (impl_within e0.2.1 (0 : Int) (999999 : Int)) else some (false, ())) fun t20 =>
  let t21 : Bool := (!(t15.1 == ([] : List UInt8))) && t20.1
  Option.bind (bif t21 then (impl_within e0.2.2.1 (0 : Int) (999999 : Int)) else some (false, ())) fun t25 =>
  let t42 : Bool := ((t21 && t25.1) && (t9.1 || (e0.2.1 == (0 : Int)))) && (t9.2.1 || (e0.2.2.1 == (0 : Int)))
  Option.bind (bif t42 then (impl_isText e0) else some (false, ())) fun t45 =>
  some (t42 && t45.1, ())
noncomputable def strconv_Itoa (n : Int) : Option (List UInt8 × Unit) := guardP (-9223372036854775808 ≤ n ∧ n ≤ 9223372036854775807) (some (Go.Lib.itoa n, ()))
noncomputable def impl_FormatInt (n0 : Int) : Option (List UInt8 × Unit) :=
  Option.bind (strconv_Itoa n0) fun t4 =>
  some (t4.1, ())
@[reducible] def impl_FormatEvent_j2_p : List PE := [.box 1 36 (tyEvent) (.u false), .val 5 (.bool) (.u false), .val 6 (.str) (.u false)]
noncomputable def impl_FormatEvent_j2 (e1_1 : TEvent) (text5_1 : Bool) (out6_1 : List UInt8) : Option (List UInt8 × Unit) :=
  bif text5_1 then
    guardP (([32] : List UInt8).length + e1_1.2.2.2.1.length ≤ capS) <|
    guardP (out6_1.length + (([32] : List UInt8) ++ e1_1.2.2.2.1).length ≤ capS) <|
    some (out6_1 ++ (([32] : List UInt8) ++ e1_1.2.2.2.1), ())
  else
    some (out6_1, ())
@[reducible] def impl_FormatEvent_j1_p : List PE := [.box 1 36 (tyEvent) (.u false), .val 4 (.bool) (.u false), .val 5 (.bool) (.u false), .val 6 (.str) (.u false)]
noncomputable def impl_FormatEvent_j1 (e1 : TEvent) (n4 : Bool) (text5 : Bool) (out6 : List UInt8) : Option (List UInt8 × Unit) :=
  bif n4 then
    Option.bind (impl_FormatInt e1.2.2.1) fun t31 =>
    guardP (([32] : List UInt8).length + t31.1.length ≤ capS) <|
    guardP (out6.length + (([32] : List UInt8) ++ t31.1).length ≤ capS) <|
    impl_FormatEvent_j2 e1 text5 (out6 ++ (([32] : List UInt8) ++ t31.1))
  else
    impl_FormatEvent_j2 e1 text5 out6
noncomputable def impl_FormatEvent (e0 : TEvent) : Option (List UInt8 × Unit) :=
  Option.bind (impl_IsEvent e0) fun t8 =>
  bif !t8.1 then
    some (([] : List UInt8), ())
  else
    Option.bind (impl_uses e0.1) fun t13 =>
    Option.bind (impl_EventWord e0.1) fun t19 =>
    bif t13.1 then
      Option.bind (impl_FormatInt e0.2.1) fun t24 =>
      guardP (([32] : List UInt8).length + t24.1.length ≤ capS) <|
      guardP (t19.1.length + (([32] : List UInt8) ++ t24.1).length ≤ capS) <|
      impl_FormatEvent_j1 e0 t13.2.1 t13.2.2.1 (t19.1 ++ (([32] : List UInt8) ++ t24.1))
    else
      impl_FormatEvent_j1 e0 t13.2.1 t13.2.2.1 t19.1
noncomputable def strconv_Atoi (s : List UInt8) : Option (Int × Bool × Unit) := guardP (s.length ≤ 18) (some ((Go.Lib.atoi s).getD 0, (Go.Lib.atoi s).isSome, ()))
noncomputable def impl_ParseInt (s0 : List UInt8) : Option (Int × Bool × Unit) :=
  bif decide ((s0.length : Int) > (10 : Int)) then
    some ((0 : Int), false, ())
  else
    Option.bind (strconv_Atoi s0) fun t11 =>
    Option.bind (bif (!t11.2.1) then some (([] : List UInt8), ()) else (strconv_Itoa t11.1)) fun t18 =>
    let t21 : Bool := (!t11.2.1) || (!(t18.1 == s0))
    Option.bind (bif t21 then some (false, ()) else (impl_within t11.1 (-999999999 : Int) (999999999 : Int))) fun t24 =>
    bif t21 || (!t24.1) then
      some ((0 : Int), false, ())
    else
      some (t11.1, true, ())
@[reducible] def impl_ParseEvent_j1_p : List PE := [.val 0 (.str) (.u false), .box 2 36 (tyEvent) (.u false), .val 4 (.str) (.u false), .val 5 (.str) (.u false), .box 7 36 (tyEvent) (.u false), .val 8 (.int .i64) (.u false)]
noncomputable def impl_ParseEvent_j1 (K1 : (List UInt8 × TEvent × List UInt8 × List UInt8 × TEvent × Int × Unit) → Option (TEvent × Bool × Unit)) (line0_2 : List UInt8) (t2_1 : TEvent) (word4_1 : List UInt8) (rest5_1 : List UInt8) (e7_1 : TEvent) (kind8_1 : Int) : Option (TEvent × Bool × Unit) :=
  K1 (line0_2, t2_1, word4_1, rest5_1, e7_1, IntKind.i64.wrap (kind8_1 + (1 : Int)), ())
@[reducible] def impl_ParseEvent_j2_p : List PE := [.val 0 (.str) (.u false), .box 2 36 (tyEvent) (.u false), .box 7 36 (tyEvent) (.u false)]
noncomputable def impl_ParseEvent_j2 (line0_3 : List UInt8) (t2_2 : TEvent) (e7_2 : TEvent) : Option (TEvent × Bool × Unit) :=
  Option.bind (impl_IsEvent e7_2) fun t90 =>
  Option.bind (bif (!t90.1) then some (([] : List UInt8), ()) else (impl_FormatEvent e7_2)) fun t94 =>
  bif (!t90.1) || (!(t94.1 == line0_3)) then
    some (((0 : Int), ((0 : Int), ((0 : Int), (([] : List UInt8), ())))), false, ())
  else
    some (e7_2, true, ())
@[reducible] def impl_ParseEvent_l1_p : List PE := [.val 0 (.str) (.u false), .box 2 36 (tyEvent) (.u false), .val 4 (.str) (.u false), .val 5 (.str) (.u false), .box 7 36 (tyEvent) (.u false), .val 8 (.int .i64) (.u false)]
def impl_ParseEvent_l1_fuel (line0_1 : List UInt8) (t2 : TEvent) (word4 : List UInt8) (rest5 : List UInt8) (e7 : TEvent) (kind8 : Int) : Nat := ((12 : Int) - kind8).toNat + 2
noncomputable def impl_ParseEvent_l1 : Nat → List UInt8 → TEvent → List UInt8 → List UInt8 → TEvent → Int → Option (TEvent × Bool × Unit)
  | 0, _, _, _, _, _, _ => none
  | N + 1, line0_1, t2, word4, rest5, e7, kind8 =>
    bif decide (kind8 ≤ (12 : Int)) then
      Option.bind (impl_EventWord kind8) fun t31 =>
      bif t31.1 == word4 then
        impl_ParseEvent_j1 (fun v => impl_ParseEvent_l1 N v.1 v.2.1 v.2.2.1 v.2.2.2.1 v.2.2.2.2.1 v.2.2.2.2.2.1) line0_1 t2 word4 rest5 (kind8, e7.2) kind8
      else
        impl_ParseEvent_j1 (fun v => impl_ParseEvent_l1 N v.1 v.2.1 v.2.2.1 v.2.2.2.1 v.2.2.2.2.1 v.2.2.2.2.2.1) line0_1 t2 word4 rest5 e7 kind8
    else
      Option.bind (impl_uses e7.1) fun t39 =>
      bif (true && (!t39.1)) || (false && (!t39.2.1)) then
        bif (false && (!t39.1)) || (true && (!t39.2.1)) then
          bif t39.2.2.1 then
            impl_ParseEvent_j2 line0_1 t2 (e7.1, (e7.2.1, (e7.2.2.1, (rest5, e7.2.2.2.2))))
          else
            impl_ParseEvent_j2 line0_1 t2 e7
        else
          Option.bind (strings_Cut rest5 ([32] : List UInt8)) fun t69 =>
          Option.bind (impl_ParseInt t69.1) fun t75 =>
          bif !t75.2.1 then
            some (((0 : Int), ((0 : Int), ((0 : Int), (([] : List UInt8), ())))), false, ())
          else
            bif t39.2.2.1 then
              impl_ParseEvent_j2 line0_1 t2 (e7.1, (e7.2.1, (t75.1, (t69.2.1, e7.2.2.2.2))))
            else
              impl_ParseEvent_j2 line0_1 t2 (e7.1, (e7.2.1, (t75.1, e7.2.2.2)))
      else
        Option.bind (strings_Cut rest5 ([32] : List UInt8)) fun t69_1 =>
        Option.bind (impl_ParseInt t69_1.1) fun t75_1 =>
        bif !t75_1.2.1 then
          some (((0 : Int), ((0 : Int), ((0 : Int), (([] : List UInt8), ())))), false, ())
        else
          bif (false && (!t39.1)) || (true && (!t39.2.1)) then
            bif t39.2.2.1 then
              impl_ParseEvent_j2 line0_1 t2 (e7.1, (t75_1.1, (e7.2.2.1, (t69_1.2.1, e7.2.2.2.2))))
            else
              impl_ParseEvent_j2 line0_1 t2 (e7.1, (t75_1.1, e7.2.2))
          else
            Option.bind (strings_Cut t69_1.2.1 ([32] : List UInt8)) fun t69_2 =>
            Option.bind (impl_ParseInt t69_2.1) fun t75_2 =>
            bif !t75_2.2.1 then
              some (((0 : Int), ((0 : Int), ((0 : Int), (([] : List UInt8), ())))), false, ())
            else
              bif t39.2.2.1 then
                impl_ParseEvent_j2 line0_1 t2 (e7.1, (t75_1.1, (t75_2.1, (t69_2.2.1, e7.2.2.2.2))))
              else
                impl_ParseEvent_j2 line0_1 t2 (e7.1, (t75_1.1, (t75_2.1, e7.2.2.2)))
noncomputable def impl_ParseEvent (line0 : List UInt8) : Option (TEvent × Bool × Unit) :=
  Option.bind (strings_Cut line0 ([32] : List UInt8)) fun t21 =>
  impl_ParseEvent_l1 (impl_ParseEvent_l1_fuel line0 ((0 : Int), ((0 : Int), ((0 : Int), (([] : List UInt8), ())))) t21.1 t21.2.1 ((0 : Int), ((0 : Int), ((0 : Int), (([] : List UInt8), ())))) (1 : Int)) line0 ((0 : Int), ((0 : Int), ((0 : Int), (([] : List UInt8), ())))) t21.1 t21.2.1 ((0 : Int), ((0 : Int), ((0 : Int), (([] : List UInt8), ())))) (1 : Int)
@[reducible] def impl_DecodeEvents_l1_p : List PE := [.val 4 (.slice 9 (.str)) (.u false), .val 5 (.slice 36 (tyEvent)) (.u true), .val 6 (.int .i64) (.u false), .val 19 (.slice 9 (.str)) (.u false), .val 20 (.int .i64) (.u false), .val 21 (.int .i64) (.u false)]
def impl_DecodeEvents_l1_fuel (lines4 : List (List UInt8)) (out5 : List TEvent) (last6 : Int) (t19_1 : List (List UInt8)) (t20_1 : Int) (t21 : Int) : Nat := (t20_1 - t21).toNat + 1
noncomputable def impl_DecodeEvents_l1 : Nat → List (List UInt8) → List TEvent → Int → List (List UInt8) → Int → Int → Option (List TEvent × Bool × Unit)
  | 0, _, _, _, _, _, _ => none
  | N + 1, lines4, out5, last6, t19_1, t20_1, t21 =>
    bif decide (t21 < t20_1) then
      guardP (0 ≤ t21 ∧ t21 < t19_1.length) <|
      Option.bind (impl_ParseEvent (t19_1.getD t21.toNat ([] : List UInt8))) fun t27 =>
      bif !t27.2.1 then
        some (([] : List TEvent), false, ())
      else
        guardP (out5.length + ([t27.1]).length ≤ capN) <|
        impl_DecodeEvents_l1 N lines4 (out5 ++ ([t27.1])) last6 t19_1 t20_1 (IntKind.i64.wrap (t21 + (1 : Int)))
    else
      guardP (0 ≤ last6 ∧ last6 < lines4.length) <|
      bif !((lines4.getD last6.toNat ([] : List UInt8)) == ([] : List UInt8)) then
        some (([] : List TEvent), false, ())
      else
        some (out5, true, ())
noncomputable def impl_DecodeEvents (text0 : List UInt8) : Option (List TEvent × Bool × Unit) :=
  Option.bind (strings_Split text0 ([10] : List UInt8)) fun t12 =>
  let t16 : Int := IntKind.i64.wrap ((t12.1.length : Int) - (1 : Int))
  guardP (0 ≤ (0 : Int) ∧ (0 : Int) ≤ t16 ∧ t16 ≤ t12.1.length) <|
  let t19 : List (List UInt8) := (t12.1.drop (0 : Int).toNat).take (t16.toNat - (0 : Int).toNat)
  impl_DecodeEvents_l1 (impl_DecodeEvents_l1_fuel t12.1 ([] : List TEvent) t16 t19 (t19.length : Int) (0 : Int)) t12.1 ([] : List TEvent) t16 t19 (t19.length : Int) (0 : Int)
noncomputable def laws_eqEvent (a0 : TEvent) (b1 : TEvent) : Option (Bool × Unit) :=
  bif a0.1 != b1.1 then
    some (false, ())
  else
    bif a0.2.1 != b1.2.1 then
      some (false, ())
    else
      bif a0.2.2.1 != b1.2.2.1 then
        some (false, ())
      else
        bif !(a0.2.2.2.1 == b1.2.2.2.1) then
          some (false, ())
        else
          some (true, ())
@[reducible] def laws_eqEventS_l1_p : List PE := [.val 0 (.slice 36 (tyEvent)) (.u false), .val 1 (.slice 36 (tyEvent)) (.u false), .val 5 (.int .i64) (.u false)]
def laws_eqEventS_l1_fuel (a0_1 : List TEvent) (b1_1 : List TEvent) (i5 : Int) : Nat := ((a0_1.length : Int) - i5).toNat + 1
noncomputable def laws_eqEventS_l1 : Nat → List TEvent → List TEvent → Int → Option (Bool × Unit)
  | 0, _, _, _ => none
  | N + 1, a0_1, b1_1, i5 =>
    bif decide (i5 < (a0_1.length : Int)) then
      guardP (0 ≤ i5 ∧ i5 < a0_1.length) <|
      guardP (0 ≤ i5 ∧ i5 < b1_1.length) <|
      Option.bind (laws_eqEvent (a0_1.getD i5.toNat zEvent) (b1_1.getD i5.toNat zEvent)) fun t25 =>
      bif !t25.1 then
        some (false, ())
      else
        laws_eqEventS_l1 N a0_1 b1_1 (IntKind.i64.wrap (i5 + (1 : Int)))
    else
      some (true, ())
noncomputable def laws_eqEventS (a0 : List TEvent) (b1 : List TEvent) : Option (Bool × Unit) :=
  bif (a0.length : Int) != (b1.length : Int) then
    some (false, ())
  else
    laws_eqEventS_l1 (laws_eqEventS_l1_fuel a0 b1 (0 : Int)) a0 b1 (0 : Int)
@[reducible] def laws_markText_l1_p : List PE := [.val 0 (.int .i64) (.u false), .val 3 (.str) (.u false)]
def laws_markText_l1_fuel (k0_1 : Int) (out3_1 : List UInt8) : Nat := (k0_1 - (0 : Int)).toNat + 1
noncomputable def laws_markText_l1 : Nat → Int → List UInt8 → Option (List UInt8 × Unit)
  | 0, _, _ => none
  | N + 1, k0_1, out3_1 =>
    bif decide (k0_1 > (0 : Int)) then
      guardP ((10 : Int) ≠ 0) <|
      let t13 : List UInt8 := bytesOf ([(IntKind.u8.wrap (IntKind.i64.wrap ((48 : Int) + (Int.tmod k0_1 (10 : Int)))))])
      guardP (t13.length + out3_1.length ≤ capS) <|
      guardP ((10 : Int) ≠ 0) <|
      laws_markText_l1 N (IntKind.i64.wrap (Int.tdiv k0_1 (10 : Int))) (t13 ++ out3_1)
    else
      guardP (([109] : List UInt8).length + out3_1.length ≤ capS) <|
      some (([109] : List UInt8) ++ out3_1, ())
noncomputable def laws_markText (k0 : Int) : Option (List UInt8 × Unit) :=
  bif decide (k0 ≤ (0 : Int)) then
    some (([109, 48] : List UInt8), ())
  else
    laws_markText_l1 (laws_markText_l1_fuel k0 ([] : List UInt8)) k0 ([] : List UInt8)
@[reducible] def laws_markEventS_l1_p : List PE := [.val 0 (.slice 36 (tyEvent)) (.u true), .val 1 (.int .i64) (.u false), .val 5 (.int .i64) (.u false)]
def laws_markEventS_l1_fuel (a0_1 : List TEvent) (k1_1 : Int) (i5 : Int) : Nat := ((a0_1.length : Int) - i5).toNat + 1
noncomputable def laws_markEventS_l1 : Nat → List TEvent → Int → Int → Option ((Int × Unit) × List TEvent)
  | 0, _, _, _ => none
  | N + 1, a0_1, k1_1, i5 =>
    bif decide (i5 < (a0_1.length : Int)) then
      guardP (0 ≤ i5 ∧ i5 < a0_1.length) <|
      let a0_2 : List TEvent := a0_1.set i5.toNat (k1_1, (a0_1.getD i5.toNat zEvent).2)
      guardP (0 ≤ i5 ∧ i5 < a0_2.length) <|
      let a0_3 : List TEvent := a0_2.set i5.toNat ((a0_2.getD i5.toNat zEvent).1, (IntKind.i64.wrap (k1_1 + (1 : Int)), (a0_2.getD i5.toNat zEvent).2.2))
      let t25 : Int := IntKind.i64.wrap ((IntKind.i64.wrap (k1_1 + (1 : Int))) + (1 : Int))
      guardP (0 ≤ i5 ∧ i5 < a0_3.length) <|
      let a0_4 : List TEvent := a0_3.set i5.toNat ((a0_3.getD i5.toNat zEvent).1, ((a0_3.getD i5.toNat zEvent).2.1, (t25, (a0_3.getD i5.toNat zEvent).2.2.2)))
      Option.bind (laws_markText (IntKind.i64.wrap (t25 + (1 : Int)))) fun t36 =>
      guardP (0 ≤ i5 ∧ i5 < a0_4.length) <|
      laws_markEventS_l1 N (a0_4.set i5.toNat ((a0_4.getD i5.toNat zEvent).1, ((a0_4.getD i5.toNat zEvent).2.1, ((a0_4.getD i5.toNat zEvent).2.2.1, (t36.1, (a0_4.getD i5.toNat zEvent).2.2.2.2))))) (IntKind.i64.wrap ((IntKind.i64.wrap (t25 + (1 : Int))) + (1 : Int))) (IntKind.i64.wrap (i5 + (1 : Int)))
    else
      some ((k1_1, ()), a0_1)
noncomputable def laws_markEventS (a0 : List TEvent) (k1 : Int) : Option ((Int × Unit) × List TEvent) :=
  laws_markEventS_l1 (laws_markEventS_l1_fuel a0 k1 (0 : Int)) a0 k1 (0 : Int)
@[reducible] def laws_heldEventS_l1_p : List PE := [.val 0 (.slice 36 (tyEvent)) (.u false), .val 1 (.int .i64) (.u false), .val 5 (.int .i64) (.u false)]
def laws_heldEventS_l1_fuel (a0_1 : List TEvent) (k1_1 : Int) (i5 : Int) : Nat := ((a0_1.length : Int) - i5).toNat + 1
noncomputable def laws_heldEventS_l1 : Nat → List TEvent → Int → Int → Option (Int × Unit)
  | 0, _, _, _ => none
  | N + 1, a0_1, k1_1, i5 =>
    bif decide (i5 < (a0_1.length : Int)) then
      guardP (0 ≤ i5 ∧ i5 < a0_1.length) <|
      bif (a0_1.getD i5.toNat zEvent).1 != k1_1 then
        some ((-1 : Int), ())
      else
        guardP (0 ≤ i5 ∧ i5 < a0_1.length) <|
        bif (a0_1.getD i5.toNat zEvent).2.1 != (IntKind.i64.wrap (k1_1 + (1 : Int))) then
          some ((-1 : Int), ())
        else
          let t29 : Int := IntKind.i64.wrap ((IntKind.i64.wrap (k1_1 + (1 : Int))) + (1 : Int))
          guardP (0 ≤ i5 ∧ i5 < a0_1.length) <|
          bif (a0_1.getD i5.toNat zEvent).2.2.1 != t29 then
            some ((-1 : Int), ())
          else
            guardP (0 ≤ i5 ∧ i5 < a0_1.length) <|
            Option.bind (laws_markText (IntKind.i64.wrap (t29 + (1 : Int)))) fun t45 =>
            bif !((a0_1.getD i5.toNat zEvent).2.2.2.1 == t45.1) then
              some ((-1 : Int), ())
            else
              laws_heldEventS_l1 N a0_1 (IntKind.i64.wrap ((IntKind.i64.wrap (t29 + (1 : Int))) + (1 : Int))) (IntKind.i64.wrap (i5 + (1 : Int)))
    else
      some (k1_1, ())
noncomputable def laws_heldEventS (a0 : List TEvent) (k1 : Int) : Option (Int × Unit) :=
  laws_heldEventS_l1 (laws_heldEventS_l1_fuel a0 k1 (0 : Int)) a0 k1 (0 : Int)
noncomputable def laws_FnExactDecodeEvents (aText0 : List UInt8) : Option (Bool × Unit) :=
  bif decide ((aText0.length : Int) > (1048576 : Int)) then
    some (true, ())
  else
    Option.bind (spec_DecodeEvents aText0) fun t16 =>
    Option.bind (impl_DecodeEvents aText0) fun t21 =>
    Option.bind (laws_eqEventS t21.1 t16.1) fun t26 =>
    bif (!t26.1) || (!(t21.2.1 == t16.2.1)) then
      some (false, ())
    else
      Option.bind (laws_markEventS t21.1 (1 : Int)) fun t35 =>
      Option.bind (laws_heldEventS t35.2 (1 : Int)) fun t38 =>
      bif decide (t38.1 < (0 : Int)) then
        some (false, ())
      else
        bif t38.1 != t35.1.1 then
          some (false, ())
        else
          Option.bind (impl_DecodeEvents aText0) fun t46 =>
          Option.bind (laws_eqEventS t46.1 t16.1) fun t51 =>
          bif (!t51.1) || (!(t46.2.1 == t16.2.1)) then
            some (false, ())
          else
            Option.bind (laws_heldEventS t35.2 (1 : Int)) fun t60 =>
            bif decide (t60.1 < (0 : Int)) then
              some (false, ())
            else
              bif t60.1 != t35.1.1 then
                some (false, ())
              else
                some (true, ())
def tab : Tab := lookT [(3, .int .i64), (4, .bool), (5, .int .u8), (9, .str), (22, .slice 36 (tyEvent)), (33, .slice 9 (.str)), (36, tyEvent), (62, .slice 5 (.int .u8))]
theorem tok_3 : TOK Tryd.prog 3 (.int .i64) := ⟨by kernel_rfl, by kernel_rfl⟩
theorem tok_4 : TOK Tryd.prog 4 (.bool) := ⟨by kernel_rfl, by kernel_rfl⟩
theorem tok_5 : TOK Tryd.prog 5 (.int .u8) := ⟨by kernel_rfl, by kernel_rfl⟩
theorem tok_9 : TOK Tryd.prog 9 (.str) := ⟨by kernel_rfl, by kernel_rfl⟩
theorem tok_22 : TOK Tryd.prog 22 (.slice 36 (tyEvent)) := ⟨by kernel_rfl, by kernel_rfl⟩
theorem tok_33 : TOK Tryd.prog 33 (.slice 9 (.str)) := ⟨by kernel_rfl, by kernel_rfl⟩
theorem tok_36 : TOK Tryd.prog 36 (tyEvent) := ⟨by kernel_rfl, by kernel_rfl⟩
theorem tok_62 : TOK Tryd.prog 62 (.slice 5 (.int .u8)) := ⟨by kernel_rfl, by kernel_rfl⟩
theorem tab_ok : tab.ok Tryd.prog := (tab_cons tok_3 (tab_cons tok_4 (tab_cons tok_5 (tab_cons tok_9 (tab_cons tok_22 (tab_cons tok_33 (tab_cons tok_36 (tab_cons tok_62 tab_nil))))))))
noncomputable abbrev glob : Glob := Glob.vars Tryd.prog [("internal/bytealg.MaxLen", oneInt), ("loop.example/g01633/impl.eventWords", (· = (wordsL.map fun z => Value.string ⟨⟨z⟩⟩).toArray)), ("internal/strconv.uint64pow10", (· = (Go.Lib.pow10Tab.map fun z => Value.int .u64 z).toArray)), ("strconv.ErrSyntax", oneErr)]
theorem eqo_36 : EqOK Tryd.prog 36 (tyEvent) := EqOK.of (by kernel_rfl) (by kernel_rfl) rfl (by decide)
def eqsL : List Nat := [36]
theorem eqs_ok : EqsL Tryd.prog tab eqsL := (eqs_cons eqo_36 rfl eqs_nil)
@[reducible] def ptab : PTab := { pp := [(49, 48)], er := [68] }
theorem ptab_ok : ptab.ok Tryd.prog := PTab.ok_of (by kernel_rfl) (by kernel_rfl)
@[reducible] def cfg (ln : List Nat) (Γ : Env) (ΓL : EnvL) (ΓB : EnvB) (ΓW : EnvW) : Cfg := { τ := tab, eq := fun e => eqsL.any (Nat.beq e), Γ := Γ, ΓL := ΓL, ΓB := ΓB, lent := ln, ΓW := ΓW, pt := ptab }
theorem cfg_ok {gl : Glob} {ln : List Nat} {Γ : Env} {ΓL : EnvL} {ΓB : EnvB} {ΓW : EnvW} (hs : gl.soft = false) (h : Γ.ok Tryd.prog gl) (hL : ΓL.ok Tryd.prog gl) (hB : ΓB.ok Tryd.prog gl) (hW : ΓW.ok Tryd.prog) : (cfg ln Γ ΓL ΓB ΓW).ok Tryd.prog gl := ⟨tab_ok, eqs_ok, h, by kernel_rfl, hL, hB, hs, (fun h => by cases h), hW, ptab_ok⟩
@[reducible] noncomputable def e_spec_l13Cut : FnE := { f := 13, args := [.str, .int .u8], res := [.slice 9 (.str)], F := fun xs => spec_l13Cut xs.1 xs.2.1 }
theorem ok_spec_l13Cut : FnOK Tryd.prog glob e_spec_l13Cut := by
  refine FnOK.of (e := e_spec_l13Cut) (C := cfg [] [] [] [] []) (cfg_ok rfl env_nil envL_nil envB_nil envW_nil) rfl Tryd.func13 (c := codeOf Tryd.f13) rfl Tryd.call13 (by decide)
    ((.seq .leaf (.seq .leaf (.seq .leaf (.seq (.seq .leaf (.block (.loop spec_l13Cut_l1_p (fun N v => spec_l13Cut_l1 N v.1 v.2.1 v.2.2.1 v.2.2.2.1 v.2.2.2.2.1) (fun v => spec_l13Cut_l1_fuel v.1 v.2.1 v.2.2.1 v.2.2.2.1 v.2.2.2.2.1) (fun K1 => (.seq .leaf (.join spec_l13Cut_j1_p (fun v => spec_l13Cut_j1 K1 v.1 v.2.1 v.2.2.1 v.2.2.2.1 v.2.2.2.2.1) .leaf .leaf)))))) .leaf))))) ?_ ?_
  · exact ⟨conds_leaf _ _, ⟨conds_leaf _ _, ⟨conds_leaf _ _, ⟨⟨conds_leaf _ _, ⟨fun _ => rfl, fun N => ⟨(fun v => by kernel_rfl), ⟨conds_leaf _ _, ⟨conds_leaf _ _, (fun v => by kernel_rfl), conds_leaf _ _⟩⟩⟩⟩⟩, conds_leaf _ _⟩⟩⟩⟩
  · intro xs r h
    refine Eq.trans (Eq.symm ?_) h
    kernel_rfl
@[reducible] noncomputable def e_spec_l23Word : FnE := { f := 29, args := [.str], res := [.str, .str], F := fun xs => spec_l23Word xs.1 }
theorem ok_spec_l23Word : FnOK Tryd.prog glob e_spec_l23Word := by
  refine FnOK.of (e := e_spec_l23Word) (C := cfg [] [] [] [] []) (cfg_ok rfl env_nil envL_nil envB_nil envW_nil) rfl Tryd.func29 (c := codeOf Tryd.f29) rfl Tryd.call29 (by decide)
    ((.seq .leaf (.seq (.seq .leaf (.block (.loop spec_l23Word_l1_p (fun N v => spec_l23Word_l1 N v.1 v.2.1) (fun v => spec_l23Word_l1_fuel v.1 v.2.1) (fun K1 => .leaf)))) .leaf))) ?_ ?_
  · exact ⟨conds_leaf _ _, ⟨⟨conds_leaf _ _, ⟨fun _ => rfl, fun N => ⟨(fun v => by kernel_rfl), conds_leaf _ _⟩⟩⟩, conds_leaf _ _⟩⟩
  · intro xs r h
    refine Eq.trans (Eq.symm ?_) h
    kernel_rfl
@[reducible] noncomputable def e_spec_l1In : FnE := { f := 59, args := [.int .i64, .int .i64, .int .i64], res := [.bool], F := fun xs => spec_l1In xs.1 xs.2.1 xs.2.2.1 }
theorem ok_spec_l1In : FnOK Tryd.prog glob e_spec_l1In := by
  refine FnOK.of (e := e_spec_l1In) (C := cfg [] [] [] [] []) (cfg_ok rfl env_nil envL_nil envB_nil envW_nil) rfl Tryd.func59 (c := codeOf Tryd.f59) rfl Tryd.call59 (by decide)
    (.leaf) ?_ ?_
  · exact conds_leaf _ _
  · intro xs r h
    refine Eq.trans (Eq.symm ?_) h
    kernel_rfl
@[reducible] noncomputable def e_spec_EventWord : FnE := { f := 30, args := [.int .i64], res := [.str], F := fun xs => spec_EventWord xs.1 }
theorem ok_spec_EventWord : FnOK Tryd.prog glob e_spec_EventWord := by
  refine FnOK.of (e := e_spec_EventWord) (C := cfg [] [e_spec_l1In] [] [] []) (cfg_ok rfl (env_cons ok_spec_l1In env_nil) envL_nil envB_nil envW_nil) rfl Tryd.func30 (c := codeOf Tryd.f30) rfl Tryd.call30 (by decide)
    (.leaf) ?_ ?_
  · exact conds_leaf _ _
  · intro xs r h
    refine Eq.trans (Eq.symm ?_) h
    kernel_rfl
@[reducible] noncomputable def e_spec_FormatInt : FnE := { f := 42, args := [.int .i64], res := [.str], F := fun xs => spec_FormatInt xs.1 }
theorem ok_spec_FormatInt : FnOK Tryd.prog glob e_spec_FormatInt := by
  refine FnOK.of (e := e_spec_FormatInt) (C := cfg [] [] [] [] []) (cfg_ok rfl env_nil envL_nil envB_nil envW_nil) rfl Tryd.func42 (c := codeOf Tryd.f42) rfl Tryd.call42 (by decide)
    ((.seq .leaf (.seq .leaf (.seq .leaf (.seq .leaf (.seq (.block (.loop spec_FormatInt_l1_p (fun N v => spec_FormatInt_l1 N v.1 v.2.1 v.2.2.1) (fun v => spec_FormatInt_l1_fuel v.1 v.2.1 v.2.2.1) (fun K1 => (.seq .leaf (.block (.seq .leaf (.join spec_FormatInt_j1_p (fun v => spec_FormatInt_j1 K1 v.1 v.2.1 v.2.2.1 v.2.2.2.1) .leaf .leaf))))))) .leaf)))))) ?_ ?_
  · exact ⟨conds_leaf _ _, ⟨conds_leaf _ _, ⟨conds_leaf _ _, ⟨conds_leaf _ _, ⟨⟨fun _ => rfl, fun N => ⟨(fun v => by kernel_rfl), ⟨conds_leaf _ _, ⟨conds_leaf _ _, ⟨conds_leaf _ _, (fun v => by kernel_rfl), conds_leaf _ _⟩⟩⟩⟩⟩, conds_leaf _ _⟩⟩⟩⟩⟩
  · intro xs r h
    refine Eq.trans (Eq.symm ?_) h
    kernel_rfl
@[reducible] noncomputable def e_spec_ParseInt : FnE := { f := 60, args := [.str], res := [.int .i64, .bool], F := fun xs => spec_ParseInt xs.1 }
theorem ok_spec_ParseInt : FnOK Tryd.prog glob e_spec_ParseInt := by
  refine FnOK.of (e := e_spec_ParseInt) (C := cfg [] [e_spec_FormatInt] [] [] []) (cfg_ok rfl (env_cons ok_spec_FormatInt env_nil) envL_nil envB_nil envW_nil) rfl Tryd.func60 (c := codeOf Tryd.f60) rfl Tryd.call60 (by decide)
    ((.seq .leaf (.seq .leaf (.seq .leaf (.seq (.seq .leaf (.block (.loop spec_ParseInt_l1_p (fun N v => spec_ParseInt_l1 N v.1 v.2.1 v.2.2.1 v.2.2.2.1) (fun v => spec_ParseInt_l1_fuel v.1 v.2.1 v.2.2.1 v.2.2.2.1) (fun K1 => (.seq .leaf (.join spec_ParseInt_j1_p (fun v => spec_ParseInt_j1 K1 v.1 v.2.1 v.2.2.1 v.2.2.2.1) .leaf .leaf)))))) (.join spec_ParseInt_j2_p (fun v => spec_ParseInt_j2 v.1 v.2.1 v.2.2.1) .leaf .leaf)))))) ?_ ?_
  · exact ⟨conds_leaf _ _, ⟨conds_leaf _ _, ⟨conds_leaf _ _, ⟨⟨conds_leaf _ _, ⟨fun _ => rfl, fun N => ⟨(fun v => by kernel_rfl), ⟨conds_leaf _ _, ⟨conds_leaf _ _, (fun v => by kernel_rfl), conds_leaf _ _⟩⟩⟩⟩⟩, ⟨conds_leaf _ _, (fun v => by kernel_rfl), conds_leaf _ _⟩⟩⟩⟩⟩
  · intro xs r h
    refine Eq.trans (Eq.symm ?_) h
    kernel_rfl
@[reducible] noncomputable def e_spec_l23Num : FnE := { f := 31, args := [.str], res := [.int .i64], F := fun xs => spec_l23Num xs.1 }
theorem ok_spec_l23Num : FnOK Tryd.prog glob e_spec_l23Num := by
  refine FnOK.of (e := e_spec_l23Num) (C := cfg [] [e_spec_ParseInt] [] [] []) (cfg_ok rfl (env_cons ok_spec_ParseInt env_nil) envL_nil envB_nil envW_nil) rfl Tryd.func31 (c := codeOf Tryd.f31) rfl Tryd.call31 (by decide)
    (.leaf) ?_ ?_
  · exact conds_leaf _ _
  · intro xs r h
    refine Eq.trans (Eq.symm ?_) h
    kernel_rfl
@[reducible] noncomputable def e_spec_l23Form : FnE := { f := 79, args := [tyEvent], res := [tyEvent], F := fun xs => spec_l23Form xs.1 }
theorem ok_spec_l23Form : FnOK Tryd.prog glob e_spec_l23Form := by
  refine FnOK.of (e := e_spec_l23Form) (C := cfg [] [] [] [] []) (cfg_ok rfl env_nil envL_nil envB_nil envW_nil) rfl Tryd.func79 (c := codeOf Tryd.f79) rfl Tryd.call79 (by decide)
    ((.seq .leaf (.seq .leaf (.seq (.seq .leaf (.block (.join spec_l23Form_j1_p (fun v => spec_l23Form_j1 v.1 v.2.1 v.2.2.1 v.2.2.2.1 v.2.2.2.2.1) .leaf (.cond .leaf (.join spec_l23Form_j2_p (fun v => spec_l23Form_j2 v.1 v.2.1 v.2.2.1 v.2.2.2.1 v.2.2.2.2.1) .leaf (.cond .leaf (.seq .leaf (.cond .leaf (.join spec_l23Form_j3_p (fun v => spec_l23Form_j3 v.1 v.2.1 v.2.2.1 v.2.2.2.1) .leaf .leaf))))))))) .leaf)))) ?_ ?_
  · exact ⟨conds_leaf _ _, ⟨conds_leaf _ _, ⟨⟨conds_leaf _ _, ⟨conds_leaf _ _, (fun v => by kernel_rfl), ⟨conds_leaf _ _, ⟨conds_leaf _ _, (fun v => by kernel_rfl), ⟨conds_leaf _ _, ⟨conds_leaf _ _, ⟨conds_leaf _ _, ⟨conds_leaf _ _, (fun v => by kernel_rfl), conds_leaf _ _⟩⟩⟩⟩⟩⟩⟩⟩, conds_leaf _ _⟩⟩⟩
  · intro xs r h
    refine Eq.trans (Eq.symm ?_) h
    kernel_rfl
@[reducible] noncomputable def e_spec_l23Letters : FnE := { f := 80, args := [.str], res := [.bool], F := fun xs => spec_l23Letters xs.1 }
theorem ok_spec_l23Letters : FnOK Tryd.prog glob e_spec_l23Letters := by
  refine FnOK.of (e := e_spec_l23Letters) (C := cfg [] [e_spec_l1In] [] [] []) (cfg_ok rfl (env_cons ok_spec_l1In env_nil) envL_nil envB_nil envW_nil) rfl Tryd.func80 (c := codeOf Tryd.f80) rfl Tryd.call80 (by decide)
    ((.seq .leaf (.seq (.seq .leaf (.block (.loop spec_l23Letters_l1_p (fun N v => spec_l23Letters_l1 N v.1 v.2.1) (fun v => spec_l23Letters_l1_fuel v.1 v.2.1) (fun K1 => .leaf)))) .leaf))) ?_ ?_
  · exact ⟨conds_leaf _ _, ⟨⟨conds_leaf _ _, ⟨fun _ => rfl, fun N => ⟨(fun v => by kernel_rfl), conds_leaf _ _⟩⟩⟩, conds_leaf _ _⟩⟩
  · intro xs r h
    refine Eq.trans (Eq.symm ?_) h
    kernel_rfl
@[reducible] noncomputable def e_spec_l23Printable : FnE := { f := 81, args := [.str], res := [.bool], F := fun xs => spec_l23Printable xs.1 }
theorem ok_spec_l23Printable : FnOK Tryd.prog glob e_spec_l23Printable := by
  refine FnOK.of (e := e_spec_l23Printable) (C := cfg [] [e_spec_l1In] [] [] []) (cfg_ok rfl (env_cons ok_spec_l1In env_nil) envL_nil envB_nil envW_nil) rfl Tryd.func81 (c := codeOf Tryd.f81) rfl Tryd.call81 (by decide)
    ((.seq .leaf (.seq (.seq .leaf (.block (.loop spec_l23Printable_l1_p (fun N v => spec_l23Printable_l1 N v.1 v.2.1) (fun v => spec_l23Printable_l1_fuel v.1 v.2.1) (fun K1 => .leaf)))) .leaf))) ?_ ?_
  · exact ⟨conds_leaf _ _, ⟨⟨conds_leaf _ _, ⟨fun _ => rfl, fun N => ⟨(fun v => by kernel_rfl), conds_leaf _ _⟩⟩⟩, conds_leaf _ _⟩⟩
  · intro xs r h
    refine Eq.trans (Eq.symm ?_) h
    kernel_rfl
@[reducible] noncomputable def e_spec_l1Digit : FnE := { f := 67, args := [.int .i64], res := [.int .u8], F := fun xs => spec_l1Digit xs.1 }
theorem ok_spec_l1Digit : FnOK Tryd.prog glob e_spec_l1Digit := by
  refine FnOK.of (e := e_spec_l1Digit) (C := cfg [] [] [] [] []) (cfg_ok rfl env_nil envL_nil envB_nil envW_nil) rfl Tryd.func67 (c := codeOf Tryd.f67) rfl Tryd.call67 (by decide)
    (.leaf) ?_ ?_
  · exact conds_leaf _ _
  · intro xs r h
    refine Eq.trans (Eq.symm ?_) h
    kernel_rfl
@[reducible] noncomputable def e_spec_l1FromHex : FnE := { f := 39, args := [.int .u8], res := [.int .i64], F := fun xs => spec_l1FromHex xs.1 }
theorem ok_spec_l1FromHex : FnOK Tryd.prog glob e_spec_l1FromHex := by
  refine FnOK.of (e := e_spec_l1FromHex) (C := cfg [] [e_spec_l1Digit] [] [] []) (cfg_ok rfl (env_cons ok_spec_l1Digit env_nil) envL_nil envB_nil envW_nil) rfl Tryd.func39 (c := codeOf Tryd.f39) rfl Tryd.call39 (by decide)
    ((.seq .leaf (.seq (.seq .leaf (.block (.loop spec_l1FromHex_l1_p (fun N v => spec_l1FromHex_l1 N v.1 v.2.1) (fun v => spec_l1FromHex_l1_fuel v.1 v.2.1) (fun K1 => .leaf)))) .leaf))) ?_ ?_
  · exact ⟨conds_leaf _ _, ⟨⟨conds_leaf _ _, ⟨fun _ => rfl, fun N => ⟨(fun v => by kernel_rfl), conds_leaf _ _⟩⟩⟩, conds_leaf _ _⟩⟩
  · intro xs r h
    refine Eq.trans (Eq.symm ?_) h
    kernel_rfl
@[reducible] noncomputable def e_spec_DecodeHex : FnE := { f := 22, args := [.str], res := [.str, .bool], F := fun xs => spec_DecodeHex xs.1 }
theorem ok_spec_DecodeHex : FnOK Tryd.prog glob e_spec_DecodeHex := by
  refine FnOK.of (e := e_spec_DecodeHex) (C := cfg [] [e_spec_l1FromHex] [] [] []) (cfg_ok rfl (env_cons ok_spec_l1FromHex env_nil) envL_nil envB_nil envW_nil) rfl Tryd.func22 (c := codeOf Tryd.f22) rfl Tryd.call22 (by decide)
    ((.seq .leaf (.seq .leaf (.seq .leaf (.seq (.seq .leaf (.block (.loop spec_DecodeHex_l1_p (fun N v => spec_DecodeHex_l1 N v.1 v.2.1 v.2.2.1) (fun v => spec_DecodeHex_l1_fuel v.1 v.2.1 v.2.2.1) (fun K1 => .leaf)))) .leaf))))) ?_ ?_
  · exact ⟨conds_leaf _ _, ⟨conds_leaf _ _, ⟨conds_leaf _ _, ⟨⟨conds_leaf _ _, ⟨fun _ => rfl, fun N => ⟨(fun v => by kernel_rfl), conds_leaf _ _⟩⟩⟩, conds_leaf _ _⟩⟩⟩⟩
  · intro xs r h
    refine Eq.trans (Eq.symm ?_) h
    kernel_rfl
@[reducible] noncomputable def e_spec_IsEvent : FnE := { f := 61, args := [tyEvent], res := [.bool], F := fun xs => spec_IsEvent xs.1 }
theorem ok_spec_IsEvent : FnOK Tryd.prog glob e_spec_IsEvent := by
  refine FnOK.of (e := e_spec_IsEvent) (C := cfg [] [e_spec_EventWord, e_spec_l23Form, e_spec_l1In, e_spec_l23Letters, e_spec_l23Printable, e_spec_DecodeHex] [] [] []) (cfg_ok rfl (env_cons ok_spec_EventWord (env_cons ok_spec_l23Form (env_cons ok_spec_l1In (env_cons ok_spec_l23Letters (env_cons ok_spec_l23Printable (env_cons ok_spec_DecodeHex env_nil)))))) envL_nil envB_nil envW_nil) rfl Tryd.func61 (c := codeOf Tryd.f61) rfl Tryd.call61 (by decide)
    (.leaf) ?_ ?_
  · exact conds_leaf _ _
  · intro xs r h
    refine Eq.trans (Eq.symm ?_) h
    kernel_rfl
@[reducible] noncomputable def e_spec_FormatEvent : FnE := { f := 32, args := [tyEvent], res := [.str], F := fun xs => spec_FormatEvent xs.1 }
theorem ok_spec_FormatEvent : FnOK Tryd.prog glob e_spec_FormatEvent := by
  refine FnOK.of (e := e_spec_FormatEvent) (C := cfg [] [e_spec_IsEvent, e_spec_EventWord, e_spec_FormatInt] [] [] []) (cfg_ok rfl (env_cons ok_spec_IsEvent (env_cons ok_spec_EventWord (env_cons ok_spec_FormatInt env_nil))) envL_nil envB_nil envW_nil) rfl Tryd.func32 (c := codeOf Tryd.f32) rfl Tryd.call32 (by decide)
    ((.seq .leaf (.seq .leaf (.seq .leaf (.seq (.seq .leaf (.block (.join spec_FormatEvent_j1_p (fun v => spec_FormatEvent_j1 v.1 v.2.1 v.2.2.1 v.2.2.2.1) .leaf (.cond .leaf (.join spec_FormatEvent_j2_p (fun v => spec_FormatEvent_j2 v.1 v.2.1 v.2.2.1 v.2.2.2.1) .leaf (.cond .leaf (.seq .leaf (.cond .leaf (.join spec_FormatEvent_j3_p (fun v => spec_FormatEvent_j3 v.1 v.2.1 v.2.2.1) .leaf .leaf))))))))) .leaf))))) ?_ ?_
  · exact ⟨conds_leaf _ _, ⟨conds_leaf _ _, ⟨conds_leaf _ _, ⟨⟨conds_leaf _ _, ⟨conds_leaf _ _, (fun v => by kernel_rfl), ⟨conds_leaf _ _, ⟨conds_leaf _ _, (fun v => by kernel_rfl), ⟨conds_leaf _ _, ⟨conds_leaf _ _, ⟨conds_leaf _ _, ⟨conds_leaf _ _, (fun v => by kernel_rfl), conds_leaf _ _⟩⟩⟩⟩⟩⟩⟩⟩, conds_leaf _ _⟩⟩⟩⟩
  · intro xs r h
    refine Eq.trans (Eq.symm ?_) h
    kernel_rfl
@[reducible] noncomputable def e_spec_ParseEvent : FnE := { f := 14, args := [.str], res := [tyEvent, .bool], F := fun xs => spec_ParseEvent xs.1 }
theorem ok_spec_ParseEvent : FnOK Tryd.prog glob e_spec_ParseEvent := by
  refine FnOK.of (e := e_spec_ParseEvent) (C := cfg [] [e_spec_l23Word, e_spec_EventWord, e_spec_l23Num, e_spec_FormatEvent] [] [] []) (cfg_ok rfl (env_cons ok_spec_l23Word (env_cons ok_spec_EventWord (env_cons ok_spec_l23Num (env_cons ok_spec_FormatEvent env_nil)))) envL_nil envB_nil envW_nil) rfl Tryd.func14 (c := codeOf Tryd.f14) rfl Tryd.call14 (by decide)
    ((.seq .leaf (.seq .leaf (.seq .leaf (.seq (.seq .leaf (.block (.loop spec_ParseEvent_l1_p (fun N v => spec_ParseEvent_l1 N v.1 v.2.1 v.2.2.1 v.2.2.2.1 v.2.2.2.2.1 v.2.2.2.2.2.1) (fun v => spec_ParseEvent_l1_fuel v.1 v.2.1 v.2.2.1 v.2.2.2.1 v.2.2.2.2.1 v.2.2.2.2.2.1) (fun K1 => (.seq .leaf (.join spec_ParseEvent_j1_p (fun v => spec_ParseEvent_j1 K1 v.1 v.2.1 v.2.2.1 v.2.2.2.1 v.2.2.2.2.1 v.2.2.2.2.2.1) .leaf .leaf)))))) (.seq .leaf (.join spec_ParseEvent_j2_p (fun v => spec_ParseEvent_j2 v.1 v.2.1 v.2.2.1) (.seq .leaf (.block (.join spec_ParseEvent_j3_p (fun v => spec_ParseEvent_j3 v.1 v.2.1 v.2.2.1 v.2.2.2.1 v.2.2.2.2.1 v.2.2.2.2.2.1 v.2.2.2.2.2.2.1 v.2.2.2.2.2.2.2.1) .leaf (.cond .leaf (.join spec_ParseEvent_j4_p (fun v => spec_ParseEvent_j4 v.1 v.2.1 v.2.2.1 v.2.2.2.1 v.2.2.2.2.1 v.2.2.2.2.2.1 v.2.2.2.2.2.2.1 v.2.2.2.2.2.2.2.1) .leaf (.cond .leaf (.seq .leaf (.cond .leaf (.join spec_ParseEvent_j5_p (fun v => spec_ParseEvent_j5 v.1 v.2.1 v.2.2.1 v.2.2.2.1 v.2.2.2.2.1 v.2.2.2.2.2.1 v.2.2.2.2.2.2.1) .leaf .leaf))))))))) .leaf))))))) ?_ ?_
  · exact ⟨conds_leaf _ _, ⟨conds_leaf _ _, ⟨conds_leaf _ _, ⟨⟨conds_leaf _ _, ⟨fun _ => rfl, fun N => ⟨(fun v => by kernel_rfl), ⟨conds_leaf _ _, ⟨conds_leaf _ _, (fun v => by kernel_rfl), conds_leaf _ _⟩⟩⟩⟩⟩, ⟨conds_leaf _ _, ⟨⟨conds_leaf _ _, ⟨conds_leaf _ _, (fun v => by kernel_rfl), ⟨conds_leaf _ _, ⟨conds_leaf _ _, (fun v => by kernel_rfl), ⟨conds_leaf _ _, ⟨conds_leaf _ _, ⟨conds_leaf _ _, ⟨conds_leaf _ _, (fun v => by kernel_rfl), conds_leaf _ _⟩⟩⟩⟩⟩⟩⟩⟩, (fun v => by kernel_rfl), conds_leaf _ _⟩⟩⟩⟩⟩⟩
  · intro xs r h
    refine Eq.trans (Eq.symm ?_) h
    kernel_rfl
@[reducible] noncomputable def e_spec_DecodeEvents : FnE := { f := 5, args := [.str], res := [.slice 36 (tyEvent), .bool], F := fun xs => spec_DecodeEvents xs.1 }
theorem ok_spec_DecodeEvents : FnOK Tryd.prog glob e_spec_DecodeEvents := by
  refine FnOK.of (e := e_spec_DecodeEvents) (C := cfg [] [e_spec_l13Cut, e_spec_ParseEvent] [] [] []) (cfg_ok rfl (env_cons ok_spec_l13Cut (env_cons ok_spec_ParseEvent env_nil)) envL_nil envB_nil envW_nil) rfl Tryd.func5 (c := codeOf Tryd.f5) rfl Tryd.call5 (by decide)
    ((.seq .leaf (.seq .leaf (.seq .leaf (.seq (.seq .leaf (.block (.loop spec_DecodeEvents_l1_p (fun N v => spec_DecodeEvents_l1 N v.1 v.2.1 v.2.2.1) (fun v => spec_DecodeEvents_l1_fuel v.1 v.2.1 v.2.2.1) (fun K1 => .leaf)))) .leaf))))) ?_ ?_
  · exact ⟨conds_leaf _ _, ⟨conds_leaf _ _, ⟨conds_leaf _ _, ⟨⟨conds_leaf _ _, ⟨fun _ => rfl, fun N => ⟨(fun v => by kernel_rfl), conds_leaf _ _⟩⟩⟩, conds_leaf _ _⟩⟩⟩⟩
  · intro xs r h
    refine Eq.trans (Eq.symm ?_) h
    kernel_rfl
@[reducible] noncomputable def e_strings_Split : FnE := { f := 15, args := [.str, .str], res := [.slice 9 (.str)], F := fun xs => strings_Split xs.1 xs.2.1 }
theorem ok_strings_Split : FnOK Tryd.prog glob e_strings_Split :=
  FnOK.split Tryd.call15 (by decide) (fun w hg => Glob.vars_int (b := 1) hg 0 (by decide) rfl rfl (by kernel_rfl))
    (fun s p k w h1 h2 h3 => Tryd.strings_Split s p k w h1 h2 h3)
@[reducible] noncomputable def e_strings_Cut : FnE := { f := 34, args := [.str, .str], res := [.str, .str, .bool], F := fun xs => strings_Cut xs.1 xs.2.1 }
theorem ok_strings_Cut : FnOK Tryd.prog glob e_strings_Cut :=
  FnOK.cut Tryd.call34 (fun w hg => Glob.vars_int (b := 1) hg 0 (by decide) rfl rfl (by kernel_rfl))
    (fun s p k w h1 h2 => Tryd.strings_Cut s p k w h1 h2)
@[reducible] noncomputable def e_impl_EventWord : FnE := { f := 35, args := [.int .i64], res := [.str], F := fun xs => impl_EventWord xs.1 }
open Go.RowKit in
theorem walk_impl_EventWord (k : Int) (w : World) (hw : ∀ i, i < 13 → w.cell? ⟨0, i, none⟩ = some (.string ⟨⟨wordsL.getD i []⟩⟩)) :
    Calls Tryd.prog 35 #[.int .i64 k] w fun e w' => e = .returned (.string ⟨⟨bif decide (1 ≤ k) && decide (k ≤ 12) then wordsL.getD k.toNat [] else []⟩⟩) ∧ Below w.heap.size w w' := by
  by_cases h1 : 1 ≤ k
  · by_cases h2 : k ≤ 12
    · have hc := hw k.toNat (by omega)
      have e : (bif decide (1 ≤ k) && decide (k ≤ 12) then wordsL.getD k.toNat [] else []) = wordsL.getD k.toNat [] := by simp [h1, h2]
      rw [e]
      generalize wordsL.getD k.toNat [] = t at *
      go_enter Tryd.func35, Tryd.ntmps35
      go_wp2
      go_ret
      exact ⟨rfl, Below.refl _ _⟩
    · have e : (bif decide (1 ≤ k) && decide (k ≤ 12) then wordsL.getD k.toNat [] else []) = [] := by simp [h2]
      rw [e]
      go_enter Tryd.func35, Tryd.ntmps35
      go_wp2
      go_ret
      exact ⟨rfl, Below.refl _ _⟩
  · have e : (bif decide (1 ≤ k) && decide (k ≤ 12) then wordsL.getD k.toNat [] else []) = [] := by simp [h1]
    rw [e]
    go_enter Tryd.func35, Tryd.ntmps35
    go_wp2
    go_ret
    exact ⟨rfl, Below.refl _ _⟩
theorem ok_impl_EventWord : FnOK Tryd.prog glob e_impl_EventWord where
  enters := Tryd.call35
  calls := fun w xs r vals hg hx hr => by
    obtain ⟨cs, us, rfl, h1, rfl⟩ := hx
    obtain ⟨rfl, _⟩ : cs = [.int .i64 xs.1] ∧ _ := h1
    simp only [impl_EventWord, Option.some.injEq] at hr
    subst hr
    have hv := Glob.vars_eq hg 1 (by decide) rfl rfl
    exact (walk_impl_EventWord xs.1 w (fun j hj => strs_cell hv (by kernel_rfl) j hj)).mono fun e w' ⟨h2, h3⟩ => ⟨[_], [], h2, ⟨[_], [], [], [], rfl, rfl, ⟨rfl, rfl⟩, rfl, rfl⟩, by simp, h3⟩
@[reducible] noncomputable def e_impl_uses : FnE := { f := 36, args := [.int .i64], res := [.bool, .bool, .bool], F := fun xs => impl_uses xs.1 }
theorem ok_impl_uses : FnOK Tryd.prog glob e_impl_uses := by
  refine FnOK.of (e := e_impl_uses) (C := cfg [] [] [] [] []) (cfg_ok rfl env_nil envL_nil envB_nil envW_nil) rfl Tryd.func36 (c := codeOf Tryd.f36) rfl Tryd.call36 (by decide)
    ((.seq .leaf (.seq (.seq .leaf (.block (.join impl_uses_j1_p (fun v => impl_uses_j1 v.1 v.2.1) .leaf (.cond .leaf (.join impl_uses_j2_p (fun v => impl_uses_j2 v.1 v.2.1) .leaf (.cond .leaf (.seq .leaf (.cond .leaf (.join impl_uses_j3_p (fun v => impl_uses_j3 v.1) .leaf .leaf))))))))) .leaf))) ?_ ?_
  · exact ⟨conds_leaf _ _, ⟨⟨conds_leaf _ _, ⟨conds_leaf _ _, (fun v => by kernel_rfl), ⟨conds_leaf _ _, ⟨conds_leaf _ _, (fun v => by kernel_rfl), ⟨conds_leaf _ _, ⟨conds_leaf _ _, ⟨conds_leaf _ _, ⟨conds_leaf _ _, (fun v => by kernel_rfl), conds_leaf _ _⟩⟩⟩⟩⟩⟩⟩⟩, conds_leaf _ _⟩⟩
  · intro xs r h
    refine Eq.trans (Eq.symm ?_) h
    kernel_rfl
@[reducible] noncomputable def e_impl_within : FnE := { f := 49, args := [.int .i64, .int .i64, .int .i64], res := [.bool], F := fun xs => impl_within xs.1 xs.2.1 xs.2.2.1 }
theorem ok_impl_within : FnOK Tryd.prog glob e_impl_within := by
  refine FnOK.of (e := e_impl_within) (C := cfg [] [] [] [] []) (cfg_ok rfl env_nil envL_nil envB_nil envW_nil) rfl Tryd.func49 (c := codeOf Tryd.f49) rfl Tryd.call49 (by decide)
    (.leaf) ?_ ?_
  · exact conds_leaf _ _
  · intro xs r h
    refine Eq.trans (Eq.symm ?_) h
    kernel_rfl
@[reducible] noncomputable def e_impl_areBytes : FnE := { f := 86, args := [.str, .int .u8, .int .u8], res := [.bool], F := fun xs => impl_areBytes xs.1 xs.2.1 xs.2.2.1 }
theorem ok_impl_areBytes : FnOK Tryd.prog glob e_impl_areBytes := by
  refine FnOK.of (e := e_impl_areBytes) (C := cfg [] [e_impl_within] [] [] []) (cfg_ok rfl (env_cons ok_impl_within env_nil) envL_nil envB_nil envW_nil) rfl Tryd.func86 (c := codeOf Tryd.f86) rfl Tryd.call86 (by decide)
    ((.seq .leaf (.seq (.seq .leaf (.block (.loop impl_areBytes_l1_p (fun N v => impl_areBytes_l1 N v.1 v.2.1 v.2.2.1 v.2.2.2.1) (fun v => impl_areBytes_l1_fuel v.1 v.2.1 v.2.2.1 v.2.2.2.1) (fun K1 => .leaf)))) .leaf))) ?_ ?_
  · exact ⟨conds_leaf _ _, ⟨⟨conds_leaf _ _, ⟨fun _ => rfl, fun N => ⟨(fun v => by kernel_rfl), conds_leaf _ _⟩⟩⟩, conds_leaf _ _⟩⟩
  · intro xs r h
    refine Eq.trans (Eq.symm ?_) h
    kernel_rfl
@[reducible] noncomputable def e_impl_hexValue : FnE := { f := 50, args := [.int .u8], res := [.int .i64], F := fun xs => impl_hexValue xs.1 }
theorem ok_impl_hexValue : FnOK Tryd.prog glob e_impl_hexValue := by
  refine FnOK.of (e := e_impl_hexValue) (C := cfg [] [] [] [] []) (cfg_ok rfl env_nil envL_nil envB_nil envW_nil) rfl Tryd.func50 (c := codeOf Tryd.f50) rfl Tryd.call50 (by decide)
    (.leaf) ?_ ?_
  · exact conds_leaf _ _
  · intro xs r h
    refine Eq.trans (Eq.symm ?_) h
    kernel_rfl
@[reducible] noncomputable def e_impl_DecodeHex : FnE := { f := 26, args := [.str], res := [.str, .bool], F := fun xs => impl_DecodeHex xs.1 }
theorem ok_impl_DecodeHex : FnOK Tryd.prog glob e_impl_DecodeHex := by
  refine FnOK.of (e := e_impl_DecodeHex) (C := cfg [] [e_impl_hexValue] [] [] []) (cfg_ok rfl (env_cons ok_impl_hexValue env_nil) envL_nil envB_nil envW_nil) rfl Tryd.func26 (c := codeOf Tryd.f26) rfl Tryd.call26 (by decide)
    ((.seq .leaf (.seq .leaf (.seq .leaf (.seq (.seq .leaf (.block (.loop impl_DecodeHex_l1_p (fun N v => impl_DecodeHex_l1 N v.1 v.2.1 v.2.2.1) (fun v => impl_DecodeHex_l1_fuel v.1 v.2.1 v.2.2.1) (fun K1 => .leaf)))) .leaf))))) ?_ ?_
  · exact ⟨conds_leaf _ _, ⟨conds_leaf _ _, ⟨conds_leaf _ _, ⟨⟨conds_leaf _ _, ⟨fun _ => rfl, fun N => ⟨(fun v => by kernel_rfl), conds_leaf _ _⟩⟩⟩, conds_leaf _ _⟩⟩⟩⟩
  · intro xs r h
    refine Eq.trans (Eq.symm ?_) h
    kernel_rfl
@[reducible] noncomputable def e_impl_isText : FnE := { f := 66, args := [tyEvent], res := [.bool], F := fun xs => impl_isText xs.1 }
theorem ok_impl_isText : FnOK Tryd.prog glob e_impl_isText := by
  refine FnOK.of (e := e_impl_isText) (C := cfg [] [e_impl_areBytes, e_impl_DecodeHex, e_impl_within] [] [] []) (cfg_ok rfl (env_cons ok_impl_areBytes (env_cons ok_impl_DecodeHex (env_cons ok_impl_within env_nil))) envL_nil envB_nil envW_nil) rfl Tryd.func66 (c := codeOf Tryd.f66) rfl Tryd.call66 (by decide)
    (.leaf) ?_ ?_
  · exact conds_leaf _ _
  · intro xs r h
    refine Eq.trans (Eq.symm ?_) h
    kernel_rfl
@[reducible] noncomputable def e_impl_IsEvent : FnE := { f := 37, args := [tyEvent], res := [.bool], F := fun xs => impl_IsEvent xs.1 }
theorem ok_impl_IsEvent : FnOK Tryd.prog glob e_impl_IsEvent := by
  refine FnOK.of (e := e_impl_IsEvent) (C := cfg [] [e_impl_uses, e_impl_EventWord, e_impl_within, e_impl_isText] [] [] []) (cfg_ok rfl (env_cons ok_impl_uses (env_cons ok_impl_EventWord (env_cons ok_impl_within (env_cons ok_impl_isText env_nil)))) envL_nil envB_nil envW_nil) rfl Tryd.func37 (c := codeOf Tryd.f37) rfl Tryd.call37 (by decide)
    (.leaf) ?_ ?_
  · exact conds_leaf _ _
  · intro xs r h
    refine Eq.trans (Eq.symm ?_) h
    kernel_rfl
@[reducible] noncomputable def e_strconv_Itoa : FnE := { f := 48, args := [.int .i64], res := [.str], F := fun xs => strconv_Itoa xs.1 }
theorem ok_strconv_Itoa : FnOK Tryd.prog glob e_strconv_Itoa :=
  FnOK.intStr Tryd.call48 fun n w hg h0 h1 => (Tryd.strconv_Itoa n h0 h1 w (Glob.vars_eq hg 2 (by decide) rfl rfl)).mono fun e w' ⟨he, k, os, hw⟩ => ⟨he, hw ▸ Go.Lib.below_grow _ _ (Nat.le_refl _) k os⟩
@[reducible] noncomputable def e_impl_FormatInt : FnE := { f := 55, args := [.int .i64], res := [.str], F := fun xs => impl_FormatInt xs.1 }
theorem ok_impl_FormatInt : FnOK Tryd.prog glob e_impl_FormatInt := by
  refine FnOK.of (e := e_impl_FormatInt) (C := cfg [] [e_strconv_Itoa] [] [] []) (cfg_ok rfl (env_cons ok_strconv_Itoa env_nil) envL_nil envB_nil envW_nil) rfl Tryd.func55 (c := codeOf Tryd.f55) rfl Tryd.call55 (by decide)
    (.leaf) ?_ ?_
  · exact conds_leaf _ _
  · intro xs r h
    refine Eq.trans (Eq.symm ?_) h
    kernel_rfl
@[reducible] noncomputable def e_impl_FormatEvent : FnE := { f := 38, args := [tyEvent], res := [.str], F := fun xs => impl_FormatEvent xs.1 }
theorem ok_impl_FormatEvent : FnOK Tryd.prog glob e_impl_FormatEvent := by
  refine FnOK.of (e := e_impl_FormatEvent) (C := cfg [] [e_impl_IsEvent, e_impl_uses, e_impl_EventWord, e_impl_FormatInt] [] [] []) (cfg_ok rfl (env_cons ok_impl_IsEvent (env_cons ok_impl_uses (env_cons ok_impl_EventWord (env_cons ok_impl_FormatInt env_nil)))) envL_nil envB_nil envW_nil) rfl Tryd.func38 (c := codeOf Tryd.f38) rfl Tryd.call38 (by decide)
    ((.seq .leaf (.seq .leaf (.seq .leaf (.seq .leaf (.join impl_FormatEvent_j1_p (fun v => impl_FormatEvent_j1 v.1 v.2.1 v.2.2.1 v.2.2.2.1) .leaf (.join impl_FormatEvent_j2_p (fun v => impl_FormatEvent_j2 v.1 v.2.1 v.2.2.1) .leaf .leaf))))))) ?_ ?_
  · exact ⟨conds_leaf _ _, ⟨conds_leaf _ _, ⟨conds_leaf _ _, ⟨conds_leaf _ _, ⟨conds_leaf _ _, (fun v => by kernel_rfl), ⟨conds_leaf _ _, (fun v => by kernel_rfl), conds_leaf _ _⟩⟩⟩⟩⟩⟩
  · intro xs r h
    refine Eq.trans (Eq.symm ?_) h
    kernel_rfl
@[reducible] noncomputable def e_strconv_Atoi : FnE := { f := 47, args := [.str], res := [.int .i64, .err], F := fun xs => strconv_Atoi xs.1 }
theorem ok_strconv_Atoi : FnOK Tryd.prog glob e_strconv_Atoi :=
  FnOK.atoi Tryd.call47 (fun w hg => Glob.vars_err hg 3 (by decide) rfl rfl) (fun s n hl h w => Tryd.strconv_Atoi s n hl h w)
    (fun s hl h tp p w hv => (Tryd.strconv_Atoi_err_var s hl h tp p w hv).mono fun e w' ⟨N, h1, _, _, h2⟩ => ⟨_, N, h1, h2⟩)
@[reducible] noncomputable def e_impl_ParseInt : FnE := { f := 25, args := [.str], res := [.int .i64, .bool], F := fun xs => impl_ParseInt xs.1 }
theorem ok_impl_ParseInt : FnOK Tryd.prog glob e_impl_ParseInt := by
  refine FnOK.of (e := e_impl_ParseInt) (C := cfg [] [e_strconv_Atoi, e_strconv_Itoa, e_impl_within] [] [] []) (cfg_ok rfl (env_cons ok_strconv_Atoi (env_cons ok_strconv_Itoa (env_cons ok_impl_within env_nil))) envL_nil envB_nil envW_nil) rfl Tryd.func25 (c := codeOf Tryd.f25) rfl Tryd.call25 (by decide)
    (.leaf) ?_ ?_
  · exact conds_leaf _ _
  · intro xs r h
    refine Eq.trans (Eq.symm ?_) h
    kernel_rfl
@[reducible] noncomputable def e_impl_ParseEvent : FnE := { f := 16, args := [.str], res := [tyEvent, .bool], F := fun xs => impl_ParseEvent xs.1 }
theorem ok_impl_ParseEvent : FnOK Tryd.prog glob e_impl_ParseEvent := by
  refine FnOK.of (e := e_impl_ParseEvent) (C := cfg [] [e_strings_Cut, e_impl_EventWord, e_impl_uses, e_impl_IsEvent, e_impl_FormatEvent, e_impl_ParseInt] [] [] []) (cfg_ok rfl (env_cons ok_strings_Cut (env_cons ok_impl_EventWord (env_cons ok_impl_uses (env_cons ok_impl_IsEvent (env_cons ok_impl_FormatEvent (env_cons ok_impl_ParseInt env_nil)))))) envL_nil envB_nil envW_nil) rfl Tryd.func16 (c := codeOf Tryd.f16) rfl Tryd.call16 (by decide)
    ((.seq .leaf (.seq .leaf (.seq .leaf (.seq (.seq .leaf (.block (.loop impl_ParseEvent_l1_p (fun N v => impl_ParseEvent_l1 N v.1 v.2.1 v.2.2.1 v.2.2.2.1 v.2.2.2.2.1 v.2.2.2.2.2.1) (fun v => impl_ParseEvent_l1_fuel v.1 v.2.1 v.2.2.1 v.2.2.2.1 v.2.2.2.2.1 v.2.2.2.2.2.1) (fun K1 => (.seq .leaf (.join impl_ParseEvent_j1_p (fun v => impl_ParseEvent_j1 K1 v.1 v.2.1 v.2.2.1 v.2.2.2.1 v.2.2.2.2.1 v.2.2.2.2.2.1) .leaf .leaf)))))) (.seq .leaf (.seq (.seq .leaf (.block (.unroll [0, 2, 5, 7, 9, 10, 11, 45, 46, 47, 55, 56, 59, 60, 61, 62, 63, 64, 65, 93, 94, 95, 96] 3 (fun _ => .leaf)))) (.join impl_ParseEvent_j2_p (fun v => impl_ParseEvent_j2 v.1 v.2.1 v.2.2.1) .leaf .leaf)))))))) ?_ ?_
  · exact ⟨conds_leaf _ _, ⟨conds_leaf _ _, ⟨conds_leaf _ _, ⟨⟨conds_leaf _ _, ⟨fun _ => rfl, fun N => ⟨(fun v => by kernel_rfl), ⟨conds_leaf _ _, ⟨conds_leaf _ _, (fun v => by kernel_rfl), conds_leaf _ _⟩⟩⟩⟩⟩, ⟨conds_leaf _ _, ⟨⟨conds_leaf _ _, (fun i _ => conds_leaf _ _)⟩, ⟨conds_leaf _ _, (fun v => by kernel_rfl), conds_leaf _ _⟩⟩⟩⟩⟩⟩⟩
  · intro xs r h
    refine Eq.trans (Eq.symm ?_) h
    kernel_rfl
@[reducible] noncomputable def e_impl_DecodeEvents : FnE := { f := 6, args := [.str], res := [.slice 36 (tyEvent), .bool], F := fun xs => impl_DecodeEvents xs.1 }
theorem ok_impl_DecodeEvents : FnOK Tryd.prog glob e_impl_DecodeEvents := by
  refine FnOK.of (e := e_impl_DecodeEvents) (C := cfg [] [e_strings_Split, e_impl_ParseEvent] [] [] []) (cfg_ok rfl (env_cons ok_strings_Split (env_cons ok_impl_ParseEvent env_nil)) envL_nil envB_nil envW_nil) rfl Tryd.func6 (c := codeOf Tryd.f6) rfl Tryd.call6 (by decide)
    ((.seq .leaf (.seq .leaf (.seq .leaf (.seq (.seq .leaf (.block (.loop impl_DecodeEvents_l1_p (fun N v => impl_DecodeEvents_l1 N v.1 v.2.1 v.2.2.1 v.2.2.2.1 v.2.2.2.2.1 v.2.2.2.2.2.1) (fun v => impl_DecodeEvents_l1_fuel v.1 v.2.1 v.2.2.1 v.2.2.2.1 v.2.2.2.2.1 v.2.2.2.2.2.1) (fun K1 => .leaf)))) .leaf))))) ?_ ?_
  · exact ⟨conds_leaf _ _, ⟨conds_leaf _ _, ⟨conds_leaf _ _, ⟨⟨conds_leaf _ _, ⟨fun _ => rfl, fun N => ⟨(fun v => by kernel_rfl), conds_leaf _ _⟩⟩⟩, conds_leaf _ _⟩⟩⟩⟩
  · intro xs r h
    refine Eq.trans (Eq.symm ?_) h
    kernel_rfl
@[reducible] noncomputable def e_laws_eqEvent : FnE := { f := 17, args := [tyEvent, tyEvent], res := [.bool], F := fun xs => laws_eqEvent xs.1 xs.2.1 }
theorem ok_laws_eqEvent : FnOK Tryd.prog glob e_laws_eqEvent := by
  refine FnOK.of (e := e_laws_eqEvent) (C := cfg [] [] [] [] []) (cfg_ok rfl env_nil envL_nil envB_nil envW_nil) rfl Tryd.func17 (c := codeOf Tryd.f17) rfl Tryd.call17 (by decide)
    (.leaf) ?_ ?_
  · exact conds_leaf _ _
  · intro xs r h
    refine Eq.trans (Eq.symm ?_) h
    kernel_rfl
@[reducible] noncomputable def e_laws_eqEventS : FnE := { f := 7, args := [.slice 36 (tyEvent), .slice 36 (tyEvent)], res := [.bool], F := fun xs => laws_eqEventS xs.1 xs.2.1 }
theorem ok_laws_eqEventS : FnOK Tryd.prog glob e_laws_eqEventS := by
  refine FnOK.of (e := e_laws_eqEventS) (C := cfg [] [e_laws_eqEvent] [] [] []) (cfg_ok rfl (env_cons ok_laws_eqEvent env_nil) envL_nil envB_nil envW_nil) rfl Tryd.func7 (c := codeOf Tryd.f7) rfl Tryd.call7 (by decide)
    ((.seq .leaf (.seq .leaf (.seq (.seq .leaf (.block (.loop laws_eqEventS_l1_p (fun N v => laws_eqEventS_l1 N v.1 v.2.1 v.2.2.1) (fun v => laws_eqEventS_l1_fuel v.1 v.2.1 v.2.2.1) (fun K1 => .leaf)))) .leaf)))) ?_ ?_
  · exact ⟨conds_leaf _ _, ⟨conds_leaf _ _, ⟨⟨conds_leaf _ _, ⟨fun _ => rfl, fun N => ⟨(fun v => by kernel_rfl), conds_leaf _ _⟩⟩⟩, conds_leaf _ _⟩⟩⟩
  · intro xs r h
    refine Eq.trans (Eq.symm ?_) h
    kernel_rfl
@[reducible] noncomputable def e_laws_markText : FnE := { f := 18, args := [.int .i64], res := [.str], F := fun xs => laws_markText xs.1 }
theorem ok_laws_markText : FnOK Tryd.prog glob e_laws_markText := by
  refine FnOK.of (e := e_laws_markText) (C := cfg [] [] [] [] []) (cfg_ok rfl env_nil envL_nil envB_nil envW_nil) rfl Tryd.func18 (c := codeOf Tryd.f18) rfl Tryd.call18 (by decide)
    ((.seq .leaf (.seq .leaf (.seq .leaf (.seq (.block (.loop laws_markText_l1_p (fun N v => laws_markText_l1 N v.1 v.2.1) (fun v => laws_markText_l1_fuel v.1 v.2.1) (fun K1 => .leaf))) .leaf))))) ?_ ?_
  · exact ⟨conds_leaf _ _, ⟨conds_leaf _ _, ⟨conds_leaf _ _, ⟨⟨fun _ => rfl, fun N => ⟨(fun v => by kernel_rfl), conds_leaf _ _⟩⟩, conds_leaf _ _⟩⟩⟩⟩
  · intro xs r h
    refine Eq.trans (Eq.symm ?_) h
    kernel_rfl
@[reducible] noncomputable def e_laws_markEventS : FnL := { f := 8, e := 36, t := tyEvent, args := [.int .i64], res := [.int .i64], F := fun l xs => laws_markEventS l xs.1 }
theorem ok_laws_markEventS : FnLOK Tryd.prog glob e_laws_markEventS := by
  refine FnLOK.of (e := e_laws_markEventS) (C := cfg [0] [e_laws_markText] [] [] []) (cfg_ok rfl (env_cons ok_laws_markText env_nil) envL_nil envB_nil envW_nil) rfl rfl rfl rfl Tryd.func8 (c := codeOf Tryd.f8) rfl Tryd.call8 (by decide)
    ((.seq .leaf (.seq (.seq .leaf (.block (.loop laws_markEventS_l1_p (fun N v => laws_markEventS_l1 N v.1 v.2.1 v.2.2.1) (fun v => laws_markEventS_l1_fuel v.1 v.2.1 v.2.2.1) (fun K1 => .leaf)))) .leaf))) ?_ ?_
  · exact ⟨conds_leaf _ _, ⟨⟨conds_leaf _ _, ⟨fun _ => rfl, fun N => ⟨(fun v => by kernel_rfl), conds_leaf _ _⟩⟩⟩, conds_leaf _ _⟩⟩
  · intro l xs r h
    refine Eq.trans (Eq.symm ?_) h
    kernel_rfl
@[reducible] noncomputable def e_laws_heldEventS : FnE := { f := 9, args := [.slice 36 (tyEvent), .int .i64], res := [.int .i64], F := fun xs => laws_heldEventS xs.1 xs.2.1 }
theorem ok_laws_heldEventS : FnOK Tryd.prog glob e_laws_heldEventS := by
  refine FnOK.of (e := e_laws_heldEventS) (C := cfg [] [e_laws_markText] [] [] []) (cfg_ok rfl (env_cons ok_laws_markText env_nil) envL_nil envB_nil envW_nil) rfl Tryd.func9 (c := codeOf Tryd.f9) rfl Tryd.call9 (by decide)
    ((.seq .leaf (.seq (.seq .leaf (.block (.loop laws_heldEventS_l1_p (fun N v => laws_heldEventS_l1 N v.1 v.2.1 v.2.2.1) (fun v => laws_heldEventS_l1_fuel v.1 v.2.1 v.2.2.1) (fun K1 => .leaf)))) .leaf))) ?_ ?_
  · exact ⟨conds_leaf _ _, ⟨⟨conds_leaf _ _, ⟨fun _ => rfl, fun N => ⟨(fun v => by kernel_rfl), conds_leaf _ _⟩⟩⟩, conds_leaf _ _⟩⟩
  · intro xs r h
    refine Eq.trans (Eq.symm ?_) h
    kernel_rfl
@[reducible] noncomputable def e_laws_FnExactDecodeEvents : FnE := { f := 3, args := [.str], res := [.bool], F := fun xs => laws_FnExactDecodeEvents xs.1 }
theorem ok_laws_FnExactDecodeEvents : FnOK Tryd.prog glob e_laws_FnExactDecodeEvents := by
  refine FnOK.of (e := e_laws_FnExactDecodeEvents) (C := cfg [] [e_spec_DecodeEvents, e_impl_DecodeEvents, e_laws_eqEventS, e_laws_heldEventS] [e_laws_markEventS] [] []) (cfg_ok rfl (env_cons ok_spec_DecodeEvents (env_cons ok_impl_DecodeEvents (env_cons ok_laws_eqEventS (env_cons ok_laws_heldEventS env_nil)))) (envL_cons ok_laws_markEventS envL_nil) envB_nil envW_nil) rfl Tryd.func3 (c := codeOf Tryd.f3) rfl Tryd.call3 (by decide)
    (.leaf) ?_ ?_
  · exact conds_leaf _ _
  · intro xs r h
    refine Eq.trans (Eq.symm ?_) h
    kernel_rfl
end Go.Proofs.YtbcdobkgmgngmaaDoor

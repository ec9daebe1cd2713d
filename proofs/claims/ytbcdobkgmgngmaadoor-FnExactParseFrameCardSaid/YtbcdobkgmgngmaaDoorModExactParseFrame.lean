/- FnExactParseFrame: what the functions that it reaches compute, as plain functions, and that they do so. No condition. -/
import Derived.Test.YtbcdobkgmgngmaaDoorRows
import Derived.Test.YtbcdobkgmgngmaaDoorAm5
import Derived.Test.YtbcdobkgmgngmaaDoorShelf
import Derived.Lib.AppendIntMem
namespace Go.Proofs.YtbcdobkgmgngmaaDoor
open Go.Am
set_option maxRecDepth 100000
set_option linter.unusedVariables false

@[reducible] def tyFrame : Ty := .pair (.int .i64) (.pair (.int .i64) (.pair (.int .i64) (.pair (.str) (.pair (.bool) (.pair (.int .i64) (.pair (.int .i64) (.pair (.int .i64) (.pair (.bool) (.unit)))))))))
@[reducible] def TFrame : Type := Int × Int × Int × List UInt8 × Bool × Int × Int × Int × Bool × Unit
def zFrame : TFrame := ((0 : Int), ((0 : Int), ((0 : Int), (([] : List UInt8), (false, ((0 : Int), ((0 : Int), ((0 : Int), (false, ())))))))))
@[reducible] def spec_l13Cut_j1_p : List PE := [.val 0 (.str) (.u false), .val 1 (.int .u8) (.u false), .val 5 (.slice 9 (.str)) (.u true), .val 6 (.str) (.u false), .val 7 (.int .i64) (.u false)]
noncomputable def spec_l13Cut_j1 (K1 : (List UInt8 × Int × List (List UInt8) × List UInt8 × Int × Unit) → Option (List (List UInt8) × Unit)) (s0_2 : List UInt8) (by1_2 : Int) (out5_1 : List (List UInt8)) (part6_2 : List UInt8) (i7_1 : Int) : Option (List (List UInt8) × Unit) :=
  K1 (s0_2, by1_2, out5_1, part6_2, IntKind.i64.wrap (i7_1 + (1 : Int)), ())
@[reducible] def spec_l13Cut_l1_p : List PE := [.val 0 (.str) (.u false), .val 1 (.int .u8) (.u false), .val 5 (.slice 9 (.str)) (.u true), .val 6 (.str) (.u false), .val 7 (.int .i64) (.u false)]
def spec_l13Cut_l1_fuel (s0_1 : List UInt8) (by1_1 : Int) (out5 : List (List UInt8)) (part6_1 : List UInt8) (i7 : Int) : Nat := ((s0_1.length : Int) - i7).toNat + 1
noncomputable def spec_l13Cut_l1 : Nat → List UInt8 → Int → List (List UInt8) → List UInt8 → Int → Option (List (List UInt8) × Unit)
  | 0, _, _, _, _, _ => none
  | N + 1, s0_1, by1_1, out5, part6_1, i7 =>
    bif decide (i7 < (s0_1.length : Int)) then
      guardP (0 ≤ i7 ∧ i7 < s0_1.length) <|
      bif ((s0_1.getD i7.toNat 0).toNat : Int) == by1_1 then
        guardP (out5.length + ([part6_1]).length ≤ capN) <|
        spec_l13Cut_j1 (fun v => spec_l13Cut_l1 N v.1 v.2.1 v.2.2.1 v.2.2.2.1 v.2.2.2.2.1) s0_1 by1_1 (out5 ++ ([part6_1])) ([] : List UInt8) i7
      else
        guardP (0 ≤ i7 ∧ i7 ≤ (IntKind.i64.wrap (i7 + (1 : Int))) ∧ (IntKind.i64.wrap (i7 + (1 : Int))) ≤ s0_1.length) <|
        let t29 : List UInt8 := (s0_1.drop i7.toNat).take ((IntKind.i64.wrap (i7 + (1 : Int))).toNat - i7.toNat)
        guardP (part6_1.length + t29.length ≤ capS) <|
        spec_l13Cut_j1 (fun v => spec_l13Cut_l1 N v.1 v.2.1 v.2.2.1 v.2.2.2.1 v.2.2.2.2.1) s0_1 by1_1 out5 (part6_1 ++ t29) i7
    else
      guardP (out5.length + ([part6_1]).length ≤ capN) <|
      some (out5 ++ ([part6_1]), ())
noncomputable def spec_l13Cut (s0 : List UInt8) (by1 : Int) : Option (List (List UInt8) × Unit) :=
  spec_l13Cut_l1 (spec_l13Cut_l1_fuel s0 by1 ([] : List (List UInt8)) ([] : List UInt8) (0 : Int)) s0 by1 ([] : List (List UInt8)) ([] : List UInt8) (0 : Int)
noncomputable def spec_KindName (kind0 : Int) : Option (List UInt8 × Unit) :=
  bif kind0 == (4 : Int) then
    some (([114, 101, 115, 101, 116] : List UInt8), ())
  else
    bif kind0 == (5 : Int) then
      some (([115, 116, 111, 112] : List UInt8), ())
    else
      bif kind0 == (8 : Int) then
        some (([115, 116, 114, 101, 97, 109] : List UInt8), ())
      else
        bif kind0 == (16 : Int) then
          some (([109, 97, 120, 100, 97, 116, 97] : List UInt8), ())
        else
          bif kind0 == (17 : Int) then
            some (([109, 97, 120, 115, 116, 114, 101, 97, 109, 100, 97, 116, 97] : List UInt8), ())
          else
            bif kind0 == (18 : Int) then
              some (([109, 97, 120, 115, 116, 114, 101, 97, 109, 115] : List UInt8), ())
            else
              bif kind0 == (20 : Int) then
                some (([100, 97, 116, 97, 98, 108, 111, 99, 107, 101, 100] : List UInt8), ())
              else
                bif kind0 == (21 : Int) then
                  some (([115, 116, 114, 101, 97, 109, 100, 97, 116, 97, 98, 108, 111, 99, 107, 101, 100] : List UInt8), ())
                else
                  bif kind0 == (22 : Int) then
                    some (([115, 116, 114, 101, 97, 109, 115, 98, 108, 111, 99, 107, 101, 100] : List UInt8), ())
                  else
                    some (([] : List UInt8), ())
@[reducible] def spec_IsAboutStream_j1_p : List PE := [.val 5 (.bool) (.u false)]
noncomputable def spec_IsAboutStream_j1 (t5 : Bool) : Option (Bool × Unit) :=
  bif t5 then
    some (true, ())
  else
    some (false, ())
noncomputable def spec_IsAboutStream (f0 : TFrame) : Option (Bool × Unit) :=
  bif f0.1 == (4 : Int) then
    spec_IsAboutStream_j1 (f0.1 == (4 : Int))
  else
    bif f0.1 == (5 : Int) then
      spec_IsAboutStream_j1 (f0.1 == (5 : Int))
    else
      bif f0.1 == (8 : Int) then
        spec_IsAboutStream_j1 (f0.1 == (8 : Int))
      else
        bif f0.1 == (17 : Int) then
          spec_IsAboutStream_j1 (f0.1 == (17 : Int))
        else
          spec_IsAboutStream_j1 (f0.1 == (21 : Int))
@[reducible] def spec_FormatInt_j1_p : List PE := [.val 0 (.int .i64) (.u false), .val 3 (.str) (.u false), .val 4 (.bool) (.u false), .val 5 (.int .i64) (.u false)]
noncomputable def spec_FormatInt_j1 (K1 : (Int × List UInt8 × Bool × Unit) → Option (List UInt8 × Unit)) (n0_2 : Int) (out3_2 : List UInt8) (neg4_1 : Bool) (d5 : Int) : Option (List UInt8 × Unit) :=
  let t22 : List UInt8 := bytesOf ([(IntKind.u8.wrap (IntKind.i64.wrap ((48 : Int) + d5)))])
  guardP (t22.length + out3_2.length ≤ capS) <|
  guardP ((10 : Int) ≠ 0) <|
  K1 (IntKind.i64.wrap (Int.tdiv n0_2 (10 : Int)), t22 ++ out3_2, neg4_1, ())
@[reducible] def spec_FormatInt_l1_p : List PE := [.val 0 (.int .i64) (.u false), .val 3 (.str) (.u false), .val 4 (.bool) (.u false)]
def spec_FormatInt_l1_fuel (n0_1 : Int) (out3_1 : List UInt8) (neg4 : Bool) : Nat := 1048577 + (n0_1.toNat - n0_1.toNat)
noncomputable def spec_FormatInt_l1 : Nat → Int → List UInt8 → Bool → Option (List UInt8 × Unit)
  | 0, _, _, _ => none
  | N + 1, n0_1, out3_1, neg4 =>
    bif n0_1 != (0 : Int) then
      guardP ((10 : Int) ≠ 0) <|
      bif decide ((Int.tmod n0_1 (10 : Int)) < (0 : Int)) then
        spec_FormatInt_j1 (fun v => spec_FormatInt_l1 N v.1 v.2.1 v.2.2.1) n0_1 out3_1 neg4 (IntKind.i64.wrap (0 - (Int.tmod n0_1 (10 : Int))))
      else
        spec_FormatInt_j1 (fun v => spec_FormatInt_l1 N v.1 v.2.1 v.2.2.1) n0_1 out3_1 neg4 (Int.tmod n0_1 (10 : Int))
    else
      bif neg4 then
        guardP (([45] : List UInt8).length + out3_1.length ≤ capS) <|
        some (([45] : List UInt8) ++ out3_1, ())
      else
        some (out3_1, ())
noncomputable def spec_FormatInt (n0 : Int) : Option (List UInt8 × Unit) :=
  bif n0 == (0 : Int) then
    some (([48] : List UInt8), ())
  else
    spec_FormatInt_l1 (spec_FormatInt_l1_fuel n0 ([] : List UInt8) (decide (n0 < (0 : Int)))) n0 ([] : List UInt8) (decide (n0 < (0 : Int)))
@[reducible] def spec_ParseInt_j1_p : List PE := [.val 0 (.str) (.u false), .val 4 (.int .i64) (.u false), .val 5 (.int .i64) (.u false), .val 6 (.int .i64) (.u false)]
noncomputable def spec_ParseInt_j1 (K1 : (List UInt8 × Int × Int × Int × Unit) → Option (Int × Bool × Unit)) (s0_2 : List UInt8) (n4_1 : Int) (k5_1 : Int) (i6_1 : Int) : Option (Int × Bool × Unit) :=
  K1 (s0_2, n4_1, k5_1, IntKind.i64.wrap (i6_1 + (1 : Int)), ())
@[reducible] def spec_ParseInt_j2_p : List PE := [.val 0 (.str) (.u false), .val 4 (.int .i64) (.u false), .val 5 (.int .i64) (.u false)]
noncomputable def spec_ParseInt_j2 (s0_3 : List UInt8) (n4_2 : Int) (k5_2 : Int) : Option (Int × Bool × Unit) :=
  let t53 : Bool := (decide (k5_2 > (9 : Int))) || (decide ((s0_3.length : Int) > (10 : Int)))
  Option.bind (bif t53 then some (([] : List UInt8), ()) else (spec_FormatInt n4_2)) fun t56 =>
  bif t53 || (!(t56.1 == s0_3)) then
    some ((0 : Int), false, ())
  else
    some (n4_2, true, ())
@[reducible] def spec_ParseInt_l1_p : List PE := [.val 0 (.str) (.u false), .val 4 (.int .i64) (.u false), .val 5 (.int .i64) (.u false), .val 6 (.int .i64) (.u false)]
def spec_ParseInt_l1_fuel (s0_1 : List UInt8) (n4 : Int) (k5 : Int) (i6 : Int) : Nat := ((s0_1.length : Int) - i6).toNat + 1
noncomputable def spec_ParseInt_l1 : Nat → List UInt8 → Int → Int → Int → Option (Int × Bool × Unit)
  | 0, _, _, _, _ => none
  | N + 1, s0_1, n4, k5, i6 =>
    bif (decide (i6 < (s0_1.length : Int))) && (decide (i6 < (11 : Int))) then
      guardP (0 ≤ i6 ∧ i6 < s0_1.length) <|
      let t20 : Bool := decide (((s0_1.getD i6.toNat 0).toNat : Int) ≥ (48 : Int))
      guardP ((t20 = true → (0 ≤ i6 ∧ i6 < s0_1.length))) <|
      bif t20 && (decide (((s0_1.getD i6.toNat 0).toNat : Int) ≤ (57 : Int))) then
        guardP (0 ≤ i6 ∧ i6 < s0_1.length) <|
        spec_ParseInt_j1 (fun v => spec_ParseInt_l1 N v.1 v.2.1 v.2.2.1 v.2.2.2.1) s0_1 (IntKind.i64.wrap ((IntKind.i64.wrap (n4 * (10 : Int))) + (IntKind.i64.wrap (IntKind.u8.wrap (((s0_1.getD i6.toNat 0).toNat : Int) - (48 : Int)))))) (IntKind.i64.wrap (k5 + (1 : Int))) i6
      else
        spec_ParseInt_j1 (fun v => spec_ParseInt_l1 N v.1 v.2.1 v.2.2.1 v.2.2.2.1) s0_1 n4 k5 i6
    else
      guardP (((decide ((s0_1.length : Int) > (0 : Int))) = true → (0 ≤ (0 : Int) ∧ (0 : Int) < s0_1.length))) <|
      bif (decide ((s0_1.length : Int) > (0 : Int))) && (((s0_1.getD (0 : Int).toNat 0).toNat : Int) == (45 : Int)) then
        spec_ParseInt_j2 s0_1 (IntKind.i64.wrap (0 - n4)) k5
      else
        spec_ParseInt_j2 s0_1 n4 k5
noncomputable def spec_ParseInt (s0 : List UInt8) : Option (Int × Bool × Unit) :=
  spec_ParseInt_l1 (spec_ParseInt_l1_fuel s0 (0 : Int) (0 : Int) (0 : Int)) s0 (0 : Int) (0 : Int) (0 : Int)
noncomputable def spec_l23Num (s0 : List UInt8) : Option (Int × Unit) :=
  Option.bind (spec_ParseInt s0) fun t7 =>
  bif !t7.2.1 then
    some ((-1 : Int), ())
  else
    some (t7.1, ())
noncomputable def spec_l32At (w0 : List (List UInt8)) (at1 : Int) : Option (Int × Unit) :=
  bif decide (at1 ≥ (w0.length : Int)) then
    some ((-1 : Int), ())
  else
    guardP (0 ≤ at1 ∧ at1 < w0.length) <|
    Option.bind (spec_l23Num (w0.getD at1.toNat ([] : List UInt8))) fun t13 =>
    some (t13.1, ())
noncomputable def spec_l1Digit (k0 : Int) : Option (Int × Unit) :=
  guardP (0 ≤ k0 ∧ k0 < ([48, 49, 50, 51, 52, 53, 54, 55, 56, 57, 97, 98, 99, 100, 101, 102] : List UInt8).length) <|
  some (((([48, 49, 50, 51, 52, 53, 54, 55, 56, 57, 97, 98, 99, 100, 101, 102] : List UInt8).getD k0.toNat 0).toNat : Int), ())
@[reducible] def spec_l1FromHex_l1_p : List PE := [.val 0 (.int .u8) (.u false), .val 3 (.int .i64) (.u false)]
def spec_l1FromHex_l1_fuel (b0_1 : Int) (k3 : Int) : Nat := ((16 : Int) - k3).toNat + 1
noncomputable def spec_l1FromHex_l1 : Nat → Int → Int → Option (Int × Unit)
  | 0, _, _ => none
  | N + 1, b0_1, k3 =>
    bif decide (k3 < (16 : Int)) then
      Option.bind (spec_l1Digit k3) fun t9 =>
      bif t9.1 == b0_1 then
        some (k3, ())
      else
        spec_l1FromHex_l1 N b0_1 (IntKind.i64.wrap (k3 + (1 : Int)))
    else
      some ((-1 : Int), ())
noncomputable def spec_l1FromHex (b0 : Int) : Option (Int × Unit) :=
  spec_l1FromHex_l1 (spec_l1FromHex_l1_fuel b0 (0 : Int)) b0 (0 : Int)
@[reducible] def spec_DecodeHex_l1_p : List PE := [.val 0 (.str) (.u false), .val 4 (.slice 5 (.int .u8)) (.u true), .val 5 (.int .i64) (.u false)]
def spec_DecodeHex_l1_fuel (s0_1 : List UInt8) (out4 : List Int) (i5 : Int) : Nat := ((s0_1.length : Int) - i5).toNat + 1
noncomputable def spec_DecodeHex_l1 : Nat → List UInt8 → List Int → Int → Option (List UInt8 × Bool × Unit)
  | 0, _, _, _ => none
  | N + 1, s0_1, out4, i5 =>
    bif decide (i5 < (s0_1.length : Int)) then
      guardP (0 ≤ i5 ∧ i5 < s0_1.length) <|
      Option.bind (spec_l1FromHex ((s0_1.getD i5.toNat 0).toNat : Int)) fun t22 =>
      guardP (0 ≤ (IntKind.i64.wrap (i5 + (1 : Int))) ∧ (IntKind.i64.wrap (i5 + (1 : Int))) < s0_1.length) <|
      Option.bind (spec_l1FromHex ((s0_1.getD (IntKind.i64.wrap (i5 + (1 : Int))).toNat 0).toNat : Int)) fun t27 =>
      bif (decide (t22.1 < (0 : Int))) || (decide (t27.1 < (0 : Int))) then
        some (([] : List UInt8), false, ())
      else
        let t40 : List Int := [(IntKind.u8.wrap (IntKind.i64.wrap ((IntKind.i64.wrap ((16 : Int) * t22.1)) + t27.1)))]
        guardP (out4.length + t40.length ≤ capN) <|
        spec_DecodeHex_l1 N s0_1 (out4 ++ t40) (IntKind.i64.wrap (i5 + (2 : Int)))
    else
      some (bytesOf out4, true, ())
noncomputable def spec_DecodeHex (s0 : List UInt8) : Option (List UInt8 × Bool × Unit) :=
  guardP ((2 : Int) ≠ 0) <|
  bif (Int.tmod (s0.length : Int) (2 : Int)) == (1 : Int) then
    some (([] : List UInt8), false, ())
  else
    spec_DecodeHex_l1 (spec_DecodeHex_l1_fuel s0 ([] : List Int) (0 : Int)) s0 ([] : List Int) (0 : Int)
@[reducible] def spec_l4Used_j2_p : List PE := [.box 1 29 (tyFrame) (.u false), .box 2 29 (tyFrame) (.u false), .box 3 29 (tyFrame) (.u false), .val 41 (.bool) (.u false)]
noncomputable def spec_l4Used_j2 (f1_1 : TFrame) (t2_1 : TFrame) (x3_1 : TFrame) (t41 : Bool) : Option (TFrame × Unit) :=
  bif t41 then
    some ((x3_1.1, (x3_1.2.1, (x3_1.2.2.1, (x3_1.2.2.2.1, (x3_1.2.2.2.2.1, (x3_1.2.2.2.2.2.1, (f1_1.2.2.2.2.2.2.1, (x3_1.2.2.2.2.2.2.2.1, (f1_1.2.2.2.2.2.2.2.2.1, x3_1.2.2.2.2.2.2.2.2.2))))))))), ())
  else
    some ((x3_1.1, (x3_1.2.1, (x3_1.2.2.1, (x3_1.2.2.2.1, (x3_1.2.2.2.2.1, (x3_1.2.2.2.2.2.1, (f1_1.2.2.2.2.2.2.1, x3_1.2.2.2.2.2.2.2))))))), ())
@[reducible] def spec_l4Used_j1_p : List PE := [.box 1 29 (tyFrame) (.u false), .box 2 29 (tyFrame) (.u false), .box 3 29 (tyFrame) (.u false)]
noncomputable def spec_l4Used_j1 (f1 : TFrame) (t2 : TFrame) (x3 : TFrame) : Option (TFrame × Unit) :=
  bif f1.1 == (4 : Int) then
    some ((x3.1, (x3.2.1, (x3.2.2.1, (x3.2.2.2.1, (x3.2.2.2.2.1, (f1.2.2.2.2.2.1, (x3.2.2.2.2.2.2.1, (f1.2.2.2.2.2.2.2.1, x3.2.2.2.2.2.2.2.2)))))))), ())
  else
    bif f1.1 == (5 : Int) then
      some ((x3.1, (x3.2.1, (x3.2.2.1, (x3.2.2.2.1, (x3.2.2.2.2.1, (f1.2.2.2.2.2.1, x3.2.2.2.2.2.2)))))), ())
    else
      bif f1.1 == (8 : Int) then
        some ((x3.1, (x3.2.1, (f1.2.2.1, (f1.2.2.2.1, (f1.2.2.2.2.1, x3.2.2.2.2.2))))), ())
      else
        bif f1.1 == (18 : Int) then
          spec_l4Used_j2 f1 t2 x3 (f1.1 == (18 : Int))
        else
          spec_l4Used_j2 f1 t2 x3 (f1.1 == (22 : Int))
noncomputable def spec_l4Used (f0 : TFrame) : Option (TFrame × Unit) :=
  Option.bind (spec_IsAboutStream f0) fun t8 =>
  bif t8.1 then
    spec_l4Used_j1 f0 ((0 : Int), ((0 : Int), ((0 : Int), (([] : List UInt8), (false, ((0 : Int), ((0 : Int), ((0 : Int), (false, ()))))))))) (f0.1, (f0.2.1, ((0 : Int), (([] : List UInt8), (false, ((0 : Int), ((0 : Int), ((0 : Int), (false, ())))))))))
  else
    spec_l4Used_j1 f0 ((0 : Int), ((0 : Int), ((0 : Int), (([] : List UInt8), (false, ((0 : Int), ((0 : Int), ((0 : Int), (false, ()))))))))) (f0.1, ((0 : Int), ((0 : Int), (([] : List UInt8), (false, ((0 : Int), ((0 : Int), ((0 : Int), (false, ())))))))))
noncomputable def spec_l1In (x0 : Int) (low1 : Int) (high2 : Int) : Option (Bool × Unit) :=
  some ((decide (x0 ≥ low1)) && (decide (x0 ≤ high2)), ())
noncomputable def spec_l4Quic (n0 : Int) : Option (Bool × Unit) :=
  Option.bind (spec_l1In n0 (0 : Int) (4611686018427387903 : Int)) fun t4 =>
  some (t4.1, ())
@[reducible] def spec_IsFrame_j1_p : List PE := [.box 1 29 (tyFrame) (.u false), .val 60 (.bool) (.u false)]
noncomputable def spec_IsFrame_j1 (f1 : TFrame) (t60 : Bool) : Option (Bool × Unit) :=
  bif t60 then
    some (decide (f1.2.2.2.2.2.2.1 ≤ (1152921504606846976 : Int)), ())
  else
    some (true, ())
noncomputable def spec_IsFrame (f0 : TFrame) : Option (Bool × Unit) :=
  Option.bind (spec_KindName f0.1) fun t5 =>
  Option.bind (bif (t5.1 == ([] : List UInt8)) then some (((0 : Int), ((0 : Int), ((0 : Int), (([] : List UInt8), (false, ((0 : Int), ((0 : Int), ((0 : Int), (false, ()))))))))), ()) else (spec_l4Used f0)) fun t9 =>
  let t12 : Bool := (t5.1 == ([] : List UInt8)) || (!(eqV (tyFrame) t9.1 f0))
  Option.bind (bif t12 then some (false, ()) else (spec_l4Quic f0.2.1)) fun t16 =>
  Option.bind (bif (t12 || (!t16.1)) then some (false, ()) else (spec_l4Quic f0.2.2.1)) fun t22 =>
  let t24 : Bool := (t12 || (!t16.1)) || (!t22.1)
  Option.bind (bif t24 then some (false, ()) else (spec_l4Quic f0.2.2.2.2.2.1)) fun t28 =>
  Option.bind (bif (t24 || (!t28.1)) then some (false, ()) else (spec_l4Quic f0.2.2.2.2.2.2.1)) fun t34 =>
  let t36 : Bool := (t24 || (!t28.1)) || (!t34.1)
  Option.bind (bif t36 then some (false, ()) else (spec_l4Quic f0.2.2.2.2.2.2.2.1)) fun t40 =>
  bif (t36 || (!t40.1)) || (decide ((f0.2.2.2.1.length : Int) > (400 : Int))) then
    some (false, ())
  else
    bif f0.1 == (8 : Int) then
      some (decide (f0.2.2.1 ≤ (IntKind.i64.wrap ((4611686018427387903 : Int) - (f0.2.2.2.1.length : Int)))), ())
    else
      bif f0.1 == (18 : Int) then
        spec_IsFrame_j1 f0 (f0.1 == (18 : Int))
      else
        spec_IsFrame_j1 f0 (f0.1 == (22 : Int))
noncomputable def spec_l32Small (n0 : Int) : Option (Bool × Unit) :=
  Option.bind (spec_l1In n0 (0 : Int) (999999999 : Int)) fun t4 =>
  some (t4.1, ())
@[reducible] def spec_EncodeHex_l1_p : List PE := [.val 0 (.str) (.u false), .val 3 (.slice 5 (.int .u8)) (.u true), .val 4 (.int .i64) (.u false)]
def spec_EncodeHex_l1_fuel (s0_1 : List UInt8) (out3 : List Int) (i4 : Int) : Nat := ((s0_1.length : Int) - i4).toNat + 1
noncomputable def spec_EncodeHex_l1 : Nat → List UInt8 → List Int → Int → Option (List UInt8 × Unit)
  | 0, _, _, _ => none
  | N + 1, s0_1, out3, i4 =>
    bif decide (i4 < (s0_1.length : Int)) then
      guardP (0 ≤ i4 ∧ i4 < s0_1.length) <|
      guardP ((16 : Int) ≠ 0) <|
      guardP (0 ≤ i4 ∧ i4 < s0_1.length) <|
      guardP ((16 : Int) ≠ 0) <|
      Option.bind (spec_l1Digit (IntKind.i64.wrap (Int.tdiv (IntKind.i64.wrap ((s0_1.getD i4.toNat 0).toNat : Int)) (16 : Int)))) fun t18 =>
      Option.bind (spec_l1Digit (Int.tmod (IntKind.i64.wrap ((s0_1.getD i4.toNat 0).toNat : Int)) (16 : Int))) fun t24 =>
      guardP (out3.length + ([t18.1, t24.1]).length ≤ capN) <|
      spec_EncodeHex_l1 N s0_1 (out3 ++ ([t18.1, t24.1])) (IntKind.i64.wrap (i4 + (1 : Int)))
    else
      some (bytesOf out3, ())
noncomputable def spec_EncodeHex (s0 : List UInt8) : Option (List UInt8 × Unit) :=
  spec_EncodeHex_l1 (spec_EncodeHex_l1_fuel s0 ([] : List Int) (0 : Int)) s0 ([] : List Int) (0 : Int)
noncomputable def spec_l32Fin (is0 : Bool) : Option (List UInt8 × Unit) :=
  bif is0 then
    some (([32, 102, 105, 110] : List UInt8), ())
  else
    some (([] : List UInt8), ())
noncomputable def spec_l32Uni (is0 : Bool) : Option (List UInt8 × Unit) :=
  bif is0 then
    some (([32, 117, 110, 105] : List UInt8), ())
  else
    some (([32, 98, 105, 100, 105] : List UInt8), ())
@[reducible] def spec_FormatFrame_j2_p : List PE := [.box 1 29 (tyFrame) (.u false), .val 3 (.str) (.u false), .val 109 (.bool) (.u false)]
noncomputable def spec_FormatFrame_j2 (f1_1 : TFrame) (s3_1 : List UInt8) (t109 : Bool) : Option (List UInt8 × Unit) :=
  bif t109 then
    guardP (s3_1.length + ([32] : List UInt8).length ≤ capS) <|
    Option.bind (spec_FormatInt f1_1.2.2.2.2.2.2.1) fun t116 =>
    guardP ((s3_1 ++ ([32] : List UInt8)).length + t116.1.length ≤ capS) <|
    Option.bind (spec_l32Uni f1_1.2.2.2.2.2.2.2.2.1) fun t120 =>
    guardP (((s3_1 ++ ([32] : List UInt8)) ++ t116.1).length + t120.1.length ≤ capS) <|
    some (((s3_1 ++ ([32] : List UInt8)) ++ t116.1) ++ t120.1, ())
  else
    guardP (s3_1.length + ([32] : List UInt8).length ≤ capS) <|
    Option.bind (spec_FormatInt f1_1.2.2.2.2.2.2.1) fun t126 =>
    guardP ((s3_1 ++ ([32] : List UInt8)).length + t126.1.length ≤ capS) <|
    some ((s3_1 ++ ([32] : List UInt8)) ++ t126.1, ())
@[reducible] def spec_FormatFrame_j1_p : List PE := [.box 1 29 (tyFrame) (.u false), .val 3 (.str) (.u false), .val 41 (.int .i64) (.u false), .val 95 (.bool) (.u false)]
noncomputable def spec_FormatFrame_j1 (f1 : TFrame) (s3 : List UInt8) (t41 : Int) (t95 : Bool) : Option (List UInt8 × Unit) :=
  bif t95 then
    guardP (s3.length + ([32] : List UInt8).length ≤ capS) <|
    Option.bind (spec_FormatInt f1.2.1) fun t102 =>
    guardP ((s3 ++ ([32] : List UInt8)).length + t102.1.length ≤ capS) <|
    guardP (((s3 ++ ([32] : List UInt8)) ++ t102.1).length + ([32] : List UInt8).length ≤ capS) <|
    let t104 : List UInt8 := ((s3 ++ ([32] : List UInt8)) ++ t102.1) ++ ([32] : List UInt8)
    Option.bind (spec_FormatInt f1.2.2.2.2.2.2.1) fun t107 =>
    guardP (t104.length + t107.1.length ≤ capS) <|
    some (t104 ++ t107.1, ())
  else
    bif t41 == (18 : Int) then
      spec_FormatFrame_j2 f1 s3 (t41 == (18 : Int))
    else
      spec_FormatFrame_j2 f1 s3 (t41 == (22 : Int))
noncomputable def spec_FormatFrame (f0 : TFrame) : Option (List UInt8 × Unit) :=
  Option.bind (spec_IsFrame f0) fun t5 =>
  Option.bind (bif (!t5.1) then some (false, ()) else (spec_l32Small f0.2.1)) fun t10 =>
  Option.bind (bif ((!t5.1) || (!t10.1)) then some (false, ()) else (spec_l32Small f0.2.2.1)) fun t16 =>
  let t18 : Bool := ((!t5.1) || (!t10.1)) || (!t16.1)
  Option.bind (bif t18 then some (false, ()) else (spec_l32Small f0.2.2.2.2.2.1)) fun t22 =>
  Option.bind (bif (t18 || (!t22.1)) then some (false, ()) else (spec_l32Small f0.2.2.2.2.2.2.1)) fun t28 =>
  let t30 : Bool := (t18 || (!t22.1)) || (!t28.1)
  Option.bind (bif t30 then some (false, ()) else (spec_l32Small f0.2.2.2.2.2.2.2.1)) fun t34 =>
  bif t30 || (!t34.1) then
    some (([] : List UInt8), ())
  else
    Option.bind (spec_KindName f0.1) fun t39 =>
    bif f0.1 == (4 : Int) then
      guardP (t39.1.length + ([32] : List UInt8).length ≤ capS) <|
      Option.bind (spec_FormatInt f0.2.1) fun t48 =>
      guardP ((t39.1 ++ ([32] : List UInt8)).length + t48.1.length ≤ capS) <|
      guardP (((t39.1 ++ ([32] : List UInt8)) ++ t48.1).length + ([32] : List UInt8).length ≤ capS) <|
      let t50 : List UInt8 := ((t39.1 ++ ([32] : List UInt8)) ++ t48.1) ++ ([32] : List UInt8)
      Option.bind (spec_FormatInt f0.2.2.2.2.2.1) fun t53 =>
      guardP (t50.length + t53.1.length ≤ capS) <|
      guardP ((t50 ++ t53.1).length + ([32] : List UInt8).length ≤ capS) <|
      Option.bind (spec_FormatInt f0.2.2.2.2.2.2.2.1) fun t58 =>
      guardP (((t50 ++ t53.1) ++ ([32] : List UInt8)).length + t58.1.length ≤ capS) <|
      some (((t50 ++ t53.1) ++ ([32] : List UInt8)) ++ t58.1, ())
    else
      bif f0.1 == (5 : Int) then
        guardP (t39.1.length + ([32] : List UInt8).length ≤ capS) <|
        Option.bind (spec_FormatInt f0.2.1) fun t66 =>
        guardP ((t39.1 ++ ([32] : List UInt8)).length + t66.1.length ≤ capS) <|
        guardP (((t39.1 ++ ([32] : List UInt8)) ++ t66.1).length + ([32] : List UInt8).length ≤ capS) <|
        let t68 : List UInt8 := ((t39.1 ++ ([32] : List UInt8)) ++ t66.1) ++ ([32] : List UInt8)
        Option.bind (spec_FormatInt f0.2.2.2.2.2.1) fun t71 =>
        guardP (t68.length + t71.1.length ≤ capS) <|
        some (t68 ++ t71.1, ())
      else
        bif f0.1 == (8 : Int) then
          guardP (t39.1.length + ([32] : List UInt8).length ≤ capS) <|
          Option.bind (spec_FormatInt f0.2.1) fun t79 =>
          guardP ((t39.1 ++ ([32] : List UInt8)).length + t79.1.length ≤ capS) <|
          guardP (((t39.1 ++ ([32] : List UInt8)) ++ t79.1).length + ([32] : List UInt8).length ≤ capS) <|
          let t81 : List UInt8 := ((t39.1 ++ ([32] : List UInt8)) ++ t79.1) ++ ([32] : List UInt8)
          Option.bind (spec_FormatInt f0.2.2.1) fun t84 =>
          guardP (t81.length + t84.1.length ≤ capS) <|
          guardP ((t81 ++ t84.1).length + ([32, 120] : List UInt8).length ≤ capS) <|
          let t86 : List UInt8 := (t81 ++ t84.1) ++ ([32, 120] : List UInt8)
          Option.bind (spec_EncodeHex f0.2.2.2.1) fun t89 =>
          guardP (t86.length + t89.1.length ≤ capS) <|
          Option.bind (spec_l32Fin f0.2.2.2.2.1) fun t93 =>
          guardP ((t86 ++ t89.1).length + t93.1.length ≤ capS) <|
          some ((t86 ++ t89.1) ++ t93.1, ())
        else
          bif f0.1 == (17 : Int) then
            spec_FormatFrame_j1 f0 t39.1 f0.1 (f0.1 == (17 : Int))
          else
            spec_FormatFrame_j1 f0 t39.1 f0.1 (f0.1 == (21 : Int))
@[reducible] def spec_ParseFrame_j1_p : List PE := [.val 0 (.str) (.u false), .box 2 29 (tyFrame) (.u false), .val 4 (.slice 9 (.str)) (.u true), .box 5 29 (tyFrame) (.u false), .val 6 (.int .i64) (.u false)]
noncomputable def spec_ParseFrame_j1 (K1 : (List UInt8 × TFrame × List (List UInt8) × TFrame × Int × Unit) → Option (TFrame × Bool × Unit)) (s0_2 : List UInt8) (t2_1 : TFrame) (w4_1 : List (List UInt8)) (f5_1 : TFrame) (k6_1 : Int) : Option (TFrame × Bool × Unit) :=
  K1 (s0_2, t2_1, w4_1, f5_1, IntKind.i64.wrap (k6_1 + (1 : Int)), ())
@[reducible] def spec_ParseFrame_j3_p : List PE := [.val 0 (.str) (.u false), .box 2 29 (tyFrame) (.u false), .box 5 29 (tyFrame) (.u false)]
noncomputable def spec_ParseFrame_j3 (s0_4 : List UInt8) (t2_3 : TFrame) (f5_3 : TFrame) : Option (TFrame × Bool × Unit) :=
  Option.bind (bif (s0_4 == ([] : List UInt8)) then some (([] : List UInt8), ()) else (spec_FormatFrame f5_3)) fun t108 =>
  bif (s0_4 == ([] : List UInt8)) || (!(t108.1 == s0_4)) then
    some (((0 : Int), ((0 : Int), ((0 : Int), (([] : List UInt8), (false, ((0 : Int), ((0 : Int), ((0 : Int), (false, ()))))))))), false, ())
  else
    some (f5_3, true, ())
@[reducible] def spec_ParseFrame_j4_p : List PE := [.val 0 (.str) (.u false), .box 2 29 (tyFrame) (.u false), .val 4 (.slice 9 (.str)) (.u true), .box 5 29 (tyFrame) (.u false)]
noncomputable def spec_ParseFrame_j4 (s0_5 : List UInt8) (t2_4 : TFrame) (w4_3 : List (List UInt8)) (f5_4 : TFrame) : Option (TFrame × Bool × Unit) :=
  spec_ParseFrame_j3 s0_5 t2_4 (f5_4.1, (f5_4.2.1, (f5_4.2.2.1, (f5_4.2.2.2.1, ((w4_3.length : Int) == (5 : Int), f5_4.2.2.2.2.2)))))
@[reducible] def spec_ParseFrame_j6_p : List PE := [.val 0 (.str) (.u false), .box 2 29 (tyFrame) (.u false), .val 4 (.slice 9 (.str)) (.u true), .box 5 29 (tyFrame) (.u false), .val 88 (.bool) (.u false)]
noncomputable def spec_ParseFrame_j6 (s0_7 : List UInt8) (t2_6 : TFrame) (w4_5 : List (List UInt8)) (f5_6 : TFrame) (t88 : Bool) : Option (TFrame × Bool × Unit) :=
  bif t88 then
    Option.bind (spec_l32At w4_5 (1 : Int)) fun t92 =>
    guardP ((((w4_5.length : Int) == (3 : Int)) = true → (0 ≤ (2 : Int) ∧ (2 : Int) < w4_5.length))) <|
    spec_ParseFrame_j3 s0_7 t2_6 (f5_6.1, (f5_6.2.1, (f5_6.2.2.1, (f5_6.2.2.2.1, (f5_6.2.2.2.2.1, (f5_6.2.2.2.2.2.1, (t92.1, (f5_6.2.2.2.2.2.2.2.1, (((w4_5.length : Int) == (3 : Int)) && ((w4_5.getD (2 : Int).toNat ([] : List UInt8)) == ([117, 110, 105] : List UInt8)), f5_6.2.2.2.2.2.2.2.2.2)))))))))
  else
    Option.bind (spec_l32At w4_5 (1 : Int)) fun t38 =>
    spec_ParseFrame_j3 s0_7 t2_6 (f5_6.1, (f5_6.2.1, (f5_6.2.2.1, (f5_6.2.2.2.1, (f5_6.2.2.2.2.1, (f5_6.2.2.2.2.2.1, (t38.1, f5_6.2.2.2.2.2.2.2)))))))
@[reducible] def spec_ParseFrame_j5_p : List PE := [.val 0 (.str) (.u false), .box 2 29 (tyFrame) (.u false), .val 4 (.slice 9 (.str)) (.u true), .box 5 29 (tyFrame) (.u false), .val 36 (.int .i64) (.u false), .val 82 (.bool) (.u false)]
noncomputable def spec_ParseFrame_j5 (s0_6 : List UInt8) (t2_5 : TFrame) (w4_4 : List (List UInt8)) (f5_5 : TFrame) (t36 : Int) (t82 : Bool) : Option (TFrame × Bool × Unit) :=
  bif t82 then
    Option.bind (spec_l32At w4_4 (2 : Int)) fun t86 =>
    spec_ParseFrame_j3 s0_6 t2_5 (f5_5.1, (f5_5.2.1, (f5_5.2.2.1, (f5_5.2.2.2.1, (f5_5.2.2.2.2.1, (f5_5.2.2.2.2.2.1, (t86.1, f5_5.2.2.2.2.2.2.2)))))))
  else
    bif t36 == (18 : Int) then
      spec_ParseFrame_j6 s0_6 t2_5 w4_4 f5_5 (t36 == (18 : Int))
    else
      spec_ParseFrame_j6 s0_6 t2_5 w4_4 f5_5 (t36 == (22 : Int))
@[reducible] def spec_ParseFrame_j2_p : List PE := [.val 0 (.str) (.u false), .box 2 29 (tyFrame) (.u false), .val 4 (.slice 9 (.str)) (.u true), .box 5 29 (tyFrame) (.u false)]
noncomputable def spec_ParseFrame_j2 (s0_3 : List UInt8) (t2_2 : TFrame) (w4_2 : List (List UInt8)) (f5_2 : TFrame) : Option (TFrame × Bool × Unit) :=
  bif f5_2.1 == (4 : Int) then
    Option.bind (spec_l32At w4_2 (2 : Int)) fun t43 =>
    Option.bind (spec_l32At w4_2 (3 : Int)) fun t46 =>
    spec_ParseFrame_j3 s0_3 t2_2 (f5_2.1, (f5_2.2.1, (f5_2.2.2.1, (f5_2.2.2.2.1, (f5_2.2.2.2.2.1, (t43.1, (f5_2.2.2.2.2.2.2.1, (t46.1, f5_2.2.2.2.2.2.2.2.2))))))))
  else
    bif f5_2.1 == (5 : Int) then
      Option.bind (spec_l32At w4_2 (2 : Int)) fun t51 =>
      spec_ParseFrame_j3 s0_3 t2_2 (f5_2.1, (f5_2.2.1, (f5_2.2.2.1, (f5_2.2.2.2.1, (f5_2.2.2.2.2.1, (t51.1, f5_2.2.2.2.2.2.2))))))
    else
      bif f5_2.1 == (8 : Int) then
        Option.bind (spec_l32At w4_2 (2 : Int)) fun t56 =>
        guardP (((decide ((w4_2.length : Int) > (3 : Int))) = true → (0 ≤ (3 : Int) ∧ (3 : Int) < w4_2.length))) <|
        bif (decide ((w4_2.length : Int) > (3 : Int))) && (decide (((w4_2.getD (3 : Int).toNat ([] : List UInt8)).length : Int) > (0 : Int))) then
          guardP (0 ≤ (3 : Int) ∧ (3 : Int) < w4_2.length) <|
          guardP (0 ≤ (1 : Int) ∧ (1 : Int) ≤ ((w4_2.getD (3 : Int).toNat ([] : List UInt8)).length : Int) ∧ ((w4_2.getD (3 : Int).toNat ([] : List UInt8)).length : Int) ≤ (w4_2.getD (3 : Int).toNat ([] : List UInt8)).length) <|
          Option.bind (spec_DecodeHex (((w4_2.getD (3 : Int).toNat ([] : List UInt8)).drop (1 : Int).toNat).take (((w4_2.getD (3 : Int).toNat ([] : List UInt8)).length : Int).toNat - (1 : Int).toNat))) fun t73 =>
          spec_ParseFrame_j4 s0_3 t2_2 w4_2 (f5_2.1, (f5_2.2.1, (t56.1, (t73.1, f5_2.2.2.2.2))))
        else
          spec_ParseFrame_j4 s0_3 t2_2 w4_2 (f5_2.1, (f5_2.2.1, (t56.1, f5_2.2.2.2)))
      else
        bif f5_2.1 == (17 : Int) then
          spec_ParseFrame_j5 s0_3 t2_2 w4_2 f5_2 f5_2.1 (f5_2.1 == (17 : Int))
        else
          spec_ParseFrame_j5 s0_3 t2_2 w4_2 f5_2 f5_2.1 (f5_2.1 == (21 : Int))
@[reducible] def spec_ParseFrame_l1_p : List PE := [.val 0 (.str) (.u false), .box 2 29 (tyFrame) (.u false), .val 4 (.slice 9 (.str)) (.u true), .box 5 29 (tyFrame) (.u false), .val 6 (.int .i64) (.u false)]
def spec_ParseFrame_l1_fuel (s0_1 : List UInt8) (t2 : TFrame) (w4 : List (List UInt8)) (f5 : TFrame) (k6 : Int) : Nat := ((24 : Int) - k6).toNat + 1
noncomputable def spec_ParseFrame_l1 : Nat → List UInt8 → TFrame → List (List UInt8) → TFrame → Int → Option (TFrame × Bool × Unit)
  | 0, _, _, _, _, _ => none
  | N + 1, s0_1, t2, w4, f5, k6 =>
    bif decide (k6 < (24 : Int)) then
      guardP (0 ≤ (0 : Int) ∧ (0 : Int) < w4.length) <|
      Option.bind (spec_KindName k6) fun t17 =>
      let t21 : Bool := t17.1 == (w4.getD (0 : Int).toNat ([] : List UInt8))
      guardP ((t21 = true → (0 ≤ (0 : Int) ∧ (0 : Int) < w4.length))) <|
      bif t21 && (!((w4.getD (0 : Int).toNat ([] : List UInt8)) == ([] : List UInt8))) then
        spec_ParseFrame_j1 (fun v => spec_ParseFrame_l1 N v.1 v.2.1 v.2.2.1 v.2.2.2.1 v.2.2.2.2.1) s0_1 t2 w4 (k6, f5.2) k6
      else
        spec_ParseFrame_j1 (fun v => spec_ParseFrame_l1 N v.1 v.2.1 v.2.2.1 v.2.2.2.1 v.2.2.2.2.1) s0_1 t2 w4 f5 k6
    else
      Option.bind (spec_IsAboutStream f5) fun t31 =>
      bif t31.1 then
        Option.bind (spec_l32At w4 (1 : Int)) fun t33 =>
        spec_ParseFrame_j2 s0_1 t2 w4 (f5.1, (t33.1, f5.2.2))
      else
        spec_ParseFrame_j2 s0_1 t2 w4 f5
noncomputable def spec_ParseFrame (s0 : List UInt8) : Option (TFrame × Bool × Unit) :=
  Option.bind (spec_l13Cut s0 (32 : Int)) fun t10 =>
  spec_ParseFrame_l1 (spec_ParseFrame_l1_fuel s0 ((0 : Int), ((0 : Int), ((0 : Int), (([] : List UInt8), (false, ((0 : Int), ((0 : Int), ((0 : Int), (false, ()))))))))) t10.1 ((0 : Int), ((0 : Int), ((0 : Int), (([] : List UInt8), (false, ((0 : Int), ((0 : Int), ((0 : Int), (false, ()))))))))) (1 : Int)) s0 ((0 : Int), ((0 : Int), ((0 : Int), (([] : List UInt8), (false, ((0 : Int), ((0 : Int), ((0 : Int), (false, ()))))))))) t10.1 ((0 : Int), ((0 : Int), ((0 : Int), (([] : List UInt8), (false, ((0 : Int), ((0 : Int), ((0 : Int), (false, ()))))))))) (1 : Int)
noncomputable def strings_Split (s p : List UInt8) : Option (List (List UInt8) × Unit) := guardP (s.length < 4294967281 ∧ 1 ≤ p.length) (some (Go.Lib.splitK p 0 (Go.Lib.count s p) s, ()))
noncomputable def impl_KindName (kind0 : Int) : Option (List UInt8 × Unit) :=
  bif kind0 == (4 : Int) then
    some (([114, 101, 115, 101, 116] : List UInt8), ())
  else
    bif kind0 == (5 : Int) then
      some (([115, 116, 111, 112] : List UInt8), ())
    else
      bif kind0 == (8 : Int) then
        some (([115, 116, 114, 101, 97, 109] : List UInt8), ())
      else
        bif kind0 == (16 : Int) then
          some (([109, 97, 120, 100, 97, 116, 97] : List UInt8), ())
        else
          bif kind0 == (17 : Int) then
            some (([109, 97, 120, 115, 116, 114, 101, 97, 109, 100, 97, 116, 97] : List UInt8), ())
          else
            bif kind0 == (18 : Int) then
              some (([109, 97, 120, 115, 116, 114, 101, 97, 109, 115] : List UInt8), ())
            else
              bif kind0 == (20 : Int) then
                some (([100, 97, 116, 97, 98, 108, 111, 99, 107, 101, 100] : List UInt8), ())
              else
                bif kind0 == (21 : Int) then
                  some (([115, 116, 114, 101, 97, 109, 100, 97, 116, 97, 98, 108, 111, 99, 107, 101, 100] : List UInt8), ())
                else
                  bif kind0 == (22 : Int) then
                    some (([115, 116, 114, 101, 97, 109, 115, 98, 108, 111, 99, 107, 101, 100] : List UInt8), ())
                  else
                    some (([] : List UInt8), ())
@[reducible] def impl_kindOf_l1_p : List PE := [.val 0 (.str) (.u false), .val 3 (.int .i64) (.u false)]
def impl_kindOf_l1_fuel (name0_1 : List UInt8) (kind3 : Int) : Nat := ((22 : Int) - kind3).toNat + 2
noncomputable def impl_kindOf_l1 : Nat → List UInt8 → Int → Option (Int × Unit)
  | 0, _, _ => none
  | N + 1, name0_1, kind3 =>
    bif decide (kind3 ≤ (22 : Int)) then
      Option.bind (bif (!(name0_1 == ([] : List UInt8))) then (impl_KindName kind3) else some (([] : List UInt8), ())) fun t12 =>
      bif (!(name0_1 == ([] : List UInt8))) && (t12.1 == name0_1) then
        some (kind3, ())
      else
        impl_kindOf_l1 N name0_1 (IntKind.i64.wrap (kind3 + (1 : Int)))
    else
      some ((0 : Int), ())
noncomputable def impl_kindOf (name0 : List UInt8) : Option (Int × Unit) :=
  impl_kindOf_l1 (impl_kindOf_l1_fuel name0 (4 : Int)) name0 (4 : Int)
noncomputable def strconv_Atoi (s : List UInt8) : Option (Int × Bool × Unit) := guardP (s.length ≤ 18) (some ((Go.Lib.atoi s).getD 0, (Go.Lib.atoi s).isSome, ()))
noncomputable def strconv_Itoa (n : Int) : Option (List UInt8 × Unit) := guardP (-9223372036854775808 ≤ n ∧ n ≤ 9223372036854775807) (some (Go.Lib.itoa n, ()))
noncomputable def impl_within (n0 : Int) (low1 : Int) (high2 : Int) : Option (Bool × Unit) :=
  some ((decide (low1 ≤ n0)) && (decide (n0 ≤ high2)), ())
noncomputable def impl_ParseInt (s0 : List UInt8) : Option (Int × Bool × Unit) :=
  bif decide ((s0.length : Int) > (10 : Int)) then
    some ((0 : Int), false, ())
  else
    Option.bind (strconv_Atoi s0) fun t11 =>
    Option.bind (bif (!t11.2.1) then some (([] : List UInt8), ()) else (strconv_Itoa t11.1)) fun t18 =>
    let t21 : Bool := (!t11.2.1) || (!(t18.1 == s0))
    Option.bind (bif t21 then some (false, ()) else (impl_within t11.1 (-999999999 : Int) (999999999 : Int))) fun t24 =>
    bif t21 || (!t24.1) then
      some ((0 : Int), false, ())
    else
      some (t11.1, true, ())
def strings_TrimPrefix (s p : List UInt8) : Option (List UInt8 × Unit) := some (Go.Lib.trimPrefix s p, ())
noncomputable def impl_hexValue (b0 : Int) : Option (Int × Unit) :=
  bif (decide ((48 : Int) ≤ b0)) && (decide (b0 ≤ (57 : Int))) then
    some (IntKind.i64.wrap (IntKind.u8.wrap (b0 - (48 : Int))), ())
  else
    bif (decide ((97 : Int) ≤ b0)) && (decide (b0 ≤ (102 : Int))) then
      some (IntKind.i64.wrap ((IntKind.i64.wrap (IntKind.u8.wrap (b0 - (97 : Int)))) + (10 : Int)), ())
    else
      some ((-1 : Int), ())
@[reducible] def impl_DecodeHex_l1_p : List PE := [.val 0 (.str) (.u false), .val 4 (.slice 5 (.int .u8)) (.u true), .val 5 (.int .i64) (.u false)]
def impl_DecodeHex_l1_fuel (s0_1 : List UInt8) (out4 : List Int) (i5 : Int) : Nat := ((s0_1.length : Int) - i5).toNat + 1
noncomputable def impl_DecodeHex_l1 : Nat → List UInt8 → List Int → Int → Option (List UInt8 × Bool × Unit)
  | 0, _, _, _ => none
  | N + 1, s0_1, out4, i5 =>
    bif decide (i5 < (s0_1.length : Int)) then
      guardP (0 ≤ i5 ∧ i5 < s0_1.length) <|
      guardP (0 ≤ (IntKind.i64.wrap (i5 + (1 : Int))) ∧ (IntKind.i64.wrap (i5 + (1 : Int))) < s0_1.length) <|
      Option.bind (impl_hexValue ((s0_1.getD i5.toNat 0).toNat : Int)) fun t22 =>
      Option.bind (impl_hexValue ((s0_1.getD (IntKind.i64.wrap (i5 + (1 : Int))).toNat 0).toNat : Int)) fun t27 =>
      bif (decide (t22.1 < (0 : Int))) || (decide (t27.1 < (0 : Int))) then
        some (([] : List UInt8), false, ())
      else
        let t40 : List Int := [(IntKind.u8.wrap (IntKind.i64.wrap ((IntKind.i64.wrap ((16 : Int) * t22.1)) + t27.1)))]
        guardP (out4.length + t40.length ≤ capN) <|
        impl_DecodeHex_l1 N s0_1 (out4 ++ t40) (IntKind.i64.wrap (i5 + (2 : Int)))
    else
      some (bytesOf out4, true, ())
noncomputable def impl_DecodeHex (s0 : List UInt8) : Option (List UInt8 × Bool × Unit) :=
  guardP ((2 : Int) ≠ 0) <|
  bif (Int.tmod (s0.length : Int) (2 : Int)) != (0 : Int) then
    some (([] : List UInt8), false, ())
  else
    impl_DecodeHex_l1 (impl_DecodeHex_l1_fuel s0 ([] : List Int) (0 : Int)) s0 ([] : List Int) (0 : Int)
@[reducible] def impl_IsAboutStream_j1_p : List PE := [.val 5 (.bool) (.u false)]
noncomputable def impl_IsAboutStream_j1 (t5 : Bool) : Option (Bool × Unit) :=
  bif t5 then
    some (true, ())
  else
    some (false, ())
noncomputable def impl_IsAboutStream (f0 : TFrame) : Option (Bool × Unit) :=
  bif f0.1 == (4 : Int) then
    impl_IsAboutStream_j1 (f0.1 == (4 : Int))
  else
    bif f0.1 == (5 : Int) then
      impl_IsAboutStream_j1 (f0.1 == (5 : Int))
    else
      bif f0.1 == (8 : Int) then
        impl_IsAboutStream_j1 (f0.1 == (8 : Int))
      else
        bif f0.1 == (17 : Int) then
          impl_IsAboutStream_j1 (f0.1 == (17 : Int))
        else
          impl_IsAboutStream_j1 (f0.1 == (21 : Int))
@[reducible] def impl_used_j2_p : List PE := [.box 1 29 (tyFrame) (.u false), .box 2 29 (tyFrame) (.u false), .box 3 29 (tyFrame) (.u false), .val 41 (.bool) (.u false)]
noncomputable def impl_used_j2 (f1_1 : TFrame) (t2_1 : TFrame) (out3_1 : TFrame) (t41 : Bool) : Option (TFrame × Unit) :=
  bif t41 then
    some ((out3_1.1, (out3_1.2.1, (out3_1.2.2.1, (out3_1.2.2.2.1, (out3_1.2.2.2.2.1, (out3_1.2.2.2.2.2.1, (f1_1.2.2.2.2.2.2.1, (out3_1.2.2.2.2.2.2.2.1, (f1_1.2.2.2.2.2.2.2.2.1, out3_1.2.2.2.2.2.2.2.2.2))))))))), ())
  else
    some ((out3_1.1, (out3_1.2.1, (out3_1.2.2.1, (out3_1.2.2.2.1, (out3_1.2.2.2.2.1, (out3_1.2.2.2.2.2.1, (f1_1.2.2.2.2.2.2.1, out3_1.2.2.2.2.2.2.2))))))), ())
@[reducible] def impl_used_j1_p : List PE := [.box 1 29 (tyFrame) (.u false), .box 2 29 (tyFrame) (.u false), .box 3 29 (tyFrame) (.u false)]
noncomputable def impl_used_j1 (f1 : TFrame) (t2 : TFrame) (out3 : TFrame) : Option (TFrame × Unit) :=
  bif f1.1 == (4 : Int) then
    some ((out3.1, (out3.2.1, (out3.2.2.1, (out3.2.2.2.1, (out3.2.2.2.2.1, (f1.2.2.2.2.2.1, (out3.2.2.2.2.2.2.1, (f1.2.2.2.2.2.2.2.1, out3.2.2.2.2.2.2.2.2)))))))), ())
  else
    bif f1.1 == (5 : Int) then
      some ((out3.1, (out3.2.1, (out3.2.2.1, (out3.2.2.2.1, (out3.2.2.2.2.1, (f1.2.2.2.2.2.1, out3.2.2.2.2.2.2)))))), ())
    else
      bif f1.1 == (8 : Int) then
        some ((out3.1, (out3.2.1, (f1.2.2.1, (f1.2.2.2.1, (f1.2.2.2.2.1, out3.2.2.2.2.2))))), ())
      else
        bif f1.1 == (18 : Int) then
          impl_used_j2 f1 t2 out3 (f1.1 == (18 : Int))
        else
          impl_used_j2 f1 t2 out3 (f1.1 == (22 : Int))
noncomputable def impl_used (f0 : TFrame) : Option (TFrame × Unit) :=
  Option.bind (impl_IsAboutStream f0) fun t8 =>
  bif t8.1 then
    impl_used_j1 f0 ((0 : Int), ((0 : Int), ((0 : Int), (([] : List UInt8), (false, ((0 : Int), ((0 : Int), ((0 : Int), (false, ()))))))))) (f0.1, (f0.2.1, ((0 : Int), (([] : List UInt8), (false, ((0 : Int), ((0 : Int), ((0 : Int), (false, ())))))))))
  else
    impl_used_j1 f0 ((0 : Int), ((0 : Int), ((0 : Int), (([] : List UInt8), (false, ((0 : Int), ((0 : Int), ((0 : Int), (false, ()))))))))) (f0.1, ((0 : Int), ((0 : Int), (([] : List UInt8), (false, ((0 : Int), ((0 : Int), ((0 : Int), (false, ())))))))))
noncomputable def impl_isQuic (n0 : Int) : Option (Bool × Unit) :=
  Option.bind (impl_within n0 (0 : Int) (4611686018427387903 : Int)) fun t4 =>
  some (t4.1, ())
noncomputable def impl_IsFrame (f0 : TFrame) : Option (Bool × Unit) :=
  Option.bind (impl_KindName f0.1) fun t5 =>
  Option.bind (bif (t5.1 == ([] : List UInt8)) then some (((0 : Int), ((0 : Int), ((0 : Int), (([] : List UInt8), (false, ((0 : Int), ((0 : Int), ((0 : Int), (false, ()))))))))), ()) else (impl_used f0)) fun t10 =>
  let t12 : Bool := (t5.1 == ([] : List UInt8)) || (!(eqV (tyFrame) f0 t10.1))
  Option.bind (bif t12 then some (false, ()) else (impl_isQuic f0.2.1)) fun t16 =>
  Option.bind (bif (t12 || (!t16.1)) then some (false, ()) else (impl_isQuic f0.2.2.1)) fun t22 =>
  let t24 : Bool := (t12 || (!t16.1)) || (!t22.1)
  Option.bind (bif t24 then some (false, ()) else (impl_isQuic f0.2.2.2.2.2.1)) fun t28 =>
  Option.bind (bif (t24 || (!t28.1)) then some (false, ()) else (impl_isQuic f0.2.2.2.2.2.2.1)) fun t34 =>
  let t36 : Bool := (t24 || (!t28.1)) || (!t34.1)
  Option.bind (bif t36 then some (false, ()) else (impl_isQuic f0.2.2.2.2.2.2.2.1)) fun t40 =>
  bif t36 || (!t40.1) then
    some (false, ())
  else
    bif (f0.1 == (18 : Int)) || (f0.1 == (22 : Int)) then
      some (decide (f0.2.2.2.2.2.2.1 ≤ (1152921504606846976 : Int)), ())
    else
      some ((decide ((f0.2.2.2.1.length : Int) ≤ (400 : Int))) && (decide (f0.2.2.1 ≤ (IntKind.i64.wrap ((4611686018427387903 : Int) - (f0.2.2.2.1.length : Int))))), ())
noncomputable def impl_isSmall (f0 : TFrame) : Option (Bool × Unit) :=
  some (((((decide (f0.2.1 ≤ (999999999 : Int))) && (decide (f0.2.2.1 ≤ (999999999 : Int)))) && (decide (f0.2.2.2.2.2.1 ≤ (999999999 : Int)))) && (decide (f0.2.2.2.2.2.2.1 ≤ (999999999 : Int)))) && (decide (f0.2.2.2.2.2.2.2.1 ≤ (999999999 : Int))), ())
noncomputable def impl_FormatInt (n0 : Int) : Option (List UInt8 × Unit) :=
  Option.bind (strconv_Itoa n0) fun t4 =>
  some (t4.1, ())
@[reducible] def impl_EncodeHex_l1_p : List PE := [.val 0 (.str) (.u false), .val 3 (.slice 5 (.int .u8)) (.u true), .val 4 (.int .i64) (.u false)]
def impl_EncodeHex_l1_fuel (s0_1 : List UInt8) (out3 : List Int) (i4 : Int) : Nat := ((s0_1.length : Int) - i4).toNat + 1
noncomputable def impl_EncodeHex_l1 : Nat → List UInt8 → List Int → Int → Option (List UInt8 × Unit)
  | 0, _, _, _ => none
  | N + 1, s0_1, out3, i4 =>
    bif decide (i4 < (s0_1.length : Int)) then
      guardP (0 ≤ i4 ∧ i4 < s0_1.length) <|
      guardP ((16 : Int) ≠ 0) <|
      let t16 : Int := IntKind.u8.wrap (Int.tdiv ((s0_1.getD i4.toNat 0).toNat : Int) (16 : Int))
      guardP (0 ≤ t16 ∧ t16 < ([48, 49, 50, 51, 52, 53, 54, 55, 56, 57, 97, 98, 99, 100, 101, 102] : List UInt8).length) <|
      guardP (0 ≤ i4 ∧ i4 < s0_1.length) <|
      guardP ((16 : Int) ≠ 0) <|
      let t21 : Int := Int.tmod ((s0_1.getD i4.toNat 0).toNat : Int) (16 : Int)
      guardP (0 ≤ t21 ∧ t21 < ([48, 49, 50, 51, 52, 53, 54, 55, 56, 57, 97, 98, 99, 100, 101, 102] : List UInt8).length) <|
      let t23 : List Int := [((([48, 49, 50, 51, 52, 53, 54, 55, 56, 57, 97, 98, 99, 100, 101, 102] : List UInt8).getD t16.toNat 0).toNat : Int), ((([48, 49, 50, 51, 52, 53, 54, 55, 56, 57, 97, 98, 99, 100, 101, 102] : List UInt8).getD t21.toNat 0).toNat : Int)]
      guardP (out3.length + t23.length ≤ capN) <|
      impl_EncodeHex_l1 N s0_1 (out3 ++ t23) (IntKind.i64.wrap (i4 + (1 : Int)))
    else
      some (bytesOf out3, ())
noncomputable def impl_EncodeHex (s0 : List UInt8) : Option (List UInt8 × Unit) :=
  impl_EncodeHex_l1 (impl_EncodeHex_l1_fuel s0 ([] : List Int) (0 : Int)) s0 ([] : List Int) (0 : Int)
noncomputable def impl_told (ok0 : Bool) (yes1 : List UInt8) (no2 : List UInt8) : Option (List UInt8 × Unit) :=
  bif ok0 then
    some (yes1, ())
  else
    some (no2, ())
noncomputable def strings_Join (l : List (List UInt8)) (sep : List UInt8) : Option (List UInt8 × Unit) := guardP (l.length ≤ 140737488355328 ∧ (Go.Lib.join l sep).length ≤ 140737488355328) (some (Go.Lib.join l sep, ()))
@[reducible] def impl_FormatFrame_j3_p : List PE := [.val 3 (.slice 9 (.str)) (.u true)]
noncomputable def impl_FormatFrame_j3 (words3_2 : List (List UInt8)) : Option (List UInt8 × Unit) :=
  Option.bind (strings_Join words3_2 ([32] : List UInt8)) fun t83 =>
  some (t83.1, ())
@[reducible] def impl_FormatFrame_j2_p : List PE := [.box 1 29 (tyFrame) (.u false), .val 3 (.slice 9 (.str)) (.u true)]
noncomputable def impl_FormatFrame_j2 (f1_1 : TFrame) (words3_1 : List (List UInt8)) : Option (List UInt8 × Unit) :=
  bif (f1_1.1 == (18 : Int)) || (f1_1.1 == (22 : Int)) then
    Option.bind (impl_told f1_1.2.2.2.2.2.2.2.2.1 ([117, 110, 105] : List UInt8) ([98, 105, 100, 105] : List UInt8)) fun t79 =>
    guardP (words3_1.length + ([t79.1]).length ≤ capN) <|
    impl_FormatFrame_j3 (words3_1 ++ ([t79.1]))
  else
    impl_FormatFrame_j3 words3_1
@[reducible] def impl_FormatFrame_j1_p : List PE := [.box 1 29 (tyFrame) (.u false), .val 3 (.slice 9 (.str)) (.u true)]
noncomputable def impl_FormatFrame_j1 (f1 : TFrame) (words3 : List (List UInt8)) : Option (List UInt8 × Unit) :=
  bif f1.1 == (4 : Int) then
    Option.bind (impl_FormatInt f1.2.2.2.2.2.1) fun t37 =>
    Option.bind (impl_FormatInt f1.2.2.2.2.2.2.2.1) fun t40 =>
    guardP (words3.length + ([t37.1, t40.1]).length ≤ capN) <|
    impl_FormatFrame_j2 f1 (words3 ++ ([t37.1, t40.1]))
  else
    bif f1.1 == (5 : Int) then
      Option.bind (impl_FormatInt f1.2.2.2.2.2.1) fun t48 =>
      guardP (words3.length + ([t48.1]).length ≤ capN) <|
      impl_FormatFrame_j2 f1 (words3 ++ ([t48.1]))
    else
      bif f1.1 == (8 : Int) then
        Option.bind (impl_FormatInt f1.2.2.1) fun t56 =>
        Option.bind (impl_EncodeHex f1.2.2.2.1) fun t59 =>
        guardP (([120] : List UInt8).length + t59.1.length ≤ capS) <|
        guardP (words3.length + ([t56.1, (([120] : List UInt8) ++ t59.1)]).length ≤ capN) <|
        let t62 : List (List UInt8) := words3 ++ ([t56.1, (([120] : List UInt8) ++ t59.1)])
        bif f1.2.2.2.2.1 then
          guardP (t62.length + ([([102, 105, 110] : List UInt8)]).length ≤ capN) <|
          impl_FormatFrame_j2 f1 (t62 ++ ([([102, 105, 110] : List UInt8)]))
        else
          impl_FormatFrame_j2 f1 t62
      else
        Option.bind (impl_FormatInt f1.2.2.2.2.2.2.1) fun t29 =>
        guardP (words3.length + ([t29.1]).length ≤ capN) <|
        impl_FormatFrame_j2 f1 (words3 ++ ([t29.1]))
noncomputable def impl_FormatFrame (f0 : TFrame) : Option (List UInt8 × Unit) :=
  Option.bind (impl_IsFrame f0) fun t5 =>
  Option.bind (bif (!t5.1) then some (false, ()) else (impl_isSmall f0)) fun t9 =>
  bif (!t5.1) || (!t9.1) then
    some (([] : List UInt8), ())
  else
    Option.bind (impl_KindName f0.1) fun t14 =>
    Option.bind (impl_IsAboutStream f0) fun t17 =>
    bif t17.1 then
      Option.bind (impl_FormatInt f0.2.1) fun t21 =>
      guardP (([t14.1]).length + ([t21.1]).length ≤ capN) <|
      impl_FormatFrame_j1 f0 (([t14.1]) ++ ([t21.1]))
    else
      impl_FormatFrame_j1 f0 ([t14.1])
@[reducible] def impl_ParseFrame_j1_p : List PE := [.val 0 (.str) (.u false), .box 2 29 (tyFrame) (.u false), .box 5 29 (tyFrame) (.u false), .val 7 (.slice 9 (.str)) (.u false)]
noncomputable def impl_ParseFrame_j1 (s0_1 : List UInt8) (t2 : TFrame) (f5 : TFrame) (rest7 : List (List UInt8)) : Option (TFrame × Bool × Unit) :=
  let t106 : Bool := ((f5.1 == (18 : Int)) || (f5.1 == (22 : Int))) && ((rest7.length : Int) == (1 : Int))
  guardP ((t106 = true → (0 ≤ (0 : Int) ∧ (0 : Int) < rest7.length))) <|
  let t112 : Bool := t106 && ((rest7.getD (0 : Int).toNat ([] : List UInt8)) == ([117, 110, 105] : List UInt8))
  Option.bind (bif (s0_1 == ([] : List UInt8)) then some (([] : List UInt8), ()) else (impl_FormatFrame (f5.1, (f5.2.1, (f5.2.2.1, (f5.2.2.2.1, (f5.2.2.2.2.1, (f5.2.2.2.2.2.1, (f5.2.2.2.2.2.2.1, (f5.2.2.2.2.2.2.2.1, (t112, f5.2.2.2.2.2.2.2.2.2))))))))))) fun t118 =>
  bif (s0_1 == ([] : List UInt8)) || (!(t118.1 == s0_1)) then
    some (((0 : Int), ((0 : Int), ((0 : Int), (([] : List UInt8), (false, ((0 : Int), ((0 : Int), ((0 : Int), (false, ()))))))))), false, ())
  else
    some ((f5.1, (f5.2.1, (f5.2.2.1, (f5.2.2.2.1, (f5.2.2.2.2.1, (f5.2.2.2.2.2.1, (f5.2.2.2.2.2.2.1, (f5.2.2.2.2.2.2.2.1, (t112, f5.2.2.2.2.2.2.2.2.2))))))))), true, ())
noncomputable def impl_ParseFrame (s0 : List UInt8) : Option (TFrame × Bool × Unit) :=
  Option.bind (strings_Split s0 ([32] : List UInt8)) fun t13 =>
  guardP (0 ≤ (0 : Int) ∧ (0 : Int) < t13.1.length) <|
  Option.bind (impl_kindOf (t13.1.getD (0 : Int).toNat ([] : List UInt8))) fun t17 =>
  bif t17.1 == (4 : Int) then
    guardP (0 ≤ (1 : Int) ∧ (1 : Int) ≤ (t13.1.length : Int) ∧ (t13.1.length : Int) ≤ t13.1.length) <|
    let t46 : List (List UInt8) := (t13.1.drop (1 : Int).toNat).take ((t13.1.length : Int).toNat - (1 : Int).toNat)
    bif (t46.length : Int) == (0 : Int) then
      some (((0 : Int), ((0 : Int), ((0 : Int), (([] : List UInt8), (false, ((0 : Int), ((0 : Int), ((0 : Int), (false, ()))))))))), false, ())
    else
      guardP (0 ≤ (0 : Int) ∧ (0 : Int) < t46.length) <|
      Option.bind (impl_ParseInt (t46.getD (0 : Int).toNat ([] : List UInt8))) fun t61 =>
      bif !t61.2.1 then
        some (((0 : Int), ((0 : Int), ((0 : Int), (([] : List UInt8), (false, ((0 : Int), ((0 : Int), ((0 : Int), (false, ()))))))))), false, ())
      else
        bothN 1 (
          guardP (0 ≤ (1 : Int) ∧ (1 : Int) ≤ (t46.length : Int) ∧ (t46.length : Int) ≤ t46.length) <|
          let t70 : List (List UInt8) := (t46.drop (1 : Int).toNat).take ((t46.length : Int).toNat - (1 : Int).toNat)
          bif (t70.length : Int) == (0 : Int) then
            some (((0 : Int), ((0 : Int), ((0 : Int), (([] : List UInt8), (false, ((0 : Int), ((0 : Int), ((0 : Int), (false, ()))))))))), false, ())
          else
            guardP (0 ≤ (0 : Int) ∧ (0 : Int) < t70.length) <|
            Option.bind (impl_ParseInt (t70.getD (0 : Int).toNat ([] : List UInt8))) fun t61_1 =>
            bif !t61_1.2.1 then
              some (((0 : Int), ((0 : Int), ((0 : Int), (([] : List UInt8), (false, ((0 : Int), ((0 : Int), ((0 : Int), (false, ()))))))))), false, ())
            else
              bothN 1 (
                guardP (0 ≤ (1 : Int) ∧ (1 : Int) ≤ (t70.length : Int) ∧ (t70.length : Int) ≤ t70.length) <|
                let t70_1 : List (List UInt8) := (t70.drop (1 : Int).toNat).take ((t70.length : Int).toNat - (1 : Int).toNat)
                bif (t70_1.length : Int) == (0 : Int) then
                  some (((0 : Int), ((0 : Int), ((0 : Int), (([] : List UInt8), (false, ((0 : Int), ((0 : Int), ((0 : Int), (false, ()))))))))), false, ())
                else
                  guardP (0 ≤ (0 : Int) ∧ (0 : Int) < t70_1.length) <|
                  Option.bind (impl_ParseInt (t70_1.getD (0 : Int).toNat ([] : List UInt8))) fun t61_2 =>
                  bif !t61_2.2.1 then
                    some (((0 : Int), ((0 : Int), ((0 : Int), (([] : List UInt8), (false, ((0 : Int), ((0 : Int), ((0 : Int), (false, ()))))))))), false, ())
                  else
                    bothN 1 (
                      guardP (0 ≤ (1 : Int) ∧ (1 : Int) ≤ (t70_1.length : Int) ∧ (t70_1.length : Int) ≤ t70_1.length) <|
                      let t70_2 : List (List UInt8) := (t70_1.drop (1 : Int).toNat).take ((t70_1.length : Int).toNat - (1 : Int).toNat)
                      let t80 : Bool := (t17.1 == (8 : Int)) && (decide ((t70_2.length : Int) > (0 : Int)))
                      bif t80 then
                        guardP (0 ≤ (0 : Int) ∧ (0 : Int) < t70_2.length) <|
                        Option.bind (strings_TrimPrefix (t70_2.getD (0 : Int).toNat ([] : List UInt8)) ([120] : List UInt8)) fun t85 =>
                        Option.bind (impl_DecodeHex t85.1) fun t86 =>
                        impl_ParseFrame_j1 s0 ((0 : Int), ((0 : Int), ((0 : Int), (([] : List UInt8), (false, ((0 : Int), ((0 : Int), ((0 : Int), (false, ()))))))))) (t17.1, (t61.1, ((0 : Int), (t86.1, ((t70_2.length : Int) == (2 : Int), (t61_1.1, ((0 : Int), (t61_2.1, (false, ()))))))))) t70_2
                      else
                        impl_ParseFrame_j1 s0 ((0 : Int), ((0 : Int), ((0 : Int), (([] : List UInt8), (false, ((0 : Int), ((0 : Int), ((0 : Int), (false, ()))))))))) (t17.1, (t61.1, ((0 : Int), (([] : List UInt8), (false, (t61_1.1, ((0 : Int), (t61_2.1, (false, ()))))))))) t70_2
                    )
              )
        )
  else
    bif t17.1 == (5 : Int) then
      guardP (0 ≤ (1 : Int) ∧ (1 : Int) ≤ (t13.1.length : Int) ∧ (t13.1.length : Int) ≤ t13.1.length) <|
      let t46_1 : List (List UInt8) := (t13.1.drop (1 : Int).toNat).take ((t13.1.length : Int).toNat - (1 : Int).toNat)
      bif (t46_1.length : Int) == (0 : Int) then
        some (((0 : Int), ((0 : Int), ((0 : Int), (([] : List UInt8), (false, ((0 : Int), ((0 : Int), ((0 : Int), (false, ()))))))))), false, ())
      else
        guardP (0 ≤ (0 : Int) ∧ (0 : Int) < t46_1.length) <|
        Option.bind (impl_ParseInt (t46_1.getD (0 : Int).toNat ([] : List UInt8))) fun t61_3 =>
        bif !t61_3.2.1 then
          some (((0 : Int), ((0 : Int), ((0 : Int), (([] : List UInt8), (false, ((0 : Int), ((0 : Int), ((0 : Int), (false, ()))))))))), false, ())
        else
          bothN 1 (
            guardP (0 ≤ (1 : Int) ∧ (1 : Int) ≤ (t46_1.length : Int) ∧ (t46_1.length : Int) ≤ t46_1.length) <|
            let t70_3 : List (List UInt8) := (t46_1.drop (1 : Int).toNat).take ((t46_1.length : Int).toNat - (1 : Int).toNat)
            bif (t70_3.length : Int) == (0 : Int) then
              some (((0 : Int), ((0 : Int), ((0 : Int), (([] : List UInt8), (false, ((0 : Int), ((0 : Int), ((0 : Int), (false, ()))))))))), false, ())
            else
              guardP (0 ≤ (0 : Int) ∧ (0 : Int) < t70_3.length) <|
              Option.bind (impl_ParseInt (t70_3.getD (0 : Int).toNat ([] : List UInt8))) fun t61_4 =>
              bif !t61_4.2.1 then
                some (((0 : Int), ((0 : Int), ((0 : Int), (([] : List UInt8), (false, ((0 : Int), ((0 : Int), ((0 : Int), (false, ()))))))))), false, ())
              else
                bothN 1 (
                  guardP (0 ≤ (1 : Int) ∧ (1 : Int) ≤ (t70_3.length : Int) ∧ (t70_3.length : Int) ≤ t70_3.length) <|
                  let t70_4 : List (List UInt8) := (t70_3.drop (1 : Int).toNat).take ((t70_3.length : Int).toNat - (1 : Int).toNat)
                  let t80_1 : Bool := (t17.1 == (8 : Int)) && (decide ((t70_4.length : Int) > (0 : Int)))
                  bif t80_1 then
                    guardP (0 ≤ (0 : Int) ∧ (0 : Int) < t70_4.length) <|
                    Option.bind (strings_TrimPrefix (t70_4.getD (0 : Int).toNat ([] : List UInt8)) ([120] : List UInt8)) fun t85_1 =>
                    Option.bind (impl_DecodeHex t85_1.1) fun t86_1 =>
                    impl_ParseFrame_j1 s0 ((0 : Int), ((0 : Int), ((0 : Int), (([] : List UInt8), (false, ((0 : Int), ((0 : Int), ((0 : Int), (false, ()))))))))) (t17.1, (t61_3.1, ((0 : Int), (t86_1.1, ((t70_4.length : Int) == (2 : Int), (t61_4.1, ((0 : Int), ((0 : Int), (false, ()))))))))) t70_4
                  else
                    impl_ParseFrame_j1 s0 ((0 : Int), ((0 : Int), ((0 : Int), (([] : List UInt8), (false, ((0 : Int), ((0 : Int), ((0 : Int), (false, ()))))))))) (t17.1, (t61_3.1, ((0 : Int), (([] : List UInt8), (false, (t61_4.1, ((0 : Int), ((0 : Int), (false, ()))))))))) t70_4
                )
          )
    else
      bif t17.1 == (8 : Int) then
        guardP (0 ≤ (1 : Int) ∧ (1 : Int) ≤ (t13.1.length : Int) ∧ (t13.1.length : Int) ≤ t13.1.length) <|
        let t46_2 : List (List UInt8) := (t13.1.drop (1 : Int).toNat).take ((t13.1.length : Int).toNat - (1 : Int).toNat)
        bif (t46_2.length : Int) == (0 : Int) then
          some (((0 : Int), ((0 : Int), ((0 : Int), (([] : List UInt8), (false, ((0 : Int), ((0 : Int), ((0 : Int), (false, ()))))))))), false, ())
        else
          guardP (0 ≤ (0 : Int) ∧ (0 : Int) < t46_2.length) <|
          Option.bind (impl_ParseInt (t46_2.getD (0 : Int).toNat ([] : List UInt8))) fun t61_5 =>
          bif !t61_5.2.1 then
            some (((0 : Int), ((0 : Int), ((0 : Int), (([] : List UInt8), (false, ((0 : Int), ((0 : Int), ((0 : Int), (false, ()))))))))), false, ())
          else
            bothN 1 (
              guardP (0 ≤ (1 : Int) ∧ (1 : Int) ≤ (t46_2.length : Int) ∧ (t46_2.length : Int) ≤ t46_2.length) <|
              let t70_5 : List (List UInt8) := (t46_2.drop (1 : Int).toNat).take ((t46_2.length : Int).toNat - (1 : Int).toNat)
              bif (t70_5.length : Int) == (0 : Int) then
                some (((0 : Int), ((0 : Int), ((0 : Int), (([] : List UInt8), (false, ((0 : Int), ((0 : Int), ((0 : Int), (false, ()))))))))), false, ())
              else
                guardP (0 ≤ (0 : Int) ∧ (0 : Int) < t70_5.length) <|
                Option.bind (impl_ParseInt (t70_5.getD (0 : Int).toNat ([] : List UInt8))) fun t61_6 =>
                bif !t61_6.2.1 then
                  some (((0 : Int), ((0 : Int), ((0 : Int), (([] : List UInt8), (false, ((0 : Int), ((0 : Int), ((0 : Int), (false, ()))))))))), false, ())
                else
                  bothN 1 (
                    guardP (0 ≤ (1 : Int) ∧ (1 : Int) ≤ (t70_5.length : Int) ∧ (t70_5.length : Int) ≤ t70_5.length) <|
                    let t70_6 : List (List UInt8) := (t70_5.drop (1 : Int).toNat).take ((t70_5.length : Int).toNat - (1 : Int).toNat)
                    let t80_2 : Bool := (t17.1 == (8 : Int)) && (decide ((t70_6.length : Int) > (0 : Int)))
                    bif t80_2 then
                      guardP (0 ≤ (0 : Int) ∧ (0 : Int) < t70_6.length) <|
                      Option.bind (strings_TrimPrefix (t70_6.getD (0 : Int).toNat ([] : List UInt8)) ([120] : List UInt8)) fun t85_2 =>
                      Option.bind (impl_DecodeHex t85_2.1) fun t86_2 =>
                      impl_ParseFrame_j1 s0 ((0 : Int), ((0 : Int), ((0 : Int), (([] : List UInt8), (false, ((0 : Int), ((0 : Int), ((0 : Int), (false, ()))))))))) (t17.1, (t61_5.1, (t61_6.1, (t86_2.1, ((t70_6.length : Int) == (2 : Int), ((0 : Int), ((0 : Int), ((0 : Int), (false, ()))))))))) t70_6
                    else
                      impl_ParseFrame_j1 s0 ((0 : Int), ((0 : Int), ((0 : Int), (([] : List UInt8), (false, ((0 : Int), ((0 : Int), ((0 : Int), (false, ()))))))))) (t17.1, (t61_5.1, (t61_6.1, (([] : List UInt8), (false, ((0 : Int), ((0 : Int), ((0 : Int), (false, ()))))))))) t70_6
                  )
            )
      else
        bif t17.1 == (17 : Int) then
          bif t17.1 == (17 : Int) then
            guardP (0 ≤ (1 : Int) ∧ (1 : Int) ≤ (t13.1.length : Int) ∧ (t13.1.length : Int) ≤ t13.1.length) <|
            let t46_3 : List (List UInt8) := (t13.1.drop (1 : Int).toNat).take ((t13.1.length : Int).toNat - (1 : Int).toNat)
            bif (t46_3.length : Int) == (0 : Int) then
              some (((0 : Int), ((0 : Int), ((0 : Int), (([] : List UInt8), (false, ((0 : Int), ((0 : Int), ((0 : Int), (false, ()))))))))), false, ())
            else
              guardP (0 ≤ (0 : Int) ∧ (0 : Int) < t46_3.length) <|
              Option.bind (impl_ParseInt (t46_3.getD (0 : Int).toNat ([] : List UInt8))) fun t61_7 =>
              bif !t61_7.2.1 then
                some (((0 : Int), ((0 : Int), ((0 : Int), (([] : List UInt8), (false, ((0 : Int), ((0 : Int), ((0 : Int), (false, ()))))))))), false, ())
              else
                bothN 1 (
                  guardP (0 ≤ (1 : Int) ∧ (1 : Int) ≤ (t46_3.length : Int) ∧ (t46_3.length : Int) ≤ t46_3.length) <|
                  let t70_7 : List (List UInt8) := (t46_3.drop (1 : Int).toNat).take ((t46_3.length : Int).toNat - (1 : Int).toNat)
                  bif (t70_7.length : Int) == (0 : Int) then
                    some (((0 : Int), ((0 : Int), ((0 : Int), (([] : List UInt8), (false, ((0 : Int), ((0 : Int), ((0 : Int), (false, ()))))))))), false, ())
                  else
                    guardP (0 ≤ (0 : Int) ∧ (0 : Int) < t70_7.length) <|
                    Option.bind (impl_ParseInt (t70_7.getD (0 : Int).toNat ([] : List UInt8))) fun t61_8 =>
                    bif !t61_8.2.1 then
                      some (((0 : Int), ((0 : Int), ((0 : Int), (([] : List UInt8), (false, ((0 : Int), ((0 : Int), ((0 : Int), (false, ()))))))))), false, ())
                    else
                      bothN 1 (
                        guardP (0 ≤ (1 : Int) ∧ (1 : Int) ≤ (t70_7.length : Int) ∧ (t70_7.length : Int) ≤ t70_7.length) <|
                        let t70_8 : List (List UInt8) := (t70_7.drop (1 : Int).toNat).take ((t70_7.length : Int).toNat - (1 : Int).toNat)
                        let t80_3 : Bool := (t17.1 == (8 : Int)) && (decide ((t70_8.length : Int) > (0 : Int)))
                        bif t80_3 then
                          guardP (0 ≤ (0 : Int) ∧ (0 : Int) < t70_8.length) <|
                          Option.bind (strings_TrimPrefix (t70_8.getD (0 : Int).toNat ([] : List UInt8)) ([120] : List UInt8)) fun t85_3 =>
                          Option.bind (impl_DecodeHex t85_3.1) fun t86_3 =>
                          impl_ParseFrame_j1 s0 ((0 : Int), ((0 : Int), ((0 : Int), (([] : List UInt8), (false, ((0 : Int), ((0 : Int), ((0 : Int), (false, ()))))))))) (t17.1, (t61_7.1, ((0 : Int), (t86_3.1, ((t70_8.length : Int) == (2 : Int), ((0 : Int), (t61_8.1, ((0 : Int), (false, ()))))))))) t70_8
                        else
                          impl_ParseFrame_j1 s0 ((0 : Int), ((0 : Int), ((0 : Int), (([] : List UInt8), (false, ((0 : Int), ((0 : Int), ((0 : Int), (false, ()))))))))) (t17.1, (t61_7.1, ((0 : Int), (([] : List UInt8), (false, ((0 : Int), (t61_8.1, ((0 : Int), (false, ()))))))))) t70_8
                      )
                )
          else
            guardP (0 ≤ (1 : Int) ∧ (1 : Int) ≤ (t13.1.length : Int) ∧ (t13.1.length : Int) ≤ t13.1.length) <|
            let t46_4 : List (List UInt8) := (t13.1.drop (1 : Int).toNat).take ((t13.1.length : Int).toNat - (1 : Int).toNat)
            bif (t46_4.length : Int) == (0 : Int) then
              some (((0 : Int), ((0 : Int), ((0 : Int), (([] : List UInt8), (false, ((0 : Int), ((0 : Int), ((0 : Int), (false, ()))))))))), false, ())
            else
              guardP (0 ≤ (0 : Int) ∧ (0 : Int) < t46_4.length) <|
              Option.bind (impl_ParseInt (t46_4.getD (0 : Int).toNat ([] : List UInt8))) fun t61_9 =>
              bif !t61_9.2.1 then
                some (((0 : Int), ((0 : Int), ((0 : Int), (([] : List UInt8), (false, ((0 : Int), ((0 : Int), ((0 : Int), (false, ()))))))))), false, ())
              else
                bothN 1 (
                  guardP (0 ≤ (1 : Int) ∧ (1 : Int) ≤ (t46_4.length : Int) ∧ (t46_4.length : Int) ≤ t46_4.length) <|
                  let t70_9 : List (List UInt8) := (t46_4.drop (1 : Int).toNat).take ((t46_4.length : Int).toNat - (1 : Int).toNat)
                  let t80_4 : Bool := (t17.1 == (8 : Int)) && (decide ((t70_9.length : Int) > (0 : Int)))
                  bif t80_4 then
                    guardP (0 ≤ (0 : Int) ∧ (0 : Int) < t70_9.length) <|
                    Option.bind (strings_TrimPrefix (t70_9.getD (0 : Int).toNat ([] : List UInt8)) ([120] : List UInt8)) fun t85_4 =>
                    Option.bind (impl_DecodeHex t85_4.1) fun t86_4 =>
                    impl_ParseFrame_j1 s0 ((0 : Int), ((0 : Int), ((0 : Int), (([] : List UInt8), (false, ((0 : Int), ((0 : Int), ((0 : Int), (false, ()))))))))) (t17.1, ((0 : Int), ((0 : Int), (t86_4.1, ((t70_9.length : Int) == (2 : Int), ((0 : Int), (t61_9.1, ((0 : Int), (false, ()))))))))) t70_9
                  else
                    impl_ParseFrame_j1 s0 ((0 : Int), ((0 : Int), ((0 : Int), (([] : List UInt8), (false, ((0 : Int), ((0 : Int), ((0 : Int), (false, ()))))))))) (t17.1, ((0 : Int), ((0 : Int), (([] : List UInt8), (false, ((0 : Int), (t61_9.1, ((0 : Int), (false, ()))))))))) t70_9
                )
        else
          bif t17.1 == (21 : Int) then
            guardP (0 ≤ (1 : Int) ∧ (1 : Int) ≤ (t13.1.length : Int) ∧ (t13.1.length : Int) ≤ t13.1.length) <|
            let t46_5 : List (List UInt8) := (t13.1.drop (1 : Int).toNat).take ((t13.1.length : Int).toNat - (1 : Int).toNat)
            bif (t46_5.length : Int) == (0 : Int) then
              some (((0 : Int), ((0 : Int), ((0 : Int), (([] : List UInt8), (false, ((0 : Int), ((0 : Int), ((0 : Int), (false, ()))))))))), false, ())
            else
              guardP (0 ≤ (0 : Int) ∧ (0 : Int) < t46_5.length) <|
              Option.bind (impl_ParseInt (t46_5.getD (0 : Int).toNat ([] : List UInt8))) fun t61_10 =>
              bif !t61_10.2.1 then
                some (((0 : Int), ((0 : Int), ((0 : Int), (([] : List UInt8), (false, ((0 : Int), ((0 : Int), ((0 : Int), (false, ()))))))))), false, ())
              else
                bothN 1 (
                  guardP (0 ≤ (1 : Int) ∧ (1 : Int) ≤ (t46_5.length : Int) ∧ (t46_5.length : Int) ≤ t46_5.length) <|
                  let t70_10 : List (List UInt8) := (t46_5.drop (1 : Int).toNat).take ((t46_5.length : Int).toNat - (1 : Int).toNat)
                  bif (t70_10.length : Int) == (0 : Int) then
                    some (((0 : Int), ((0 : Int), ((0 : Int), (([] : List UInt8), (false, ((0 : Int), ((0 : Int), ((0 : Int), (false, ()))))))))), false, ())
                  else
                    guardP (0 ≤ (0 : Int) ∧ (0 : Int) < t70_10.length) <|
                    Option.bind (impl_ParseInt (t70_10.getD (0 : Int).toNat ([] : List UInt8))) fun t61_11 =>
                    bif !t61_11.2.1 then
                      some (((0 : Int), ((0 : Int), ((0 : Int), (([] : List UInt8), (false, ((0 : Int), ((0 : Int), ((0 : Int), (false, ()))))))))), false, ())
                    else
                      bothN 1 (
                        guardP (0 ≤ (1 : Int) ∧ (1 : Int) ≤ (t70_10.length : Int) ∧ (t70_10.length : Int) ≤ t70_10.length) <|
                        let t70_11 : List (List UInt8) := (t70_10.drop (1 : Int).toNat).take ((t70_10.length : Int).toNat - (1 : Int).toNat)
                        let t80_5 : Bool := (t17.1 == (8 : Int)) && (decide ((t70_11.length : Int) > (0 : Int)))
                        bif t80_5 then
                          guardP (0 ≤ (0 : Int) ∧ (0 : Int) < t70_11.length) <|
                          Option.bind (strings_TrimPrefix (t70_11.getD (0 : Int).toNat ([] : List UInt8)) ([120] : List UInt8)) fun t85_5 =>
                          Option.bind (impl_DecodeHex t85_5.1) fun t86_5 =>
                          impl_ParseFrame_j1 s0 ((0 : Int), ((0 : Int), ((0 : Int), (([] : List UInt8), (false, ((0 : Int), ((0 : Int), ((0 : Int), (false, ()))))))))) (t17.1, (t61_10.1, ((0 : Int), (t86_5.1, ((t70_11.length : Int) == (2 : Int), ((0 : Int), (t61_11.1, ((0 : Int), (false, ()))))))))) t70_11
                        else
                          impl_ParseFrame_j1 s0 ((0 : Int), ((0 : Int), ((0 : Int), (([] : List UInt8), (false, ((0 : Int), ((0 : Int), ((0 : Int), (false, ()))))))))) (t17.1, (t61_10.1, ((0 : Int), (([] : List UInt8), (false, ((0 : Int), (t61_11.1, ((0 : Int), (false, ()))))))))) t70_11
                      )
                )
          else
            guardP (0 ≤ (1 : Int) ∧ (1 : Int) ≤ (t13.1.length : Int) ∧ (t13.1.length : Int) ≤ t13.1.length) <|
            let t46_6 : List (List UInt8) := (t13.1.drop (1 : Int).toNat).take ((t13.1.length : Int).toNat - (1 : Int).toNat)
            bif (t46_6.length : Int) == (0 : Int) then
              some (((0 : Int), ((0 : Int), ((0 : Int), (([] : List UInt8), (false, ((0 : Int), ((0 : Int), ((0 : Int), (false, ()))))))))), false, ())
            else
              guardP (0 ≤ (0 : Int) ∧ (0 : Int) < t46_6.length) <|
              Option.bind (impl_ParseInt (t46_6.getD (0 : Int).toNat ([] : List UInt8))) fun t61_12 =>
              bif !t61_12.2.1 then
                some (((0 : Int), ((0 : Int), ((0 : Int), (([] : List UInt8), (false, ((0 : Int), ((0 : Int), ((0 : Int), (false, ()))))))))), false, ())
              else
                bothN 1 (
                  guardP (0 ≤ (1 : Int) ∧ (1 : Int) ≤ (t46_6.length : Int) ∧ (t46_6.length : Int) ≤ t46_6.length) <|
                  let t70_12 : List (List UInt8) := (t46_6.drop (1 : Int).toNat).take ((t46_6.length : Int).toNat - (1 : Int).toNat)
                  let t80_6 : Bool := (t17.1 == (8 : Int)) && (decide ((t70_12.length : Int) > (0 : Int)))
                  bif t80_6 then
                    guardP (0 ≤ (0 : Int) ∧ (0 : Int) < t70_12.length) <|
                    Option.bind (strings_TrimPrefix (t70_12.getD (0 : Int).toNat ([] : List UInt8)) ([120] : List UInt8)) fun t85_6 =>
                    Option.bind (impl_DecodeHex t85_6.1) fun t86_6 =>
                    impl_ParseFrame_j1 s0 ((0 : Int), ((0 : Int), ((0 : Int), (([] : List UInt8), (false, ((0 : Int), ((0 : Int), ((0 : Int), (false, ()))))))))) (t17.1, ((0 : Int), ((0 : Int), (t86_6.1, ((t70_12.length : Int) == (2 : Int), ((0 : Int), (t61_12.1, ((0 : Int), (false, ()))))))))) t70_12
                  else
                    impl_ParseFrame_j1 s0 ((0 : Int), ((0 : Int), ((0 : Int), (([] : List UInt8), (false, ((0 : Int), ((0 : Int), ((0 : Int), (false, ()))))))))) (t17.1, ((0 : Int), ((0 : Int), (([] : List UInt8), (false, ((0 : Int), (t61_12.1, ((0 : Int), (false, ()))))))))) t70_12
                )
noncomputable def laws_eqFrame (a0 : TFrame) (b1 : TFrame) : Option (Bool × Unit) :=
  bif a0.1 != b1.1 then
    some (false, ())
  else
    bif a0.2.1 != b1.2.1 then
      some (false, ())
    else
      bif a0.2.2.1 != b1.2.2.1 then
        some (false, ())
      else
        bif !(a0.2.2.2.1 == b1.2.2.2.1) then
          some (false, ())
        else
          bif !(a0.2.2.2.2.1 == b1.2.2.2.2.1) then
            some (false, ())
          else
            bif a0.2.2.2.2.2.1 != b1.2.2.2.2.2.1 then
              some (false, ())
            else
              bif a0.2.2.2.2.2.2.1 != b1.2.2.2.2.2.2.1 then
                some (false, ())
              else
                bif a0.2.2.2.2.2.2.2.1 != b1.2.2.2.2.2.2.2.1 then
                  some (false, ())
                else
                  bif !(a0.2.2.2.2.2.2.2.2.1 == b1.2.2.2.2.2.2.2.2.1) then
                    some (false, ())
                  else
                    some (true, ())
noncomputable def laws_FnExactParseFrame (aS0 : List UInt8) : Option (Bool × Unit) :=
  bif decide ((aS0.length : Int) > (1048576 : Int)) then
    some (true, ())
  else
    Option.bind (spec_ParseFrame aS0) fun t12 =>
    Option.bind (impl_ParseFrame aS0) fun t17 =>
    Option.bind (laws_eqFrame t17.1 t12.1) fun t22 =>
    bif (!t22.1) || (!(t17.2.1 == t12.2.1)) then
      some (false, ())
    else
      some (true, ())
def tab : Tab := lookT [(3, .int .i64), (4, .bool), (5, .int .u8), (9, .str), (29, tyFrame), (33, .slice 9 (.str)), (62, .slice 5 (.int .u8))]
theorem tok_3 : TOK Tryd.prog 3 (.int .i64) := ⟨by kernel_rfl, by kernel_rfl⟩
theorem tok_4 : TOK Tryd.prog 4 (.bool) := ⟨by kernel_rfl, by kernel_rfl⟩
theorem tok_5 : TOK Tryd.prog 5 (.int .u8) := ⟨by kernel_rfl, by kernel_rfl⟩
theorem tok_9 : TOK Tryd.prog 9 (.str) := ⟨by kernel_rfl, by kernel_rfl⟩
theorem tok_29 : TOK Tryd.prog 29 (tyFrame) := ⟨by kernel_rfl, by kernel_rfl⟩
theorem tok_33 : TOK Tryd.prog 33 (.slice 9 (.str)) := ⟨by kernel_rfl, by kernel_rfl⟩
theorem tok_62 : TOK Tryd.prog 62 (.slice 5 (.int .u8)) := ⟨by kernel_rfl, by kernel_rfl⟩
theorem tab_ok : tab.ok Tryd.prog := (tab_cons tok_3 (tab_cons tok_4 (tab_cons tok_5 (tab_cons tok_9 (tab_cons tok_29 (tab_cons tok_33 (tab_cons tok_62 tab_nil)))))))
noncomputable abbrev glob : Glob := Glob.vars Tryd.prog [("internal/bytealg.MaxLen", oneInt), ("strconv.ErrSyntax", oneErr), ("internal/strconv.uint64pow10", (· = (Go.Lib.pow10Tab.map fun z => Value.int .u64 z).toArray))]
theorem eqo_29 : EqOK Tryd.prog 29 (tyFrame) := EqOK.of (by kernel_rfl) (by kernel_rfl) rfl (by decide)
def eqsL : List Nat := [29]
theorem eqs_ok : EqsL Tryd.prog tab eqsL := (eqs_cons eqo_29 rfl eqs_nil)
@[reducible] def ptab : PTab := { pp := [(49, 48)], er := [68] }
theorem ptab_ok : ptab.ok Tryd.prog := PTab.ok_of (by kernel_rfl) (by kernel_rfl)
@[reducible] def cfg (ln : List Nat) (Γ : Env) (ΓL : EnvL) (ΓB : EnvB) (ΓW : EnvW) : Cfg := { τ := tab, eq := fun e => eqsL.any (Nat.beq e), Γ := Γ, ΓL := ΓL, ΓB := ΓB, lent := ln, ΓW := ΓW, pt := ptab }
theorem cfg_ok {gl : Glob} {ln : List Nat} {Γ : Env} {ΓL : EnvL} {ΓB : EnvB} {ΓW : EnvW} (hs : gl.soft = false) (h : Γ.ok Tryd.prog gl) (hL : ΓL.ok Tryd.prog gl) (hB : ΓB.ok Tryd.prog gl) (hW : ΓW.ok Tryd.prog) : (cfg ln Γ ΓL ΓB ΓW).ok Tryd.prog gl := ⟨tab_ok, eqs_ok, h, by kernel_rfl, hL, hB, hs, (fun h => by cases h), hW, ptab_ok⟩
@[reducible] noncomputable def e_spec_l13Cut : FnE := { f := 13, args := [.str, .int .u8], res := [.slice 9 (.str)], F := fun xs => spec_l13Cut xs.1 xs.2.1 }
theorem ok_spec_l13Cut : FnOK Tryd.prog glob e_spec_l13Cut := by
  refine FnOK.of (e := e_spec_l13Cut) (C := cfg [] [] [] [] []) (cfg_ok rfl env_nil envL_nil envB_nil envW_nil) rfl Tryd.func13 (c := codeOf Tryd.f13) rfl Tryd.call13 (by decide)
    ((.seq .leaf (.seq .leaf (.seq .leaf (.seq (.seq .leaf (.block (.loop spec_l13Cut_l1_p (fun N v => spec_l13Cut_l1 N v.1 v.2.1 v.2.2.1 v.2.2.2.1 v.2.2.2.2.1) (fun v => spec_l13Cut_l1_fuel v.1 v.2.1 v.2.2.1 v.2.2.2.1 v.2.2.2.2.1) (fun K1 => (.seq .leaf (.join spec_l13Cut_j1_p (fun v => spec_l13Cut_j1 K1 v.1 v.2.1 v.2.2.1 v.2.2.2.1 v.2.2.2.2.1) .leaf .leaf)))))) .leaf))))) ?_ ?_
  · exact ⟨conds_leaf _ _, ⟨conds_leaf _ _, ⟨conds_leaf _ _, ⟨⟨conds_leaf _ _, ⟨fun _ => rfl, fun N => ⟨(fun v => by kernel_rfl), ⟨conds_leaf _ _, ⟨conds_leaf _ _, (fun v => by kernel_rfl), conds_leaf _ _⟩⟩⟩⟩⟩, conds_leaf _ _⟩⟩⟩⟩
  · intro xs r h
    refine Eq.trans (Eq.symm ?_) h
    kernel_rfl
@[reducible] noncomputable def e_spec_KindName : FnE := { f := 19, args := [.int .i64], res := [.str], F := fun xs => spec_KindName xs.1 }
theorem ok_spec_KindName : FnOK Tryd.prog glob e_spec_KindName := by
  refine FnOK.of (e := e_spec_KindName) (C := cfg [] [] [] [] []) (cfg_ok rfl env_nil envL_nil envB_nil envW_nil) rfl Tryd.func19 (c := codeOf Tryd.f19) rfl Tryd.call19 (by decide)
    (.leaf) ?_ ?_
  · exact conds_leaf _ _
  · intro xs r h
    refine Eq.trans (Eq.symm ?_) h
    kernel_rfl
@[reducible] noncomputable def e_spec_IsAboutStream : FnE := { f := 20, args := [tyFrame], res := [.bool], F := fun xs => spec_IsAboutStream xs.1 }
theorem ok_spec_IsAboutStream : FnOK Tryd.prog glob e_spec_IsAboutStream := by
  refine FnOK.of (e := e_spec_IsAboutStream) (C := cfg [] [] [] [] []) (cfg_ok rfl env_nil envL_nil envB_nil envW_nil) rfl Tryd.func20 (c := codeOf Tryd.f20) rfl Tryd.call20 (by decide)
    ((.seq .leaf (.seq (.seq .leaf (.block (.join spec_IsAboutStream_j1_p (fun v => spec_IsAboutStream_j1 v.1) .leaf .leaf))) .leaf))) ?_ ?_
  · exact ⟨conds_leaf _ _, ⟨⟨conds_leaf _ _, ⟨conds_leaf _ _, (fun v => by kernel_rfl), conds_leaf _ _⟩⟩, conds_leaf _ _⟩⟩
  · intro xs r h
    refine Eq.trans (Eq.symm ?_) h
    kernel_rfl
@[reducible] noncomputable def e_spec_FormatInt : FnE := { f := 42, args := [.int .i64], res := [.str], F := fun xs => spec_FormatInt xs.1 }
theorem ok_spec_FormatInt : FnOK Tryd.prog glob e_spec_FormatInt := by
  refine FnOK.of (e := e_spec_FormatInt) (C := cfg [] [] [] [] []) (cfg_ok rfl env_nil envL_nil envB_nil envW_nil) rfl Tryd.func42 (c := codeOf Tryd.f42) rfl Tryd.call42 (by decide)
    ((.seq .leaf (.seq .leaf (.seq .leaf (.seq .leaf (.seq (.block (.loop spec_FormatInt_l1_p (fun N v => spec_FormatInt_l1 N v.1 v.2.1 v.2.2.1) (fun v => spec_FormatInt_l1_fuel v.1 v.2.1 v.2.2.1) (fun K1 => (.seq .leaf (.block (.seq .leaf (.join spec_FormatInt_j1_p (fun v => spec_FormatInt_j1 K1 v.1 v.2.1 v.2.2.1 v.2.2.2.1) .leaf .leaf))))))) .leaf)))))) ?_ ?_
  · exact ⟨conds_leaf _ _, ⟨conds_leaf _ _, ⟨conds_leaf _ _, ⟨conds_leaf _ _, ⟨⟨fun _ => rfl, fun N => ⟨(fun v => by kernel_rfl), ⟨conds_leaf _ _, ⟨conds_leaf _ _, ⟨conds_leaf _ _, (fun v => by kernel_rfl), conds_leaf _ _⟩⟩⟩⟩⟩, conds_leaf _ _⟩⟩⟩⟩⟩
  · intro xs r h
    refine Eq.trans (Eq.symm ?_) h
    kernel_rfl
@[reducible] noncomputable def e_spec_ParseInt : FnE := { f := 60, args := [.str], res := [.int .i64, .bool], F := fun xs => spec_ParseInt xs.1 }
theorem ok_spec_ParseInt : FnOK Tryd.prog glob e_spec_ParseInt := by
  refine FnOK.of (e := e_spec_ParseInt) (C := cfg [] [e_spec_FormatInt] [] [] []) (cfg_ok rfl (env_cons ok_spec_FormatInt env_nil) envL_nil envB_nil envW_nil) rfl Tryd.func60 (c := codeOf Tryd.f60) rfl Tryd.call60 (by decide)
    ((.seq .leaf (.seq .leaf (.seq .leaf (.seq (.seq .leaf (.block (.loop spec_ParseInt_l1_p (fun N v => spec_ParseInt_l1 N v.1 v.2.1 v.2.2.1 v.2.2.2.1) (fun v => spec_ParseInt_l1_fuel v.1 v.2.1 v.2.2.1 v.2.2.2.1) (fun K1 => (.seq .leaf (.join spec_ParseInt_j1_p (fun v => spec_ParseInt_j1 K1 v.1 v.2.1 v.2.2.1 v.2.2.2.1) .leaf .leaf)))))) (.join spec_ParseInt_j2_p (fun v => spec_ParseInt_j2 v.1 v.2.1 v.2.2.1) .leaf .leaf)))))) ?_ ?_
  · exact ⟨conds_leaf _ _, ⟨conds_leaf _ _, ⟨conds_leaf _ _, ⟨⟨conds_leaf _ _, ⟨fun _ => rfl, fun N => ⟨(fun v => by kernel_rfl), ⟨conds_leaf _ _, ⟨conds_leaf _ _, (fun v => by kernel_rfl), conds_leaf _ _⟩⟩⟩⟩⟩, ⟨conds_leaf _ _, (fun v => by kernel_rfl), conds_leaf _ _⟩⟩⟩⟩⟩
  · intro xs r h
    refine Eq.trans (Eq.symm ?_) h
    kernel_rfl
@[reducible] noncomputable def e_spec_l23Num : FnE := { f := 31, args := [.str], res := [.int .i64], F := fun xs => spec_l23Num xs.1 }
theorem ok_spec_l23Num : FnOK Tryd.prog glob e_spec_l23Num := by
  refine FnOK.of (e := e_spec_l23Num) (C := cfg [] [e_spec_ParseInt] [] [] []) (cfg_ok rfl (env_cons ok_spec_ParseInt env_nil) envL_nil envB_nil envW_nil) rfl Tryd.func31 (c := codeOf Tryd.f31) rfl Tryd.call31 (by decide)
    (.leaf) ?_ ?_
  · exact conds_leaf _ _
  · intro xs r h
    refine Eq.trans (Eq.symm ?_) h
    kernel_rfl
@[reducible] noncomputable def e_spec_l32At : FnE := { f := 21, args := [.slice 9 (.str), .int .i64], res := [.int .i64], F := fun xs => spec_l32At xs.1 xs.2.1 }
theorem ok_spec_l32At : FnOK Tryd.prog glob e_spec_l32At := by
  refine FnOK.of (e := e_spec_l32At) (C := cfg [] [e_spec_l23Num] [] [] []) (cfg_ok rfl (env_cons ok_spec_l23Num env_nil) envL_nil envB_nil envW_nil) rfl Tryd.func21 (c := codeOf Tryd.f21) rfl Tryd.call21 (by decide)
    (.leaf) ?_ ?_
  · exact conds_leaf _ _
  · intro xs r h
    refine Eq.trans (Eq.symm ?_) h
    kernel_rfl
@[reducible] noncomputable def e_spec_l1Digit : FnE := { f := 67, args := [.int .i64], res := [.int .u8], F := fun xs => spec_l1Digit xs.1 }
theorem ok_spec_l1Digit : FnOK Tryd.prog glob e_spec_l1Digit := by
  refine FnOK.of (e := e_spec_l1Digit) (C := cfg [] [] [] [] []) (cfg_ok rfl env_nil envL_nil envB_nil envW_nil) rfl Tryd.func67 (c := codeOf Tryd.f67) rfl Tryd.call67 (by decide)
    (.leaf) ?_ ?_
  · exact conds_leaf _ _
  · intro xs r h
    refine Eq.trans (Eq.symm ?_) h
    kernel_rfl
@[reducible] noncomputable def e_spec_l1FromHex : FnE := { f := 39, args := [.int .u8], res := [.int .i64], F := fun xs => spec_l1FromHex xs.1 }
theorem ok_spec_l1FromHex : FnOK Tryd.prog glob e_spec_l1FromHex := by
  refine FnOK.of (e := e_spec_l1FromHex) (C := cfg [] [e_spec_l1Digit] [] [] []) (cfg_ok rfl (env_cons ok_spec_l1Digit env_nil) envL_nil envB_nil envW_nil) rfl Tryd.func39 (c := codeOf Tryd.f39) rfl Tryd.call39 (by decide)
    ((.seq .leaf (.seq (.seq .leaf (.block (.loop spec_l1FromHex_l1_p (fun N v => spec_l1FromHex_l1 N v.1 v.2.1) (fun v => spec_l1FromHex_l1_fuel v.1 v.2.1) (fun K1 => .leaf)))) .leaf))) ?_ ?_
  · exact ⟨conds_leaf _ _, ⟨⟨conds_leaf _ _, ⟨fun _ => rfl, fun N => ⟨(fun v => by kernel_rfl), conds_leaf _ _⟩⟩⟩, conds_leaf _ _⟩⟩
  · intro xs r h
    refine Eq.trans (Eq.symm ?_) h
    kernel_rfl
@[reducible] noncomputable def e_spec_DecodeHex : FnE := { f := 22, args := [.str], res := [.str, .bool], F := fun xs => spec_DecodeHex xs.1 }
theorem ok_spec_DecodeHex : FnOK Tryd.prog glob e_spec_DecodeHex := by
  refine FnOK.of (e := e_spec_DecodeHex) (C := cfg [] [e_spec_l1FromHex] [] [] []) (cfg_ok rfl (env_cons ok_spec_l1FromHex env_nil) envL_nil envB_nil envW_nil) rfl Tryd.func22 (c := codeOf Tryd.f22) rfl Tryd.call22 (by decide)
    ((.seq .leaf (.seq .leaf (.seq .leaf (.seq (.seq .leaf (.block (.loop spec_DecodeHex_l1_p (fun N v => spec_DecodeHex_l1 N v.1 v.2.1 v.2.2.1) (fun v => spec_DecodeHex_l1_fuel v.1 v.2.1 v.2.2.1) (fun K1 => .leaf)))) .leaf))))) ?_ ?_
  · exact ⟨conds_leaf _ _, ⟨conds_leaf _ _, ⟨conds_leaf _ _, ⟨⟨conds_leaf _ _, ⟨fun _ => rfl, fun N => ⟨(fun v => by kernel_rfl), conds_leaf _ _⟩⟩⟩, conds_leaf _ _⟩⟩⟩⟩
  · intro xs r h
    refine Eq.trans (Eq.symm ?_) h
    kernel_rfl
@[reducible] noncomputable def e_spec_l4Used : FnE := { f := 68, args := [tyFrame], res := [tyFrame], F := fun xs => spec_l4Used xs.1 }
theorem ok_spec_l4Used : FnOK Tryd.prog glob e_spec_l4Used := by
  refine FnOK.of (e := e_spec_l4Used) (C := cfg [] [e_spec_IsAboutStream] [] [] []) (cfg_ok rfl (env_cons ok_spec_IsAboutStream env_nil) envL_nil envB_nil envW_nil) rfl Tryd.func68 (c := codeOf Tryd.f68) rfl Tryd.call68 (by decide)
    ((.seq .leaf (.seq .leaf (.join spec_l4Used_j1_p (fun v => spec_l4Used_j1 v.1 v.2.1 v.2.2.1) .leaf (.seq (.seq .leaf (.block (.seq .leaf (.cond .leaf (.seq .leaf (.cond .leaf (.seq .leaf (.cond .leaf (.join spec_l4Used_j2_p (fun v => spec_l4Used_j2 v.1 v.2.1 v.2.2.1 v.2.2.2.1) .leaf .leaf))))))))) .leaf))))) ?_ ?_
  · exact ⟨conds_leaf _ _, ⟨conds_leaf _ _, ⟨conds_leaf _ _, (fun v => by kernel_rfl), ⟨⟨conds_leaf _ _, ⟨conds_leaf _ _, ⟨conds_leaf _ _, ⟨conds_leaf _ _, ⟨conds_leaf _ _, ⟨conds_leaf _ _, ⟨conds_leaf _ _, ⟨conds_leaf _ _, (fun v => by kernel_rfl), conds_leaf _ _⟩⟩⟩⟩⟩⟩⟩⟩, conds_leaf _ _⟩⟩⟩⟩
  · intro xs r h
    refine Eq.trans (Eq.symm ?_) h
    kernel_rfl
@[reducible] noncomputable def e_spec_l1In : FnE := { f := 59, args := [.int .i64, .int .i64, .int .i64], res := [.bool], F := fun xs => spec_l1In xs.1 xs.2.1 xs.2.2.1 }
theorem ok_spec_l1In : FnOK Tryd.prog glob e_spec_l1In := by
  refine FnOK.of (e := e_spec_l1In) (C := cfg [] [] [] [] []) (cfg_ok rfl env_nil envL_nil envB_nil envW_nil) rfl Tryd.func59 (c := codeOf Tryd.f59) rfl Tryd.call59 (by decide)
    (.leaf) ?_ ?_
  · exact conds_leaf _ _
  · intro xs r h
    refine Eq.trans (Eq.symm ?_) h
    kernel_rfl
@[reducible] noncomputable def e_spec_l4Quic : FnE := { f := 69, args := [.int .i64], res := [.bool], F := fun xs => spec_l4Quic xs.1 }
theorem ok_spec_l4Quic : FnOK Tryd.prog glob e_spec_l4Quic := by
  refine FnOK.of (e := e_spec_l4Quic) (C := cfg [] [e_spec_l1In] [] [] []) (cfg_ok rfl (env_cons ok_spec_l1In env_nil) envL_nil envB_nil envW_nil) rfl Tryd.func69 (c := codeOf Tryd.f69) rfl Tryd.call69 (by decide)
    (.leaf) ?_ ?_
  · exact conds_leaf _ _
  · intro xs r h
    refine Eq.trans (Eq.symm ?_) h
    kernel_rfl
@[reducible] noncomputable def e_spec_IsFrame : FnE := { f := 40, args := [tyFrame], res := [.bool], F := fun xs => spec_IsFrame xs.1 }
theorem ok_spec_IsFrame : FnOK Tryd.prog glob e_spec_IsFrame := by
  refine FnOK.of (e := e_spec_IsFrame) (C := cfg [] [e_spec_KindName, e_spec_l4Used, e_spec_l4Quic] [] [] []) (cfg_ok rfl (env_cons ok_spec_KindName (env_cons ok_spec_l4Used (env_cons ok_spec_l4Quic env_nil))) envL_nil envB_nil envW_nil) rfl Tryd.func40 (c := codeOf Tryd.f40) rfl Tryd.call40 (by decide)
    ((.seq .leaf (.seq .leaf (.seq (.seq .leaf (.block (.seq .leaf (.cond .leaf (.join spec_IsFrame_j1_p (fun v => spec_IsFrame_j1 v.1 v.2.1) .leaf .leaf))))) .leaf)))) ?_ ?_
  · exact ⟨conds_leaf _ _, ⟨conds_leaf _ _, ⟨⟨conds_leaf _ _, ⟨conds_leaf _ _, ⟨conds_leaf _ _, ⟨conds_leaf _ _, (fun v => by kernel_rfl), conds_leaf _ _⟩⟩⟩⟩, conds_leaf _ _⟩⟩⟩
  · intro xs r h
    refine Eq.trans (Eq.symm ?_) h
    kernel_rfl
@[reducible] noncomputable def e_spec_l32Small : FnE := { f := 41, args := [.int .i64], res := [.bool], F := fun xs => spec_l32Small xs.1 }
theorem ok_spec_l32Small : FnOK Tryd.prog glob e_spec_l32Small := by
  refine FnOK.of (e := e_spec_l32Small) (C := cfg [] [e_spec_l1In] [] [] []) (cfg_ok rfl (env_cons ok_spec_l1In env_nil) envL_nil envB_nil envW_nil) rfl Tryd.func41 (c := codeOf Tryd.f41) rfl Tryd.call41 (by decide)
    (.leaf) ?_ ?_
  · exact conds_leaf _ _
  · intro xs r h
    refine Eq.trans (Eq.symm ?_) h
    kernel_rfl
@[reducible] noncomputable def e_spec_EncodeHex : FnE := { f := 43, args := [.str], res := [.str], F := fun xs => spec_EncodeHex xs.1 }
theorem ok_spec_EncodeHex : FnOK Tryd.prog glob e_spec_EncodeHex := by
  refine FnOK.of (e := e_spec_EncodeHex) (C := cfg [] [e_spec_l1Digit] [] [] []) (cfg_ok rfl (env_cons ok_spec_l1Digit env_nil) envL_nil envB_nil envW_nil) rfl Tryd.func43 (c := codeOf Tryd.f43) rfl Tryd.call43 (by decide)
    ((.seq .leaf (.seq .leaf (.seq (.seq .leaf (.block (.loop spec_EncodeHex_l1_p (fun N v => spec_EncodeHex_l1 N v.1 v.2.1 v.2.2.1) (fun v => spec_EncodeHex_l1_fuel v.1 v.2.1 v.2.2.1) (fun K1 => .leaf)))) .leaf)))) ?_ ?_
  · exact ⟨conds_leaf _ _, ⟨conds_leaf _ _, ⟨⟨conds_leaf _ _, ⟨fun _ => rfl, fun N => ⟨(fun v => by kernel_rfl), conds_leaf _ _⟩⟩⟩, conds_leaf _ _⟩⟩⟩
  · intro xs r h
    refine Eq.trans (Eq.symm ?_) h
    kernel_rfl
@[reducible] noncomputable def e_spec_l32Fin : FnE := { f := 44, args := [.bool], res := [.str], F := fun xs => spec_l32Fin xs.1 }
theorem ok_spec_l32Fin : FnOK Tryd.prog glob e_spec_l32Fin := by
  refine FnOK.of (e := e_spec_l32Fin) (C := cfg [] [] [] [] []) (cfg_ok rfl env_nil envL_nil envB_nil envW_nil) rfl Tryd.func44 (c := codeOf Tryd.f44) rfl Tryd.call44 (by decide)
    (.leaf) ?_ ?_
  · exact conds_leaf _ _
  · intro xs r h
    refine Eq.trans (Eq.symm ?_) h
    kernel_rfl
@[reducible] noncomputable def e_spec_l32Uni : FnE := { f := 45, args := [.bool], res := [.str], F := fun xs => spec_l32Uni xs.1 }
theorem ok_spec_l32Uni : FnOK Tryd.prog glob e_spec_l32Uni := by
  refine FnOK.of (e := e_spec_l32Uni) (C := cfg [] [] [] [] []) (cfg_ok rfl env_nil envL_nil envB_nil envW_nil) rfl Tryd.func45 (c := codeOf Tryd.f45) rfl Tryd.call45 (by decide)
    (.leaf) ?_ ?_
  · exact conds_leaf _ _
  · intro xs r h
    refine Eq.trans (Eq.symm ?_) h
    kernel_rfl
@[reducible] noncomputable def e_spec_FormatFrame : FnE := { f := 23, args := [tyFrame], res := [.str], F := fun xs => spec_FormatFrame xs.1 }
theorem ok_spec_FormatFrame : FnOK Tryd.prog glob e_spec_FormatFrame := by
  refine FnOK.of (e := e_spec_FormatFrame) (C := cfg [] [e_spec_IsFrame, e_spec_l32Small, e_spec_KindName, e_spec_FormatInt, e_spec_EncodeHex, e_spec_l32Fin, e_spec_l32Uni] [] [] []) (cfg_ok rfl (env_cons ok_spec_IsFrame (env_cons ok_spec_l32Small (env_cons ok_spec_KindName (env_cons ok_spec_FormatInt (env_cons ok_spec_EncodeHex (env_cons ok_spec_l32Fin (env_cons ok_spec_l32Uni env_nil))))))) envL_nil envB_nil envW_nil) rfl Tryd.func23 (c := codeOf Tryd.f23) rfl Tryd.call23 (by decide)
    ((.seq .leaf (.seq .leaf (.seq .leaf (.seq (.seq .leaf (.block (.seq .leaf (.cond .leaf (.seq .leaf (.cond .leaf (.seq .leaf (.cond .leaf (.join spec_FormatFrame_j1_p (fun v => spec_FormatFrame_j1 v.1 v.2.1 v.2.2.1 v.2.2.2.1) .leaf (.cond .leaf (.join spec_FormatFrame_j2_p (fun v => spec_FormatFrame_j2 v.1 v.2.1 v.2.2.1) .leaf .leaf))))))))))) .leaf))))) ?_ ?_
  · exact ⟨conds_leaf _ _, ⟨conds_leaf _ _, ⟨conds_leaf _ _, ⟨⟨conds_leaf _ _, ⟨conds_leaf _ _, ⟨conds_leaf _ _, ⟨conds_leaf _ _, ⟨conds_leaf _ _, ⟨conds_leaf _ _, ⟨conds_leaf _ _, ⟨conds_leaf _ _, (fun v => by kernel_rfl), ⟨conds_leaf _ _, ⟨conds_leaf _ _, (fun v => by kernel_rfl), conds_leaf _ _⟩⟩⟩⟩⟩⟩⟩⟩⟩⟩, conds_leaf _ _⟩⟩⟩⟩
  · intro xs r h
    refine Eq.trans (Eq.symm ?_) h
    kernel_rfl
@[reducible] noncomputable def e_spec_ParseFrame : FnE := { f := 10, args := [.str], res := [tyFrame, .bool], F := fun xs => spec_ParseFrame xs.1 }
theorem ok_spec_ParseFrame : FnOK Tryd.prog glob e_spec_ParseFrame := by
  refine FnOK.of (e := e_spec_ParseFrame) (C := cfg [] [e_spec_l13Cut, e_spec_KindName, e_spec_IsAboutStream, e_spec_l32At, e_spec_DecodeHex, e_spec_FormatFrame] [] [] []) (cfg_ok rfl (env_cons ok_spec_l13Cut (env_cons ok_spec_KindName (env_cons ok_spec_IsAboutStream (env_cons ok_spec_l32At (env_cons ok_spec_DecodeHex (env_cons ok_spec_FormatFrame env_nil)))))) envL_nil envB_nil envW_nil) rfl Tryd.func10 (c := codeOf Tryd.f10) rfl Tryd.call10 (by decide)
    ((.seq .leaf (.seq .leaf (.seq .leaf (.seq (.seq .leaf (.block (.loop spec_ParseFrame_l1_p (fun N v => spec_ParseFrame_l1 N v.1 v.2.1 v.2.2.1 v.2.2.2.1 v.2.2.2.2.1) (fun v => spec_ParseFrame_l1_fuel v.1 v.2.1 v.2.2.1 v.2.2.2.1 v.2.2.2.2.1) (fun K1 => (.seq .leaf (.join spec_ParseFrame_j1_p (fun v => spec_ParseFrame_j1 K1 v.1 v.2.1 v.2.2.1 v.2.2.2.1 v.2.2.2.2.1) .leaf .leaf)))))) (.join spec_ParseFrame_j2_p (fun v => spec_ParseFrame_j2 v.1 v.2.1 v.2.2.1 v.2.2.2.1) .leaf (.join spec_ParseFrame_j3_p (fun v => spec_ParseFrame_j3 v.1 v.2.1 v.2.2.1) (.seq .leaf (.block (.seq .leaf (.cond .leaf (.seq .leaf (.cond .leaf (.seq .leaf (.cond (.seq .leaf (.join spec_ParseFrame_j4_p (fun v => spec_ParseFrame_j4 v.1 v.2.1 v.2.2.1 v.2.2.2.1) .leaf .leaf)) (.join spec_ParseFrame_j5_p (fun v => spec_ParseFrame_j5 v.1 v.2.1 v.2.2.1 v.2.2.2.1 v.2.2.2.2.1 v.2.2.2.2.2.1) .leaf (.cond .leaf (.join spec_ParseFrame_j6_p (fun v => spec_ParseFrame_j6 v.1 v.2.1 v.2.2.1 v.2.2.2.1 v.2.2.2.2.1) .leaf .leaf))))))))))) .leaf))))))) ?_ ?_
  · exact ⟨conds_leaf _ _, ⟨conds_leaf _ _, ⟨conds_leaf _ _, ⟨⟨conds_leaf _ _, ⟨fun _ => rfl, fun N => ⟨(fun v => by kernel_rfl), ⟨conds_leaf _ _, ⟨conds_leaf _ _, (fun v => by kernel_rfl), conds_leaf _ _⟩⟩⟩⟩⟩, ⟨conds_leaf _ _, (fun v => by kernel_rfl), ⟨⟨conds_leaf _ _, ⟨conds_leaf _ _, ⟨conds_leaf _ _, ⟨conds_leaf _ _, ⟨conds_leaf _ _, ⟨conds_leaf _ _, ⟨⟨conds_leaf _ _, ⟨conds_leaf _ _, (fun v => by kernel_rfl), conds_leaf _ _⟩⟩, ⟨conds_leaf _ _, (fun v => by kernel_rfl), ⟨conds_leaf _ _, ⟨conds_leaf _ _, (fun v => by kernel_rfl), conds_leaf _ _⟩⟩⟩⟩⟩⟩⟩⟩⟩⟩, (fun v => by kernel_rfl), conds_leaf _ _⟩⟩⟩⟩⟩⟩
  · intro xs r h
    refine Eq.trans (Eq.symm ?_) h
    kernel_rfl
@[reducible] noncomputable def e_strings_Split : FnE := { f := 15, args := [.str, .str], res := [.slice 9 (.str)], F := fun xs => strings_Split xs.1 xs.2.1 }
theorem ok_strings_Split : FnOK Tryd.prog glob e_strings_Split :=
  FnOK.split Tryd.call15 (by decide) (fun w hg => Glob.vars_int (b := 1) hg 0 (by decide) rfl rfl (by kernel_rfl))
    (fun s p k w h1 h2 h3 => Tryd.strings_Split s p k w h1 h2 h3)
@[reducible] noncomputable def e_impl_KindName : FnE := { f := 46, args := [.int .i64], res := [.str], F := fun xs => impl_KindName xs.1 }
theorem ok_impl_KindName : FnOK Tryd.prog glob e_impl_KindName := by
  refine FnOK.of (e := e_impl_KindName) (C := cfg [] [] [] [] []) (cfg_ok rfl env_nil envL_nil envB_nil envW_nil) rfl Tryd.func46 (c := codeOf Tryd.f46) rfl Tryd.call46 (by decide)
    (.leaf) ?_ ?_
  · exact conds_leaf _ _
  · intro xs r h
    refine Eq.trans (Eq.symm ?_) h
    kernel_rfl
@[reducible] noncomputable def e_impl_kindOf : FnE := { f := 24, args := [.str], res := [.int .i64], F := fun xs => impl_kindOf xs.1 }
theorem ok_impl_kindOf : FnOK Tryd.prog glob e_impl_kindOf := by
  refine FnOK.of (e := e_impl_kindOf) (C := cfg [] [e_impl_KindName] [] [] []) (cfg_ok rfl (env_cons ok_impl_KindName env_nil) envL_nil envB_nil envW_nil) rfl Tryd.func24 (c := codeOf Tryd.f24) rfl Tryd.call24 (by decide)
    ((.seq .leaf (.seq (.seq .leaf (.block (.loop impl_kindOf_l1_p (fun N v => impl_kindOf_l1 N v.1 v.2.1) (fun v => impl_kindOf_l1_fuel v.1 v.2.1) (fun K1 => .leaf)))) .leaf))) ?_ ?_
  · exact ⟨conds_leaf _ _, ⟨⟨conds_leaf _ _, ⟨fun _ => rfl, fun N => ⟨(fun v => by kernel_rfl), conds_leaf _ _⟩⟩⟩, conds_leaf _ _⟩⟩
  · intro xs r h
    refine Eq.trans (Eq.symm ?_) h
    kernel_rfl
@[reducible] noncomputable def e_strconv_Atoi : FnE := { f := 47, args := [.str], res := [.int .i64, .err], F := fun xs => strconv_Atoi xs.1 }
theorem ok_strconv_Atoi : FnOK Tryd.prog glob e_strconv_Atoi :=
  FnOK.atoi Tryd.call47 (fun w hg => Glob.vars_err hg 1 (by decide) rfl rfl) (fun s n hl h w => Tryd.strconv_Atoi s n hl h w)
    (fun s hl h tp p w hv => (Tryd.strconv_Atoi_err_var s hl h tp p w hv).mono fun e w' ⟨N, h1, _, _, h2⟩ => ⟨_, N, h1, h2⟩)
@[reducible] noncomputable def e_strconv_Itoa : FnE := { f := 48, args := [.int .i64], res := [.str], F := fun xs => strconv_Itoa xs.1 }
theorem ok_strconv_Itoa : FnOK Tryd.prog glob e_strconv_Itoa :=
  FnOK.intStr Tryd.call48 fun n w hg h0 h1 => (Tryd.strconv_Itoa n h0 h1 w (Glob.vars_eq hg 2 (by decide) rfl rfl)).mono fun e w' ⟨he, k, os, hw⟩ => ⟨he, hw ▸ Go.Lib.below_grow _ _ (Nat.le_refl _) k os⟩
@[reducible] noncomputable def e_impl_within : FnE := { f := 49, args := [.int .i64, .int .i64, .int .i64], res := [.bool], F := fun xs => impl_within xs.1 xs.2.1 xs.2.2.1 }
theorem ok_impl_within : FnOK Tryd.prog glob e_impl_within := by
  refine FnOK.of (e := e_impl_within) (C := cfg [] [] [] [] []) (cfg_ok rfl env_nil envL_nil envB_nil envW_nil) rfl Tryd.func49 (c := codeOf Tryd.f49) rfl Tryd.call49 (by decide)
    (.leaf) ?_ ?_
  · exact conds_leaf _ _
  · intro xs r h
    refine Eq.trans (Eq.symm ?_) h
    kernel_rfl
@[reducible] noncomputable def e_impl_ParseInt : FnE := { f := 25, args := [.str], res := [.int .i64, .bool], F := fun xs => impl_ParseInt xs.1 }
theorem ok_impl_ParseInt : FnOK Tryd.prog glob e_impl_ParseInt := by
  refine FnOK.of (e := e_impl_ParseInt) (C := cfg [] [e_strconv_Atoi, e_strconv_Itoa, e_impl_within] [] [] []) (cfg_ok rfl (env_cons ok_strconv_Atoi (env_cons ok_strconv_Itoa (env_cons ok_impl_within env_nil))) envL_nil envB_nil envW_nil) rfl Tryd.func25 (c := codeOf Tryd.f25) rfl Tryd.call25 (by decide)
    (.leaf) ?_ ?_
  · exact conds_leaf _ _
  · intro xs r h
    refine Eq.trans (Eq.symm ?_) h
    kernel_rfl
@[reducible] noncomputable def e_strings_TrimPrefix : FnE := { f := 27, args := [.str, .str], res := [.str], F := fun xs => strings_TrimPrefix xs.1 xs.2.1 }
theorem ok_strings_TrimPrefix : FnOK Tryd.prog glob e_strings_TrimPrefix :=
  FnOK.str2str Tryd.call27 (fun s p w => Tryd.strings_TrimPrefix s p w)
@[reducible] noncomputable def e_impl_hexValue : FnE := { f := 50, args := [.int .u8], res := [.int .i64], F := fun xs => impl_hexValue xs.1 }
theorem ok_impl_hexValue : FnOK Tryd.prog glob e_impl_hexValue := by
  refine FnOK.of (e := e_impl_hexValue) (C := cfg [] [] [] [] []) (cfg_ok rfl env_nil envL_nil envB_nil envW_nil) rfl Tryd.func50 (c := codeOf Tryd.f50) rfl Tryd.call50 (by decide)
    (.leaf) ?_ ?_
  · exact conds_leaf _ _
  · intro xs r h
    refine Eq.trans (Eq.symm ?_) h
    kernel_rfl
@[reducible] noncomputable def e_impl_DecodeHex : FnE := { f := 26, args := [.str], res := [.str, .bool], F := fun xs => impl_DecodeHex xs.1 }
theorem ok_impl_DecodeHex : FnOK Tryd.prog glob e_impl_DecodeHex := by
  refine FnOK.of (e := e_impl_DecodeHex) (C := cfg [] [e_impl_hexValue] [] [] []) (cfg_ok rfl (env_cons ok_impl_hexValue env_nil) envL_nil envB_nil envW_nil) rfl Tryd.func26 (c := codeOf Tryd.f26) rfl Tryd.call26 (by decide)
    ((.seq .leaf (.seq .leaf (.seq .leaf (.seq (.seq .leaf (.block (.loop impl_DecodeHex_l1_p (fun N v => impl_DecodeHex_l1 N v.1 v.2.1 v.2.2.1) (fun v => impl_DecodeHex_l1_fuel v.1 v.2.1 v.2.2.1) (fun K1 => .leaf)))) .leaf))))) ?_ ?_
  · exact ⟨conds_leaf _ _, ⟨conds_leaf _ _, ⟨conds_leaf _ _, ⟨⟨conds_leaf _ _, ⟨fun _ => rfl, fun N => ⟨(fun v => by kernel_rfl), conds_leaf _ _⟩⟩⟩, conds_leaf _ _⟩⟩⟩⟩
  · intro xs r h
    refine Eq.trans (Eq.symm ?_) h
    kernel_rfl
@[reducible] noncomputable def e_impl_IsAboutStream : FnE := { f := 54, args := [tyFrame], res := [.bool], F := fun xs => impl_IsAboutStream xs.1 }
theorem ok_impl_IsAboutStream : FnOK Tryd.prog glob e_impl_IsAboutStream := by
  refine FnOK.of (e := e_impl_IsAboutStream) (C := cfg [] [] [] [] []) (cfg_ok rfl env_nil envL_nil envB_nil envW_nil) rfl Tryd.func54 (c := codeOf Tryd.f54) rfl Tryd.call54 (by decide)
    ((.seq .leaf (.seq (.seq .leaf (.block (.join impl_IsAboutStream_j1_p (fun v => impl_IsAboutStream_j1 v.1) .leaf .leaf))) .leaf))) ?_ ?_
  · exact ⟨conds_leaf _ _, ⟨⟨conds_leaf _ _, ⟨conds_leaf _ _, (fun v => by kernel_rfl), conds_leaf _ _⟩⟩, conds_leaf _ _⟩⟩
  · intro xs r h
    refine Eq.trans (Eq.symm ?_) h
    kernel_rfl
@[reducible] noncomputable def e_impl_used : FnE := { f := 74, args := [tyFrame], res := [tyFrame], F := fun xs => impl_used xs.1 }
theorem ok_impl_used : FnOK Tryd.prog glob e_impl_used := by
  refine FnOK.of (e := e_impl_used) (C := cfg [] [e_impl_IsAboutStream] [] [] []) (cfg_ok rfl (env_cons ok_impl_IsAboutStream env_nil) envL_nil envB_nil envW_nil) rfl Tryd.func74 (c := codeOf Tryd.f74) rfl Tryd.call74 (by decide)
    ((.seq .leaf (.seq .leaf (.join impl_used_j1_p (fun v => impl_used_j1 v.1 v.2.1 v.2.2.1) .leaf (.seq (.seq .leaf (.block (.seq .leaf (.cond .leaf (.seq .leaf (.cond .leaf (.seq .leaf (.cond .leaf (.join impl_used_j2_p (fun v => impl_used_j2 v.1 v.2.1 v.2.2.1 v.2.2.2.1) .leaf .leaf))))))))) .leaf))))) ?_ ?_
  · exact ⟨conds_leaf _ _, ⟨conds_leaf _ _, ⟨conds_leaf _ _, (fun v => by kernel_rfl), ⟨⟨conds_leaf _ _, ⟨conds_leaf _ _, ⟨conds_leaf _ _, ⟨conds_leaf _ _, ⟨conds_leaf _ _, ⟨conds_leaf _ _, ⟨conds_leaf _ _, ⟨conds_leaf _ _, (fun v => by kernel_rfl), conds_leaf _ _⟩⟩⟩⟩⟩⟩⟩⟩, conds_leaf _ _⟩⟩⟩⟩
  · intro xs r h
    refine Eq.trans (Eq.symm ?_) h
    kernel_rfl
@[reducible] noncomputable def e_impl_isQuic : FnE := { f := 75, args := [.int .i64], res := [.bool], F := fun xs => impl_isQuic xs.1 }
theorem ok_impl_isQuic : FnOK Tryd.prog glob e_impl_isQuic := by
  refine FnOK.of (e := e_impl_isQuic) (C := cfg [] [e_impl_within] [] [] []) (cfg_ok rfl (env_cons ok_impl_within env_nil) envL_nil envB_nil envW_nil) rfl Tryd.func75 (c := codeOf Tryd.f75) rfl Tryd.call75 (by decide)
    (.leaf) ?_ ?_
  · exact conds_leaf _ _
  · intro xs r h
    refine Eq.trans (Eq.symm ?_) h
    kernel_rfl
@[reducible] noncomputable def e_impl_IsFrame : FnE := { f := 52, args := [tyFrame], res := [.bool], F := fun xs => impl_IsFrame xs.1 }
theorem ok_impl_IsFrame : FnOK Tryd.prog glob e_impl_IsFrame := by
  refine FnOK.of (e := e_impl_IsFrame) (C := cfg [] [e_impl_KindName, e_impl_used, e_impl_isQuic] [] [] []) (cfg_ok rfl (env_cons ok_impl_KindName (env_cons ok_impl_used (env_cons ok_impl_isQuic env_nil))) envL_nil envB_nil envW_nil) rfl Tryd.func52 (c := codeOf Tryd.f52) rfl Tryd.call52 (by decide)
    (.leaf) ?_ ?_
  · exact conds_leaf _ _
  · intro xs r h
    refine Eq.trans (Eq.symm ?_) h
    kernel_rfl
@[reducible] noncomputable def e_impl_isSmall : FnE := { f := 53, args := [tyFrame], res := [.bool], F := fun xs => impl_isSmall xs.1 }
theorem ok_impl_isSmall : FnOK Tryd.prog glob e_impl_isSmall := by
  refine FnOK.of (e := e_impl_isSmall) (C := cfg [] [] [] [] []) (cfg_ok rfl env_nil envL_nil envB_nil envW_nil) rfl Tryd.func53 (c := codeOf Tryd.f53) rfl Tryd.call53 (by decide)
    (.leaf) ?_ ?_
  · exact conds_leaf _ _
  · intro xs r h
    refine Eq.trans (Eq.symm ?_) h
    kernel_rfl
@[reducible] noncomputable def e_impl_FormatInt : FnE := { f := 55, args := [.int .i64], res := [.str], F := fun xs => impl_FormatInt xs.1 }
theorem ok_impl_FormatInt : FnOK Tryd.prog glob e_impl_FormatInt := by
  refine FnOK.of (e := e_impl_FormatInt) (C := cfg [] [e_strconv_Itoa] [] [] []) (cfg_ok rfl (env_cons ok_strconv_Itoa env_nil) envL_nil envB_nil envW_nil) rfl Tryd.func55 (c := codeOf Tryd.f55) rfl Tryd.call55 (by decide)
    (.leaf) ?_ ?_
  · exact conds_leaf _ _
  · intro xs r h
    refine Eq.trans (Eq.symm ?_) h
    kernel_rfl
@[reducible] noncomputable def e_impl_EncodeHex : FnE := { f := 56, args := [.str], res := [.str], F := fun xs => impl_EncodeHex xs.1 }
theorem ok_impl_EncodeHex : FnOK Tryd.prog glob e_impl_EncodeHex := by
  refine FnOK.of (e := e_impl_EncodeHex) (C := cfg [] [] [] [] []) (cfg_ok rfl env_nil envL_nil envB_nil envW_nil) rfl Tryd.func56 (c := codeOf Tryd.f56) rfl Tryd.call56 (by decide)
    ((.seq .leaf (.seq .leaf (.seq (.seq .leaf (.block (.loop impl_EncodeHex_l1_p (fun N v => impl_EncodeHex_l1 N v.1 v.2.1 v.2.2.1) (fun v => impl_EncodeHex_l1_fuel v.1 v.2.1 v.2.2.1) (fun K1 => .leaf)))) .leaf)))) ?_ ?_
  · exact ⟨conds_leaf _ _, ⟨conds_leaf _ _, ⟨⟨conds_leaf _ _, ⟨fun _ => rfl, fun N => ⟨(fun v => by kernel_rfl), conds_leaf _ _⟩⟩⟩, conds_leaf _ _⟩⟩⟩
  · intro xs r h
    refine Eq.trans (Eq.symm ?_) h
    kernel_rfl
@[reducible] noncomputable def e_impl_told : FnE := { f := 57, args := [.bool, .str, .str], res := [.str], F := fun xs => impl_told xs.1 xs.2.1 xs.2.2.1 }
theorem ok_impl_told : FnOK Tryd.prog glob e_impl_told := by
  refine FnOK.of (e := e_impl_told) (C := cfg [] [] [] [] []) (cfg_ok rfl env_nil envL_nil envB_nil envW_nil) rfl Tryd.func57 (c := codeOf Tryd.f57) rfl Tryd.call57 (by decide)
    (.leaf) ?_ ?_
  · exact conds_leaf _ _
  · intro xs r h
    refine Eq.trans (Eq.symm ?_) h
    kernel_rfl
@[reducible] noncomputable def e_strings_Join : FnE := { f := 58, args := [.slice 9 (.str), .str], res := [.str], F := fun xs => strings_Join xs.1 xs.2.1 }
theorem ok_strings_Join : FnOK Tryd.prog glob e_strings_Join :=
  FnOK.join Tryd.call58 (fun _ => rfl) (fun a c sep w => Tryd.strings_Join_none a c sep w) (fun bk o c xs sep w h1 h2 h3 h4 h5 => Tryd.strings_Join bk o c xs sep w h1 h2 h3 h4 h5)
@[reducible] noncomputable def e_impl_FormatFrame : FnE := { f := 28, args := [tyFrame], res := [.str], F := fun xs => impl_FormatFrame xs.1 }
theorem ok_impl_FormatFrame : FnOK Tryd.prog glob e_impl_FormatFrame := by
  refine FnOK.of (e := e_impl_FormatFrame) (C := cfg [] [e_impl_IsFrame, e_impl_isSmall, e_impl_KindName, e_impl_IsAboutStream, e_impl_FormatInt, e_impl_EncodeHex, e_impl_told, e_strings_Join] [] [] []) (cfg_ok rfl (env_cons ok_impl_IsFrame (env_cons ok_impl_isSmall (env_cons ok_impl_KindName (env_cons ok_impl_IsAboutStream (env_cons ok_impl_FormatInt (env_cons ok_impl_EncodeHex (env_cons ok_impl_told (env_cons ok_strings_Join env_nil)))))))) envL_nil envB_nil envW_nil) rfl Tryd.func28 (c := codeOf Tryd.f28) rfl Tryd.call28 (by decide)
    ((.seq .leaf (.seq .leaf (.seq .leaf (.join impl_FormatFrame_j1_p (fun v => impl_FormatFrame_j1 v.1 v.2.1) .leaf (.join impl_FormatFrame_j2_p (fun v => impl_FormatFrame_j2 v.1 v.2.1) .leaf (.join impl_FormatFrame_j3_p (fun v => impl_FormatFrame_j3 v.1) .leaf .leaf))))))) ?_ ?_
  · exact ⟨conds_leaf _ _, ⟨conds_leaf _ _, ⟨conds_leaf _ _, ⟨conds_leaf _ _, (fun v => by kernel_rfl), ⟨conds_leaf _ _, (fun v => by kernel_rfl), ⟨conds_leaf _ _, (fun v => by kernel_rfl), conds_leaf _ _⟩⟩⟩⟩⟩⟩
  · intro xs r h
    refine Eq.trans (Eq.symm ?_) h
    kernel_rfl
@[reducible] noncomputable def e_impl_ParseFrame : FnE := { f := 11, args := [.str], res := [tyFrame, .bool], F := fun xs => impl_ParseFrame xs.1 }
theorem ok_impl_ParseFrame : FnOK Tryd.prog glob e_impl_ParseFrame := by
  refine FnOK.of (e := e_impl_ParseFrame) (C := cfg [] [e_strings_Split, e_impl_kindOf, e_impl_ParseInt, e_strings_TrimPrefix, e_impl_DecodeHex, e_impl_FormatFrame] [] [] []) (cfg_ok rfl (env_cons ok_strings_Split (env_cons ok_impl_kindOf (env_cons ok_impl_ParseInt (env_cons ok_strings_TrimPrefix (env_cons ok_impl_DecodeHex (env_cons ok_impl_FormatFrame env_nil)))))) envL_nil envB_nil envW_nil) rfl Tryd.func11 (c := codeOf Tryd.f11) rfl Tryd.call11 (by decide)
    ((.seq .leaf (.seq .leaf (.seq .leaf (.seq .leaf (.seq .leaf (.seq .leaf (.seq (.seq .leaf (.block (.unroll [0, 2, 5, 7, 47, 48, 49, 77, 78, 79, 98, 99, 100, 103, 104, 105, 108, 109, 110, 111, 117, 118, 119, 120] 4 (fun _ => .leaf)))) (.join impl_ParseFrame_j1_p (fun v => impl_ParseFrame_j1 v.1 v.2.1 v.2.2.1 v.2.2.2.1) .leaf .leaf))))))))) ?_ ?_
  · exact ⟨conds_leaf _ _, ⟨conds_leaf _ _, ⟨conds_leaf _ _, ⟨conds_leaf _ _, ⟨conds_leaf _ _, ⟨conds_leaf _ _, ⟨⟨conds_leaf _ _, (fun i _ => conds_leaf _ _)⟩, ⟨conds_leaf _ _, (fun v => by kernel_rfl), conds_leaf _ _⟩⟩⟩⟩⟩⟩⟩⟩
  · intro xs r h
    refine Eq.trans (Eq.symm ?_) h
    kernel_rfl
@[reducible] noncomputable def e_laws_eqFrame : FnE := { f := 12, args := [tyFrame, tyFrame], res := [.bool], F := fun xs => laws_eqFrame xs.1 xs.2.1 }
theorem ok_laws_eqFrame : FnOK Tryd.prog glob e_laws_eqFrame := by
  refine FnOK.of (e := e_laws_eqFrame) (C := cfg [] [] [] [] []) (cfg_ok rfl env_nil envL_nil envB_nil envW_nil) rfl Tryd.func12 (c := codeOf Tryd.f12) rfl Tryd.call12 (by decide)
    (.leaf) ?_ ?_
  · exact conds_leaf _ _
  · intro xs r h
    refine Eq.trans (Eq.symm ?_) h
    kernel_rfl
@[reducible] noncomputable def e_laws_FnExactParseFrame : FnE := { f := 4, args := [.str], res := [.bool], F := fun xs => laws_FnExactParseFrame xs.1 }
theorem ok_laws_FnExactParseFrame : FnOK Tryd.prog glob e_laws_FnExactParseFrame := by
  refine FnOK.of (e := e_laws_FnExactParseFrame) (C := cfg [] [e_spec_ParseFrame, e_impl_ParseFrame, e_laws_eqFrame] [] [] []) (cfg_ok rfl (env_cons ok_spec_ParseFrame (env_cons ok_impl_ParseFrame (env_cons ok_laws_eqFrame env_nil))) envL_nil envB_nil envW_nil) rfl Tryd.func4 (c := codeOf Tryd.f4) rfl Tryd.call4 (by decide)
    (.leaf) ?_ ?_
  · exact conds_leaf _ _
  · intro xs r h
    refine Eq.trans (Eq.symm ?_) h
    kernel_rfl
end Go.Proofs.YtbcdobkgmgngmaaDoor

/- FnExactFormatFrames: what the functions that it reaches compute, as plain functions, and that they do so. No condition. -/
import Derived.Test.YtifcipnimblkpabDoorRows
import Derived.Test.YtifcipnimblkpabDoorAm4
import Derived.Test.YtifcipnimblkpabDoorShelf
import Derived.Lib.AppendIntMem
namespace Go.Proofs.YtifcipnimblkpabDoor
open Go.Am
set_option maxRecDepth 100000
set_option linter.unusedVariables false

@[reducible] def tyFrame : Ty := .pair (.int .i64) (.pair (.int .i64) (.pair (.int .i64) (.pair (.str) (.pair (.bool) (.pair (.int .i64) (.pair (.int .i64) (.pair (.int .i64) (.pair (.bool) (.unit)))))))))
@[reducible] def TFrame : Type := Int × Int × Int × List UInt8 × Bool × Int × Int × Int × Bool × Unit
def zFrame : TFrame := ((0 : Int), ((0 : Int), ((0 : Int), (([] : List UInt8), (false, ((0 : Int), ((0 : Int), ((0 : Int), (false, ())))))))))
noncomputable def laws_szFrame (a0 : TFrame) (left1 : Int) : Option (Int × Unit) :=
  let t9 : Int := IntKind.i64.wrap (left1 - (a0.2.2.2.1.length : Int))
  bif decide (t9 < (0 : Int)) then
    some ((-1 : Int), ())
  else
    some (t9, ())
@[reducible] def laws_szFrameS_l1_p : List PE := [.val 0 (.slice 44 (tyFrame)) (.u false), .val 1 (.int .i64) (.u false), .val 5 (.int .i64) (.u false)]
def laws_szFrameS_l1_fuel (a0_1 : List TFrame) (left1_1 : Int) (i5 : Int) : Nat := ((a0_1.length : Int) - i5).toNat + 1
noncomputable def laws_szFrameS_l1 : Nat → List TFrame → Int → Int → Option (Int × Unit)
  | 0, _, _, _ => none
  | N + 1, a0_1, left1_1, i5 =>
    bif decide (i5 < (a0_1.length : Int)) then
      guardP (0 ≤ i5 ∧ i5 < a0_1.length) <|
      Option.bind (laws_szFrame (a0_1.getD i5.toNat zFrame) left1_1) fun t23 =>
      bif decide (t23.1 < (0 : Int)) then
        some ((-1 : Int), ())
      else
        laws_szFrameS_l1 N a0_1 t23.1 (IntKind.i64.wrap (i5 + (1 : Int)))
    else
      some (left1_1, ())
noncomputable def laws_szFrameS (a0 : List TFrame) (left1 : Int) : Option (Int × Unit) :=
  let t9 : Int := IntKind.i64.wrap (left1 - (a0.length : Int))
  bif decide (t9 < (0 : Int)) then
    some ((-1 : Int), ())
  else
    laws_szFrameS_l1 (laws_szFrameS_l1_fuel a0 t9 (0 : Int)) a0 t9 (0 : Int)
noncomputable def laws_toFrame (a0 : TFrame) : Option (TFrame × Unit) :=
  some ((a0.1, (a0.2.1, (a0.2.2.1, (a0.2.2.2.1, (a0.2.2.2.2.1, (a0.2.2.2.2.2.1, (a0.2.2.2.2.2.2.1, (a0.2.2.2.2.2.2.2.1, (a0.2.2.2.2.2.2.2.2.1, ()))))))))), ())
@[reducible] def laws_toFrameS_l1_p : List PE := [.val 0 (.slice 44 (tyFrame)) (.u false), .val 3 (.slice 47 (tyFrame)) (.u true), .val 4 (.int .i64) (.u false)]
def laws_toFrameS_l1_fuel (a0_1 : List TFrame) (out3 : List TFrame) (i4 : Int) : Nat := ((a0_1.length : Int) - i4).toNat + 1
noncomputable def laws_toFrameS_l1 : Nat → List TFrame → List TFrame → Int → Option (List TFrame × Unit)
  | 0, _, _, _ => none
  | N + 1, a0_1, out3, i4 =>
    bif decide (i4 < (a0_1.length : Int)) then
      guardP (0 ≤ i4 ∧ i4 < a0_1.length) <|
      Option.bind (laws_toFrame (a0_1.getD i4.toNat zFrame)) fun t20 =>
      guardP (0 ≤ i4 ∧ i4 < out3.length) <|
      laws_toFrameS_l1 N a0_1 (out3.set i4.toNat t20.1) (IntKind.i64.wrap (i4 + (1 : Int)))
    else
      some (out3, ())
noncomputable def laws_toFrameS (a0 : List TFrame) : Option (List TFrame × Unit) :=
  guardP (0 ≤ (a0.length : Int) ∧ (a0.length : Int) ≤ (a0.length : Int) ∧ (a0.length : Int) ≤ capN) <|
  let t7 : List TFrame := List.replicate (a0.length : Int).toNat zFrame
  laws_toFrameS_l1 (laws_toFrameS_l1_fuel a0 t7 (0 : Int)) a0 t7 (0 : Int)
noncomputable def spec_KindName (kind0 : Int) : Option (List UInt8 × Unit) :=
  bif kind0 == (4 : Int) then
    some (([114, 101, 115, 101, 116] : List UInt8), ())
  else
    bif kind0 == (5 : Int) then
      some (([115, 116, 111, 112] : List UInt8), ())
    else
      bif kind0 == (8 : Int) then
        some (([115, 116, 114, 101, 97, 109] : List UInt8), ())
      else
        bif kind0 == (16 : Int) then
          some (([109, 97, 120, 100, 97, 116, 97] : List UInt8), ())
        else
          bif kind0 == (17 : Int) then
            some (([109, 97, 120, 115, 116, 114, 101, 97, 109, 100, 97, 116, 97] : List UInt8), ())
          else
            bif kind0 == (18 : Int) then
              some (([109, 97, 120, 115, 116, 114, 101, 97, 109, 115] : List UInt8), ())
            else
              bif kind0 == (20 : Int) then
                some (([100, 97, 116, 97, 98, 108, 111, 99, 107, 101, 100] : List UInt8), ())
              else
                bif kind0 == (21 : Int) then
                  some (([115, 116, 114, 101, 97, 109, 100, 97, 116, 97, 98, 108, 111, 99, 107, 101, 100] : List UInt8), ())
                else
                  bif kind0 == (22 : Int) then
                    some (([115, 116, 114, 101, 97, 109, 115, 98, 108, 111, 99, 107, 101, 100] : List UInt8), ())
                  else
                    some (([] : List UInt8), ())
@[reducible] def spec_IsAboutStream_j1_p : List PE := [.val 5 (.bool) (.u false)]
noncomputable def spec_IsAboutStream_j1 (t5 : Bool) : Option (Bool × Unit) :=
  bif t5 then
    some (true, ())
  else
    some (false, ())
noncomputable def spec_IsAboutStream (f0 : TFrame) : Option (Bool × Unit) :=
  bif f0.1 == (4 : Int) then
    spec_IsAboutStream_j1 (f0.1 == (4 : Int))
  else
    bif f0.1 == (5 : Int) then
      spec_IsAboutStream_j1 (f0.1 == (5 : Int))
    else
      bif f0.1 == (8 : Int) then
        spec_IsAboutStream_j1 (f0.1 == (8 : Int))
      else
        bif f0.1 == (17 : Int) then
          spec_IsAboutStream_j1 (f0.1 == (17 : Int))
        else
          spec_IsAboutStream_j1 (f0.1 == (21 : Int))
@[reducible] def spec_l4Used_j2_p : List PE := [.box 1 47 (tyFrame) (.u false), .box 2 47 (tyFrame) (.u false), .box 3 47 (tyFrame) (.u false), .val 41 (.bool) (.u false)]
noncomputable def spec_l4Used_j2 (f1_1 : TFrame) (t2_1 : TFrame) (x3_1 : TFrame) (t41 : Bool) : Option (TFrame × Unit) :=
  bif t41 then
    some ((x3_1.1, (x3_1.2.1, (x3_1.2.2.1, (x3_1.2.2.2.1, (x3_1.2.2.2.2.1, (x3_1.2.2.2.2.2.1, (f1_1.2.2.2.2.2.2.1, (x3_1.2.2.2.2.2.2.2.1, (f1_1.2.2.2.2.2.2.2.2.1, x3_1.2.2.2.2.2.2.2.2.2))))))))), ())
  else
    some ((x3_1.1, (x3_1.2.1, (x3_1.2.2.1, (x3_1.2.2.2.1, (x3_1.2.2.2.2.1, (x3_1.2.2.2.2.2.1, (f1_1.2.2.2.2.2.2.1, x3_1.2.2.2.2.2.2.2))))))), ())
@[reducible] def spec_l4Used_j1_p : List PE := [.box 1 47 (tyFrame) (.u false), .box 2 47 (tyFrame) (.u false), .box 3 47 (tyFrame) (.u false)]
noncomputable def spec_l4Used_j1 (f1 : TFrame) (t2 : TFrame) (x3 : TFrame) : Option (TFrame × Unit) :=
  bif f1.1 == (4 : Int) then
    some ((x3.1, (x3.2.1, (x3.2.2.1, (x3.2.2.2.1, (x3.2.2.2.2.1, (f1.2.2.2.2.2.1, (x3.2.2.2.2.2.2.1, (f1.2.2.2.2.2.2.2.1, x3.2.2.2.2.2.2.2.2)))))))), ())
  else
    bif f1.1 == (5 : Int) then
      some ((x3.1, (x3.2.1, (x3.2.2.1, (x3.2.2.2.1, (x3.2.2.2.2.1, (f1.2.2.2.2.2.1, x3.2.2.2.2.2.2)))))), ())
    else
      bif f1.1 == (8 : Int) then
        some ((x3.1, (x3.2.1, (f1.2.2.1, (f1.2.2.2.1, (f1.2.2.2.2.1, x3.2.2.2.2.2))))), ())
      else
        bif f1.1 == (18 : Int) then
          spec_l4Used_j2 f1 t2 x3 (f1.1 == (18 : Int))
        else
          spec_l4Used_j2 f1 t2 x3 (f1.1 == (22 : Int))
noncomputable def spec_l4Used (f0 : TFrame) : Option (TFrame × Unit) :=
  Option.bind (spec_IsAboutStream f0) fun t8 =>
  bif t8.1 then
    spec_l4Used_j1 f0 ((0 : Int), ((0 : Int), ((0 : Int), (([] : List UInt8), (false, ((0 : Int), ((0 : Int), ((0 : Int), (false, ()))))))))) (f0.1, (f0.2.1, ((0 : Int), (([] : List UInt8), (false, ((0 : Int), ((0 : Int), ((0 : Int), (false, ())))))))))
  else
    spec_l4Used_j1 f0 ((0 : Int), ((0 : Int), ((0 : Int), (([] : List UInt8), (false, ((0 : Int), ((0 : Int), ((0 : Int), (false, ()))))))))) (f0.1, ((0 : Int), ((0 : Int), (([] : List UInt8), (false, ((0 : Int), ((0 : Int), ((0 : Int), (false, ())))))))))
noncomputable def spec_l1In (x0 : Int) (low1 : Int) (high2 : Int) : Option (Bool × Unit) :=
  some ((decide (x0 ≥ low1)) && (decide (x0 ≤ high2)), ())
noncomputable def spec_l4Quic (n0 : Int) : Option (Bool × Unit) :=
  Option.bind (spec_l1In n0 (0 : Int) (4611686018427387903 : Int)) fun t4 =>
  some (t4.1, ())
@[reducible] def spec_IsFrame_j1_p : List PE := [.box 1 47 (tyFrame) (.u false), .val 60 (.bool) (.u false)]
noncomputable def spec_IsFrame_j1 (f1 : TFrame) (t60 : Bool) : Option (Bool × Unit) :=
  bif t60 then
    some (decide (f1.2.2.2.2.2.2.1 ≤ (1152921504606846976 : Int)), ())
  else
    some (true, ())
noncomputable def spec_IsFrame (f0 : TFrame) : Option (Bool × Unit) :=
  Option.bind (spec_KindName f0.1) fun t5 =>
  Option.bind (bif (t5.1 == ([] : List UInt8)) then some (((0 : Int), ((0 : Int), ((0 : Int), (([] : List UInt8), (false, ((0 : Int), ((0 : Int), ((0 : Int), (false, ()))))))))), ()) else (spec_l4Used f0)) fun t9 =>
  let t12 : Bool := (t5.1 == ([] : List UInt8)) || (!(eqV (tyFrame) t9.1 f0))
  Option.bind (bif t12 then some (false, ()) else (spec_l4Quic f0.2.1)) fun t16 =>
  Option.bind (bif (t12 || (!t16.1)) then some (false, ()) else (spec_l4Quic f0.2.2.1)) fun t22 =>
  let t24 : Bool := (t12 || (!t16.1)) || (!t22.1)
  Option.bind (bif t24 then some (false, ()) else (spec_l4Quic f0.2.2.2.2.2.1)) fun t28 =>
  Option.bind (bif (t24 || (!t28.1)) then some (false, ()) else (spec_l4Quic f0.2.2.2.2.2.2.1)) fun t34 =>
  let t36 : Bool := (t24 || (!t28.1)) || (!t34.1)
  Option.bind (bif t36 then some (false, ()) else (spec_l4Quic f0.2.2.2.2.2.2.2.1)) fun t40 =>
  bif (t36 || (!t40.1)) || (decide ((f0.2.2.2.1.length : Int) > (400 : Int))) then
    some (false, ())
  else
    bif f0.1 == (8 : Int) then
      some (decide (f0.2.2.1 ≤ (IntKind.i64.wrap ((4611686018427387903 : Int) - (f0.2.2.2.1.length : Int)))), ())
    else
      bif f0.1 == (18 : Int) then
        spec_IsFrame_j1 f0 (f0.1 == (18 : Int))
      else
        spec_IsFrame_j1 f0 (f0.1 == (22 : Int))
noncomputable def spec_l32Small (n0 : Int) : Option (Bool × Unit) :=
  Option.bind (spec_l1In n0 (0 : Int) (999999999 : Int)) fun t4 =>
  some (t4.1, ())
@[reducible] def spec_FormatInt_j1_p : List PE := [.val 0 (.int .i64) (.u false), .val 3 (.str) (.u false), .val 4 (.bool) (.u false), .val 5 (.int .i64) (.u false)]
noncomputable def spec_FormatInt_j1 (K1 : (Int × List UInt8 × Bool × Unit) → Option (List UInt8 × Unit)) (n0_2 : Int) (out3_2 : List UInt8) (neg4_1 : Bool) (d5 : Int) : Option (List UInt8 × Unit) :=
  let t22 : List UInt8 := bytesOf ([(IntKind.u8.wrap (IntKind.i64.wrap ((48 : Int) + d5)))])
  guardP (t22.length + out3_2.length ≤ capS) <|
  guardP ((10 : Int) ≠ 0) <|
  K1 (IntKind.i64.wrap (Int.tdiv n0_2 (10 : Int)), t22 ++ out3_2, neg4_1, ())
@[reducible] def spec_FormatInt_l1_p : List PE := [.val 0 (.int .i64) (.u false), .val 3 (.str) (.u false), .val 4 (.bool) (.u false)]
def spec_FormatInt_l1_fuel (n0_1 : Int) (out3_1 : List UInt8) (neg4 : Bool) : Nat := 1048577
noncomputable def spec_FormatInt_l1 : Nat → Int → List UInt8 → Bool → Option (List UInt8 × Unit)
  | 0, _, _, _ => none
  | N + 1, n0_1, out3_1, neg4 =>
    bif n0_1 != (0 : Int) then
      guardP ((10 : Int) ≠ 0) <|
      bif decide ((Int.tmod n0_1 (10 : Int)) < (0 : Int)) then
        spec_FormatInt_j1 (fun v => spec_FormatInt_l1 N v.1 v.2.1 v.2.2.1) n0_1 out3_1 neg4 (IntKind.i64.wrap (0 - (Int.tmod n0_1 (10 : Int))))
      else
        spec_FormatInt_j1 (fun v => spec_FormatInt_l1 N v.1 v.2.1 v.2.2.1) n0_1 out3_1 neg4 (Int.tmod n0_1 (10 : Int))
    else
      bif neg4 then
        guardP (([45] : List UInt8).length + out3_1.length ≤ capS) <|
        some (([45] : List UInt8) ++ out3_1, ())
      else
        some (out3_1, ())
noncomputable def spec_FormatInt (n0 : Int) : Option (List UInt8 × Unit) :=
  bif n0 == (0 : Int) then
    some (([48] : List UInt8), ())
  else
    spec_FormatInt_l1 (spec_FormatInt_l1_fuel n0 ([] : List UInt8) (decide (n0 < (0 : Int)))) n0 ([] : List UInt8) (decide (n0 < (0 : Int)))
noncomputable def spec_l1Digit (k0 : Int) : Option (Int × Unit) :=
  guardP (0 ≤ k0 ∧ k0 < ([48, 49, 50, 51, 52, 53, 54, 55, 56, 57, 97, 98, 99, 100, 101, 102] : List UInt8).length) <|
  some (((([48, 49, 50, 51, 52, 53, 54, 55, 56, 57, 97, 98, 99, 100, 101, 102] : List UInt8).getD k0.toNat 0).toNat : Int), ())
@[reducible] def spec_EncodeHex_l1_p : List PE := [.val 0 (.str) (.u false), .val 3 (.slice 5 (.int .u8)) (.u true), .val 4 (.int .i64) (.u false)]
def spec_EncodeHex_l1_fuel (s0_1 : List UInt8) (out3 : List Int) (i4 : Int) : Nat := ((s0_1.length : Int) - i4).toNat + 1
noncomputable def spec_EncodeHex_l1 : Nat → List UInt8 → List Int → Int → Option (List UInt8 × Unit)
  | 0, _, _, _ => none
  | N + 1, s0_1, out3, i4 =>
    bif decide (i4 < (s0_1.length : Int)) then
      guardP (0 ≤ i4 ∧ i4 < s0_1.length) <|
      guardP ((16 : Int) ≠ 0) <|
      guardP (0 ≤ i4 ∧ i4 < s0_1.length) <|
      guardP ((16 : Int) ≠ 0) <|
      Option.bind (spec_l1Digit (IntKind.i64.wrap (Int.tdiv (IntKind.i64.wrap ((s0_1.getD i4.toNat 0).toNat : Int)) (16 : Int)))) fun t18 =>
      Option.bind (spec_l1Digit (Int.tmod (IntKind.i64.wrap ((s0_1.getD i4.toNat 0).toNat : Int)) (16 : Int))) fun t24 =>
      guardP (out3.length + ([t18.1, t24.1]).length ≤ capN) <|
      spec_EncodeHex_l1 N s0_1 (out3 ++ ([t18.1, t24.1])) (IntKind.i64.wrap (i4 + (1 : Int)))
    else
      some (bytesOf out3, ())
noncomputable def spec_EncodeHex (s0 : List UInt8) : Option (List UInt8 × Unit) :=
  spec_EncodeHex_l1 (spec_EncodeHex_l1_fuel s0 ([] : List Int) (0 : Int)) s0 ([] : List Int) (0 : Int)
noncomputable def spec_l32Fin (is0 : Bool) : Option (List UInt8 × Unit) :=
  bif is0 then
    some (([32, 102, 105, 110] : List UInt8), ())
  else
    some (([] : List UInt8), ())
noncomputable def spec_l32Uni (is0 : Bool) : Option (List UInt8 × Unit) :=
  bif is0 then
    some (([32, 117, 110, 105] : List UInt8), ())
  else
    some (([32, 98, 105, 100, 105] : List UInt8), ())
@[reducible] def spec_FormatFrame_j2_p : List PE := [.box 1 47 (tyFrame) (.u false), .val 3 (.str) (.u false), .val 109 (.bool) (.u false)]
noncomputable def spec_FormatFrame_j2 (f1_1 : TFrame) (s3_1 : List UInt8) (t109 : Bool) : Option (List UInt8 × Unit) :=
  bif t109 then
    guardP (s3_1.length + ([32] : List UInt8).length ≤ capS) <|
    Option.bind (spec_FormatInt f1_1.2.2.2.2.2.2.1) fun t116 =>
    guardP ((s3_1 ++ ([32] : List UInt8)).length + t116.1.length ≤ capS) <|
    Option.bind (spec_l32Uni f1_1.2.2.2.2.2.2.2.2.1) fun t120 =>
    guardP (((s3_1 ++ ([32] : List UInt8)) ++ t116.1).length + t120.1.length ≤ capS) <|
    some (((s3_1 ++ ([32] : List UInt8)) ++ t116.1) ++ t120.1, ())
  else
    guardP (s3_1.length + ([32] : List UInt8).length ≤ capS) <|
    Option.bind (spec_FormatInt f1_1.2.2.2.2.2.2.1) fun t126 =>
    guardP ((s3_1 ++ ([32] : List UInt8)).length + t126.1.length ≤ capS) <|
    some ((s3_1 ++ ([32] : List UInt8)) ++ t126.1, ())
@[reducible] def spec_FormatFrame_j1_p : List PE := [.box 1 47 (tyFrame) (.u false), .val 3 (.str) (.u false), .val 41 (.int .i64) (.u false), .val 95 (.bool) (.u false)]
noncomputable def spec_FormatFrame_j1 (f1 : TFrame) (s3 : List UInt8) (t41 : Int) (t95 : Bool) : Option (List UInt8 × Unit) :=
  bif t95 then
    guardP (s3.length + ([32] : List UInt8).length ≤ capS) <|
    Option.bind (spec_FormatInt f1.2.1) fun t102 =>
    guardP ((s3 ++ ([32] : List UInt8)).length + t102.1.length ≤ capS) <|
    guardP (((s3 ++ ([32] : List UInt8)) ++ t102.1).length + ([32] : List UInt8).length ≤ capS) <|
    let t104 : List UInt8 := ((s3 ++ ([32] : List UInt8)) ++ t102.1) ++ ([32] : List UInt8)
    Option.bind (spec_FormatInt f1.2.2.2.2.2.2.1) fun t107 =>
    guardP (t104.length + t107.1.length ≤ capS) <|
    some (t104 ++ t107.1, ())
  else
    bif t41 == (18 : Int) then
      spec_FormatFrame_j2 f1 s3 (t41 == (18 : Int))
    else
      spec_FormatFrame_j2 f1 s3 (t41 == (22 : Int))
noncomputable def spec_FormatFrame (f0 : TFrame) : Option (List UInt8 × Unit) :=
  Option.bind (spec_IsFrame f0) fun t5 =>
  Option.bind (bif (!t5.1) then some (false, ()) else (spec_l32Small f0.2.1)) fun t10 =>
  Option.bind (bif ((!t5.1) || (!t10.1)) then some (false, ()) else (spec_l32Small f0.2.2.1)) fun t16 =>
  let t18 : Bool := ((!t5.1) || (!t10.1)) || (!t16.1)
  Option.bind (bif t18 then some (false, ()) else (spec_l32Small f0.2.2.2.2.2.1)) fun t22 =>
  Option.bind (bif (t18 || (!t22.1)) then some (false, ()) else (spec_l32Small f0.2.2.2.2.2.2.1)) fun t28 =>
  let t30 : Bool := (t18 || (!t22.1)) || (!t28.1)
  Option.bind (bif t30 then some (false, ()) else (spec_l32Small f0.2.2.2.2.2.2.2.1)) fun t34 =>
  bif t30 || (!t34.1) then
    some (([] : List UInt8), ())
  else
    Option.bind (spec_KindName f0.1) fun t39 =>
    bif f0.1 == (4 : Int) then
      guardP (t39.1.length + ([32] : List UInt8).length ≤ capS) <|
      Option.bind (spec_FormatInt f0.2.1) fun t48 =>
      guardP ((t39.1 ++ ([32] : List UInt8)).length + t48.1.length ≤ capS) <|
      guardP (((t39.1 ++ ([32] : List UInt8)) ++ t48.1).length + ([32] : List UInt8).length ≤ capS) <|
      let t50 : List UInt8 := ((t39.1 ++ ([32] : List UInt8)) ++ t48.1) ++ ([32] : List UInt8)
      Option.bind (spec_FormatInt f0.2.2.2.2.2.1) fun t53 =>
      guardP (t50.length + t53.1.length ≤ capS) <|
      guardP ((t50 ++ t53.1).length + ([32] : List UInt8).length ≤ capS) <|
      Option.bind (spec_FormatInt f0.2.2.2.2.2.2.2.1) fun t58 =>
      guardP (((t50 ++ t53.1) ++ ([32] : List UInt8)).length + t58.1.length ≤ capS) <|
      some (((t50 ++ t53.1) ++ ([32] : List UInt8)) ++ t58.1, ())
    else
      bif f0.1 == (5 : Int) then
        guardP (t39.1.length + ([32] : List UInt8).length ≤ capS) <|
        Option.bind (spec_FormatInt f0.2.1) fun t66 =>
        guardP ((t39.1 ++ ([32] : List UInt8)).length + t66.1.length ≤ capS) <|
        guardP (((t39.1 ++ ([32] : List UInt8)) ++ t66.1).length + ([32] : List UInt8).length ≤ capS) <|
        let t68 : List UInt8 := ((t39.1 ++ ([32] : List UInt8)) ++ t66.1) ++ ([32] : List UInt8)
        Option.bind (spec_FormatInt f0.2.2.2.2.2.1) fun t71 =>
        guardP (t68.length + t71.1.length ≤ capS) <|
        some (t68 ++ t71.1, ())
      else
        bif f0.1 == (8 : Int) then
          guardP (t39.1.length + ([32] : List UInt8).length ≤ capS) <|
          Option.bind (spec_FormatInt f0.2.1) fun t79 =>
          guardP ((t39.1 ++ ([32] : List UInt8)).length + t79.1.length ≤ capS) <|
          guardP (((t39.1 ++ ([32] : List UInt8)) ++ t79.1).length + ([32] : List UInt8).length ≤ capS) <|
          let t81 : List UInt8 := ((t39.1 ++ ([32] : List UInt8)) ++ t79.1) ++ ([32] : List UInt8)
          Option.bind (spec_FormatInt f0.2.2.1) fun t84 =>
          guardP (t81.length + t84.1.length ≤ capS) <|
          guardP ((t81 ++ t84.1).length + ([32, 120] : List UInt8).length ≤ capS) <|
          let t86 : List UInt8 := (t81 ++ t84.1) ++ ([32, 120] : List UInt8)
          Option.bind (spec_EncodeHex f0.2.2.2.1) fun t89 =>
          guardP (t86.length + t89.1.length ≤ capS) <|
          Option.bind (spec_l32Fin f0.2.2.2.2.1) fun t93 =>
          guardP ((t86 ++ t89.1).length + t93.1.length ≤ capS) <|
          some ((t86 ++ t89.1) ++ t93.1, ())
        else
          bif f0.1 == (17 : Int) then
            spec_FormatFrame_j1 f0 t39.1 f0.1 (f0.1 == (17 : Int))
          else
            spec_FormatFrame_j1 f0 t39.1 f0.1 (f0.1 == (21 : Int))
@[reducible] def spec_FormatFrames_j1_p : List PE := [.val 0 (.slice 47 (tyFrame)) (.u false), .val 3 (.str) (.u false), .val 4 (.int .i64) (.u false)]
noncomputable def spec_FormatFrames_j1 (K1 : (List TFrame × List UInt8 × Int × Unit) → Option (List UInt8 × Unit)) (l0_2 : List TFrame) (s3_2 : List UInt8) (i4_1 : Int) : Option (List UInt8 × Unit) :=
  guardP (0 ≤ i4_1 ∧ i4_1 < l0_2.length) <|
  Option.bind (spec_FormatFrame (l0_2.getD i4_1.toNat zFrame)) fun t20 =>
  guardP (s3_2.length + t20.1.length ≤ capS) <|
  K1 (l0_2, s3_2 ++ t20.1, IntKind.i64.wrap (i4_1 + (1 : Int)), ())
@[reducible] def spec_FormatFrames_l1_p : List PE := [.val 0 (.slice 47 (tyFrame)) (.u false), .val 3 (.str) (.u false), .val 4 (.int .i64) (.u false)]
def spec_FormatFrames_l1_fuel (l0_1 : List TFrame) (s3_1 : List UInt8) (i4 : Int) : Nat := ((l0_1.length : Int) - i4).toNat + 1
noncomputable def spec_FormatFrames_l1 : Nat → List TFrame → List UInt8 → Int → Option (List UInt8 × Unit)
  | 0, _, _, _ => none
  | N + 1, l0_1, s3_1, i4 =>
    bif decide (i4 < (l0_1.length : Int)) then
      bif decide (i4 > (0 : Int)) then
        guardP (s3_1.length + ([59, 32] : List UInt8).length ≤ capS) <|
        spec_FormatFrames_j1 (fun v => spec_FormatFrames_l1 N v.1 v.2.1 v.2.2.1) l0_1 (s3_1 ++ ([59, 32] : List UInt8)) i4
      else
        spec_FormatFrames_j1 (fun v => spec_FormatFrames_l1 N v.1 v.2.1 v.2.2.1) l0_1 s3_1 i4
    else
      bif s3_1 == ([] : List UInt8) then
        some (([110, 111, 110, 101] : List UInt8), ())
      else
        some (s3_1, ())
noncomputable def spec_FormatFrames (l0 : List TFrame) : Option (List UInt8 × Unit) :=
  spec_FormatFrames_l1 (spec_FormatFrames_l1_fuel l0 ([] : List UInt8) (0 : Int)) l0 ([] : List UInt8) (0 : Int)
noncomputable def impl_KindName (kind0 : Int) : Option (List UInt8 × Unit) :=
  bif kind0 == (4 : Int) then
    some (([114, 101, 115, 101, 116] : List UInt8), ())
  else
    bif kind0 == (5 : Int) then
      some (([115, 116, 111, 112] : List UInt8), ())
    else
      bif kind0 == (8 : Int) then
        some (([115, 116, 114, 101, 97, 109] : List UInt8), ())
      else
        bif kind0 == (16 : Int) then
          some (([109, 97, 120, 100, 97, 116, 97] : List UInt8), ())
        else
          bif kind0 == (17 : Int) then
            some (([109, 97, 120, 115, 116, 114, 101, 97, 109, 100, 97, 116, 97] : List UInt8), ())
          else
            bif kind0 == (18 : Int) then
              some (([109, 97, 120, 115, 116, 114, 101, 97, 109, 115] : List UInt8), ())
            else
              bif kind0 == (20 : Int) then
                some (([100, 97, 116, 97, 98, 108, 111, 99, 107, 101, 100] : List UInt8), ())
              else
                bif kind0 == (21 : Int) then
                  some (([115, 116, 114, 101, 97, 109, 100, 97, 116, 97, 98, 108, 111, 99, 107, 101, 100] : List UInt8), ())
                else
                  bif kind0 == (22 : Int) then
                    some (([115, 116, 114, 101, 97, 109, 115, 98, 108, 111, 99, 107, 101, 100] : List UInt8), ())
                  else
                    some (([] : List UInt8), ())
@[reducible] def impl_IsAboutStream_j1_p : List PE := [.val 5 (.bool) (.u false)]
noncomputable def impl_IsAboutStream_j1 (t5 : Bool) : Option (Bool × Unit) :=
  bif t5 then
    some (true, ())
  else
    some (false, ())
noncomputable def impl_IsAboutStream (f0 : TFrame) : Option (Bool × Unit) :=
  bif f0.1 == (4 : Int) then
    impl_IsAboutStream_j1 (f0.1 == (4 : Int))
  else
    bif f0.1 == (5 : Int) then
      impl_IsAboutStream_j1 (f0.1 == (5 : Int))
    else
      bif f0.1 == (8 : Int) then
        impl_IsAboutStream_j1 (f0.1 == (8 : Int))
      else
        bif f0.1 == (17 : Int) then
          impl_IsAboutStream_j1 (f0.1 == (17 : Int))
        else
          impl_IsAboutStream_j1 (f0.1 == (21 : Int))
@[reducible] def impl_used_j2_p : List PE := [.box 1 47 (tyFrame) (.u false), .box 2 47 (tyFrame) (.u false), .box 3 47 (tyFrame) (.u false), .val 41 (.bool) (.u false)]
noncomputable def impl_used_j2 (f1_1 : TFrame) (t2_1 : TFrame) (out3_1 : TFrame) (t41 : Bool) : Option (TFrame × Unit) :=
  bif t41 then
    some ((out3_1.1, (out3_1.2.1, (out3_1.2.2.1, (out3_1.2.2.2.1, (out3_1.2.2.2.2.1, (out3_1.2.2.2.2.2.1, (f1_1.2.2.2.2.2.2.1, (out3_1.2.2.2.2.2.2.2.1, (f1_1.2.2.2.2.2.2.2.2.1, out3_1.2.2.2.2.2.2.2.2.2))))))))), ())
  else
    some ((out3_1.1, (out3_1.2.1, (out3_1.2.2.1, (out3_1.2.2.2.1, (out3_1.2.2.2.2.1, (out3_1.2.2.2.2.2.1, (f1_1.2.2.2.2.2.2.1, out3_1.2.2.2.2.2.2.2))))))), ())
@[reducible] def impl_used_j1_p : List PE := [.box 1 47 (tyFrame) (.u false), .box 2 47 (tyFrame) (.u false), .box 3 47 (tyFrame) (.u false)]
noncomputable def impl_used_j1 (f1 : TFrame) (t2 : TFrame) (out3 : TFrame) : Option (TFrame × Unit) :=
  bif f1.1 == (4 : Int) then
    some ((out3.1, (out3.2.1, (out3.2.2.1, (out3.2.2.2.1, (out3.2.2.2.2.1, (f1.2.2.2.2.2.1, (out3.2.2.2.2.2.2.1, (f1.2.2.2.2.2.2.2.1, out3.2.2.2.2.2.2.2.2)))))))), ())
  else
    bif f1.1 == (5 : Int) then
      some ((out3.1, (out3.2.1, (out3.2.2.1, (out3.2.2.2.1, (out3.2.2.2.2.1, (f1.2.2.2.2.2.1, out3.2.2.2.2.2.2)))))), ())
    else
      bif f1.1 == (8 : Int) then
        some ((out3.1, (out3.2.1, (f1.2.2.1, (f1.2.2.2.1, (f1.2.2.2.2.1, out3.2.2.2.2.2))))), ())
      else
        bif f1.1 == (18 : Int) then
          impl_used_j2 f1 t2 out3 (f1.1 == (18 : Int))
        else
          impl_used_j2 f1 t2 out3 (f1.1 == (22 : Int))
noncomputable def impl_used (f0 : TFrame) : Option (TFrame × Unit) :=
  Option.bind (impl_IsAboutStream f0) fun t8 =>
  bif t8.1 then
    impl_used_j1 f0 ((0 : Int), ((0 : Int), ((0 : Int), (([] : List UInt8), (false, ((0 : Int), ((0 : Int), ((0 : Int), (false, ()))))))))) (f0.1, (f0.2.1, ((0 : Int), (([] : List UInt8), (false, ((0 : Int), ((0 : Int), ((0 : Int), (false, ())))))))))
  else
    impl_used_j1 f0 ((0 : Int), ((0 : Int), ((0 : Int), (([] : List UInt8), (false, ((0 : Int), ((0 : Int), ((0 : Int), (false, ()))))))))) (f0.1, ((0 : Int), ((0 : Int), (([] : List UInt8), (false, ((0 : Int), ((0 : Int), ((0 : Int), (false, ())))))))))
noncomputable def impl_within (n0 : Int) (low1 : Int) (high2 : Int) : Option (Bool × Unit) :=
  some ((decide (low1 ≤ n0)) && (decide (n0 ≤ high2)), ())
noncomputable def impl_isQuic (n0 : Int) : Option (Bool × Unit) :=
  Option.bind (impl_within n0 (0 : Int) (4611686018427387903 : Int)) fun t4 =>
  some (t4.1, ())
noncomputable def impl_IsFrame (f0 : TFrame) : Option (Bool × Unit) :=
  Option.bind (impl_KindName f0.1) fun t5 =>
  Option.bind (bif (t5.1 == ([] : List UInt8)) then some (((0 : Int), ((0 : Int), ((0 : Int), (([] : List UInt8), (false, ((0 : Int), ((0 : Int), ((0 : Int), (false, ()))))))))), ()) else (impl_used f0)) fun t10 =>
  let t12 : Bool := (t5.1 == ([] : List UInt8)) || (!(eqV (tyFrame) f0 t10.1))
  Option.bind (bif t12 then some (false, ()) else (impl_isQuic f0.2.1)) fun t16 =>
  Option.bind (bif (t12 || (!t16.1)) then some (false, ()) else (impl_isQuic f0.2.2.1)) fun t22 =>
  let t24 : Bool := (t12 || (!t16.1)) || (!t22.1)
  Option.bind (bif t24 then some (false, ()) else (impl_isQuic f0.2.2.2.2.2.1)) fun t28 =>
  Option.bind (bif (t24 || (!t28.1)) then some (false, ()) else (impl_isQuic f0.2.2.2.2.2.2.1)) fun t34 =>
  let t36 : Bool := (t24 || (!t28.1)) || (!t34.1)
  Option.bind (bif t36 then some (false, ()) else (impl_isQuic f0.2.2.2.2.2.2.2.1)) fun t40 =>
  bif t36 || (!t40.1) then
    some (false, ())
  else
    bif (f0.1 == (18 : Int)) || (f0.1 == (22 : Int)) then
      some (decide (f0.2.2.2.2.2.2.1 ≤ (1152921504606846976 : Int)), ())
    else
      some ((decide ((f0.2.2.2.1.length : Int) ≤ (400 : Int))) && (decide (f0.2.2.1 ≤ (IntKind.i64.wrap ((4611686018427387903 : Int) - (f0.2.2.2.1.length : Int))))), ())
noncomputable def impl_isSmall (f0 : TFrame) : Option (Bool × Unit) :=
  some (((((decide (f0.2.1 ≤ (999999999 : Int))) && (decide (f0.2.2.1 ≤ (999999999 : Int)))) && (decide (f0.2.2.2.2.2.1 ≤ (999999999 : Int)))) && (decide (f0.2.2.2.2.2.2.1 ≤ (999999999 : Int)))) && (decide (f0.2.2.2.2.2.2.2.1 ≤ (999999999 : Int))), ())
noncomputable def strconv_Itoa (n : Int) : Option (List UInt8 × Unit) := guardP (-9223372036854775808 ≤ n ∧ n ≤ 9223372036854775807) (some (Go.Lib.itoa n, ()))
noncomputable def impl_FormatInt (n0 : Int) : Option (List UInt8 × Unit) :=
  Option.bind (strconv_Itoa n0) fun t4 =>
  some (t4.1, ())
@[reducible] def impl_EncodeHex_l1_p : List PE := [.val 0 (.str) (.u false), .val 3 (.slice 5 (.int .u8)) (.u true), .val 4 (.int .i64) (.u false)]
def impl_EncodeHex_l1_fuel (s0_1 : List UInt8) (out3 : List Int) (i4 : Int) : Nat := ((s0_1.length : Int) - i4).toNat + 1
noncomputable def impl_EncodeHex_l1 : Nat → List UInt8 → List Int → Int → Option (List UInt8 × Unit)
  | 0, _, _, _ => none
  | N + 1, s0_1, out3, i4 =>
    bif decide (i4 < (s0_1.length : Int)) then
      guardP (0 ≤ i4 ∧ i4 < s0_1.length) <|
      guardP ((16 : Int) ≠ 0) <|
      let t16 : Int := IntKind.u8.wrap (Int.tdiv ((s0_1.getD i4.toNat 0).toNat : Int) (16 : Int))
      guardP (0 ≤ t16 ∧ t16 < ([48, 49, 50, 51, 52, 53, 54, 55, 56, 57, 97, 98, 99, 100, 101, 102] : List UInt8).length) <|
      guardP (0 ≤ i4 ∧ i4 < s0_1.length) <|
      guardP ((16 : Int) ≠ 0) <|
      let t21 : Int := Int.tmod ((s0_1.getD i4.toNat 0).toNat : Int) (16 : Int)
      guardP (0 ≤ t21 ∧ t21 < ([48, 49, 50, 51, 52, 53, 54, 55, 56, 57, 97, 98, 99, 100, 101, 102] : List UInt8).length) <|
      let t23 : List Int := [((([48, 49, 50, 51, 52, 53, 54, 55, 56, 57, 97, 98, 99, 100, 101, 102] : List UInt8).getD t16.toNat 0).toNat : Int), ((([48, 49, 50, 51, 52, 53, 54, 55, 56, 57, 97, 98, 99, 100, 101, 102] : List UInt8).getD t21.toNat 0).toNat : Int)]
      guardP (out3.length + t23.length ≤ capN) <|
      impl_EncodeHex_l1 N s0_1 (out3 ++ t23) (IntKind.i64.wrap (i4 + (1 : Int)))
    else
      some (bytesOf out3, ())
noncomputable def impl_EncodeHex (s0 : List UInt8) : Option (List UInt8 × Unit) :=
  impl_EncodeHex_l1 (impl_EncodeHex_l1_fuel s0 ([] : List Int) (0 : Int)) s0 ([] : List Int) (0 : Int)
noncomputable def impl_told (ok0 : Bool) (yes1 : List UInt8) (no2 : List UInt8) : Option (List UInt8 × Unit) :=
  bif ok0 then
    some (yes1, ())
  else
    some (no2, ())
noncomputable def strings_Join (l : List (List UInt8)) (sep : List UInt8) : Option (List UInt8 × Unit) := guardP (l.length ≤ 140737488355328 ∧ (Go.Lib.join l sep).length ≤ 140737488355328) (some (Go.Lib.join l sep, ()))
@[reducible] def impl_FormatFrame_j3_p : List PE := [.val 3 (.slice 9 (.str)) (.u true)]
noncomputable def impl_FormatFrame_j3 (words3_2 : List (List UInt8)) : Option (List UInt8 × Unit) :=
  Option.bind (strings_Join words3_2 ([32] : List UInt8)) fun t83 =>
  some (t83.1, ())
@[reducible] def impl_FormatFrame_j2_p : List PE := [.box 1 47 (tyFrame) (.u false), .val 3 (.slice 9 (.str)) (.u true)]
noncomputable def impl_FormatFrame_j2 (f1_1 : TFrame) (words3_1 : List (List UInt8)) : Option (List UInt8 × Unit) :=
  bif (f1_1.1 == (18 : Int)) || (f1_1.1 == (22 : Int)) then
    Option.bind (impl_told f1_1.2.2.2.2.2.2.2.2.1 ([117, 110, 105] : List UInt8) ([98, 105, 100, 105] : List UInt8)) fun t79 =>
    guardP (words3_1.length + ([t79.1]).length ≤ capN) <|
    impl_FormatFrame_j3 (words3_1 ++ ([t79.1]))
  else
    impl_FormatFrame_j3 words3_1
@[reducible] def impl_FormatFrame_j1_p : List PE := [.box 1 47 (tyFrame) (.u false), .val 3 (.slice 9 (.str)) (.u true)]
noncomputable def impl_FormatFrame_j1 (f1 : TFrame) (words3 : List (List UInt8)) : Option (List UInt8 × Unit) :=
  bif f1.1 == (4 : Int) then
    Option.bind (impl_FormatInt f1.2.2.2.2.2.1) fun t37 =>
    Option.bind (impl_FormatInt f1.2.2.2.2.2.2.2.1) fun t40 =>
    guardP (words3.length + ([t37.1, t40.1]).length ≤ capN) <|
    impl_FormatFrame_j2 f1 (words3 ++ ([t37.1, t40.1]))
  else
    bif f1.1 == (5 : Int) then
      Option.bind (impl_FormatInt f1.2.2.2.2.2.1) fun t48 =>
      guardP (words3.length + ([t48.1]).length ≤ capN) <|
      impl_FormatFrame_j2 f1 (words3 ++ ([t48.1]))
    else
      bif f1.1 == (8 : Int) then
        Option.bind (impl_FormatInt f1.2.2.1) fun t56 =>
        Option.bind (impl_EncodeHex f1.2.2.2.1) fun t59 =>
        guardP (([120] : List UInt8).length + t59.1.length ≤ capS) <|
        guardP (words3.length + ([t56.1, (([120] : List UInt8) ++ t59.1)]).length ≤ capN) <|
        let t62 : List (List UInt8) := words3 ++ ([t56.1, (([120] : List UInt8) ++ t59.1)])
        bif f1.2.2.2.2.1 then
          guardP (t62.length + ([([102, 105, 110] : List UInt8)]).length ≤ capN) <|
          impl_FormatFrame_j2 f1 (t62 ++ ([([102, 105, 110] : List UInt8)]))
        else
          impl_FormatFrame_j2 f1 t62
      else
        Option.bind (impl_FormatInt f1.2.2.2.2.2.2.1) fun t29 =>
        guardP (words3.length + ([t29.1]).length ≤ capN) <|
        impl_FormatFrame_j2 f1 (words3 ++ ([t29.1]))
noncomputable def impl_FormatFrame (f0 : TFrame) : Option (List UInt8 × Unit) :=
  Option.bind (impl_IsFrame f0) fun t5 =>
  Option.bind (bif (!t5.1) then some (false, ()) else (impl_isSmall f0)) fun t9 =>
  bif (!t5.1) || (!t9.1) then
    some (([] : List UInt8), ())
  else
    Option.bind (impl_KindName f0.1) fun t14 =>
    Option.bind (impl_IsAboutStream f0) fun t17 =>
    bif t17.1 then
      Option.bind (impl_FormatInt f0.2.1) fun t21 =>
      guardP (([t14.1]).length + ([t21.1]).length ≤ capN) <|
      impl_FormatFrame_j1 f0 (([t14.1]) ++ ([t21.1]))
    else
      impl_FormatFrame_j1 f0 ([t14.1])
noncomputable def impl_orNone (s0 : List UInt8) : Option (List UInt8 × Unit) :=
  Option.bind (impl_told (!(s0 == ([] : List UInt8))) s0 ([110, 111, 110, 101] : List UInt8)) fun t6 =>
  some (t6.1, ())
@[reducible] def impl_FormatFrames_l1_p : List PE := [.val 3 (.slice 9 (.str)) (.u true), .val 7 (.slice 47 (tyFrame)) (.u false), .val 8 (.int .i64) (.u false), .val 9 (.int .i64) (.u false)]
def impl_FormatFrames_l1_fuel (out3 : List (List UInt8)) (t7 : List TFrame) (t8_1 : Int) (t9 : Int) : Nat := (t8_1 - t9).toNat + 1
noncomputable def impl_FormatFrames_l1 : Nat → List (List UInt8) → List TFrame → Int → Int → Option (List UInt8 × Unit)
  | 0, _, _, _, _ => none
  | N + 1, out3, t7, t8_1, t9 =>
    bif decide (t9 < t8_1) then
      guardP (0 ≤ t9 ∧ t9 < t7.length) <|
      Option.bind (impl_FormatFrame (t7.getD t9.toNat zFrame)) fun t15 =>
      guardP (out3.length + ([t15.1]).length ≤ capN) <|
      impl_FormatFrames_l1 N (out3 ++ ([t15.1])) t7 t8_1 (IntKind.i64.wrap (t9 + (1 : Int)))
    else
      Option.bind (strings_Join out3 ([59, 32] : List UInt8)) fun t20 =>
      Option.bind (impl_orNone t20.1) fun t21 =>
      some (t21.1, ())
noncomputable def impl_FormatFrames (l0 : List TFrame) : Option (List UInt8 × Unit) :=
  impl_FormatFrames_l1 (impl_FormatFrames_l1_fuel ([] : List (List UInt8)) l0 (l0.length : Int) (0 : Int)) ([] : List (List UInt8)) l0 (l0.length : Int) (0 : Int)
noncomputable def laws_eqFrame (a0 : TFrame) (b1 : TFrame) : Option (Bool × Unit) :=
  bif a0.1 != b1.1 then
    some (false, ())
  else
    bif a0.2.1 != b1.2.1 then
      some (false, ())
    else
      bif a0.2.2.1 != b1.2.2.1 then
        some (false, ())
      else
        bif !(a0.2.2.2.1 == b1.2.2.2.1) then
          some (false, ())
        else
          bif !(a0.2.2.2.2.1 == b1.2.2.2.2.1) then
            some (false, ())
          else
            bif a0.2.2.2.2.2.1 != b1.2.2.2.2.2.1 then
              some (false, ())
            else
              bif a0.2.2.2.2.2.2.1 != b1.2.2.2.2.2.2.1 then
                some (false, ())
              else
                bif a0.2.2.2.2.2.2.2.1 != b1.2.2.2.2.2.2.2.1 then
                  some (false, ())
                else
                  bif !(a0.2.2.2.2.2.2.2.2.1 == b1.2.2.2.2.2.2.2.2.1) then
                    some (false, ())
                  else
                    some (true, ())
@[reducible] def laws_eqFrameS_l1_p : List PE := [.val 0 (.slice 47 (tyFrame)) (.u false), .val 1 (.slice 47 (tyFrame)) (.u false), .val 5 (.int .i64) (.u false)]
def laws_eqFrameS_l1_fuel (a0_1 : List TFrame) (b1_1 : List TFrame) (i5 : Int) : Nat := ((a0_1.length : Int) - i5).toNat + 1
noncomputable def laws_eqFrameS_l1 : Nat → List TFrame → List TFrame → Int → Option (Bool × Unit)
  | 0, _, _, _ => none
  | N + 1, a0_1, b1_1, i5 =>
    bif decide (i5 < (a0_1.length : Int)) then
      guardP (0 ≤ i5 ∧ i5 < a0_1.length) <|
      guardP (0 ≤ i5 ∧ i5 < b1_1.length) <|
      Option.bind (laws_eqFrame (a0_1.getD i5.toNat zFrame) (b1_1.getD i5.toNat zFrame)) fun t25 =>
      bif !t25.1 then
        some (false, ())
      else
        laws_eqFrameS_l1 N a0_1 b1_1 (IntKind.i64.wrap (i5 + (1 : Int)))
    else
      some (true, ())
noncomputable def laws_eqFrameS (a0 : List TFrame) (b1 : List TFrame) : Option (Bool × Unit) :=
  bif (a0.length : Int) != (b1.length : Int) then
    some (false, ())
  else
    laws_eqFrameS_l1 (laws_eqFrameS_l1_fuel a0 b1 (0 : Int)) a0 b1 (0 : Int)
noncomputable def laws_FnExactFormatFrames (aL0 : List TFrame) : Option (Bool × Unit) :=
  Option.bind (laws_szFrameS aL0 (1048576 : Int)) fun t9 =>
  bif decide (t9.1 < (0 : Int)) then
    some (true, ())
  else
    Option.bind (laws_toFrameS aL0) fun t13 =>
    Option.bind (spec_FormatFrames t13.1) fun t14 =>
    Option.bind (laws_toFrameS aL0) fun t16 =>
    Option.bind (impl_FormatFrames t16.1) fun t18 =>
    bif !(t18.1 == t14.1) then
      some (false, ())
    else
      Option.bind (laws_toFrameS aL0) fun t24 =>
      Option.bind (laws_eqFrameS t16.1 t24.1) fun t25 =>
      bif !t25.1 then
        some (false, ())
      else
        some (true, ())
def tab : Tab := lookT [(3, .int .i64), (4, .bool), (5, .int .u8), (9, .str), (44, tyFrame), (47, tyFrame), (50, .slice 44 (tyFrame)), (53, .slice 47 (tyFrame)), (66, .slice 9 (.str)), (80, .slice 5 (.int .u8))]
theorem tok_3 : TOK Tryd.prog 3 (.int .i64) := ⟨by kernel_rfl, by kernel_rfl⟩
theorem tok_4 : TOK Tryd.prog 4 (.bool) := ⟨by kernel_rfl, by kernel_rfl⟩
theorem tok_5 : TOK Tryd.prog 5 (.int .u8) := ⟨by kernel_rfl, by kernel_rfl⟩
theorem tok_9 : TOK Tryd.prog 9 (.str) := ⟨by kernel_rfl, by kernel_rfl⟩
theorem tok_44 : TOK Tryd.prog 44 (tyFrame) := ⟨by kernel_rfl, by kernel_rfl⟩
theorem tok_47 : TOK Tryd.prog 47 (tyFrame) := ⟨by kernel_rfl, by kernel_rfl⟩
theorem tok_50 : TOK Tryd.prog 50 (.slice 44 (tyFrame)) := ⟨by kernel_rfl, by kernel_rfl⟩
theorem tok_53 : TOK Tryd.prog 53 (.slice 47 (tyFrame)) := ⟨by kernel_rfl, by kernel_rfl⟩
theorem tok_66 : TOK Tryd.prog 66 (.slice 9 (.str)) := ⟨by kernel_rfl, by kernel_rfl⟩
theorem tok_80 : TOK Tryd.prog 80 (.slice 5 (.int .u8)) := ⟨by kernel_rfl, by kernel_rfl⟩
theorem tab_ok : tab.ok Tryd.prog := (tab_cons tok_3 (tab_cons tok_4 (tab_cons tok_5 (tab_cons tok_9 (tab_cons tok_44 (tab_cons tok_47 (tab_cons tok_50 (tab_cons tok_53 (tab_cons tok_66 (tab_cons tok_80 tab_nil))))))))))
noncomputable abbrev glob : Glob := Glob.vars Tryd.prog [("internal/strconv.uint64pow10", (Go.Lib.pow10Tab.map fun z => Value.int .u64 z).toArray)]
theorem eqo_47 : EqOK Tryd.prog 47 (tyFrame) := EqOK.of (by kernel_rfl) (by kernel_rfl) rfl (by decide)
def eqsL : List Nat := [47]
theorem eqs_ok : EqsL Tryd.prog tab eqsL := (eqs_cons eqo_47 rfl eqs_nil)
@[reducible] def cfg (Γ : Env) : Cfg := { τ := tab, eq := fun e => eqsL.any (Nat.beq e), Γ := Γ }
theorem cfg_ok {Γ : Env} (h : Γ.ok Tryd.prog glob) : (cfg Γ).ok Tryd.prog glob := ⟨tab_ok, eqs_ok, h, by kernel_rfl⟩
@[reducible] noncomputable def e_laws_szFrame : FnE := { f := 22, args := [tyFrame, .int .i64], res := [.int .i64], F := fun xs => laws_szFrame xs.1 xs.2.1 }
theorem ok_laws_szFrame : FnOK Tryd.prog glob e_laws_szFrame := by
  refine FnOK.of (e := e_laws_szFrame) (C := cfg []) (cfg_ok env_nil) Tryd.func22 (c := codeOf Tryd.f22) rfl Tryd.call22 (by decide)
    (.leaf) ?_ ?_
  · exact conds_leaf _ _
  · intro xs r h
    refine Eq.trans (Eq.symm ?_) h
    kernel_rfl
@[reducible] noncomputable def e_laws_szFrameS : FnE := { f := 26, args := [.slice 44 (tyFrame), .int .i64], res := [.int .i64], F := fun xs => laws_szFrameS xs.1 xs.2.1 }
theorem ok_laws_szFrameS : FnOK Tryd.prog glob e_laws_szFrameS := by
  refine FnOK.of (e := e_laws_szFrameS) (C := cfg [e_laws_szFrame]) (cfg_ok (env_cons ok_laws_szFrame env_nil)) Tryd.func26 (c := codeOf Tryd.f26) rfl Tryd.call26 (by decide)
    ((.seq .leaf (.seq .leaf (.seq .leaf (.seq (.seq .leaf (.block (.loop laws_szFrameS_l1_p (fun N v => laws_szFrameS_l1 N v.1 v.2.1 v.2.2.1) (fun v => laws_szFrameS_l1_fuel v.1 v.2.1 v.2.2.1) (fun K1 => .leaf)))) .leaf))))) ?_ ?_
  · exact ⟨conds_leaf _ _, ⟨conds_leaf _ _, ⟨conds_leaf _ _, ⟨⟨conds_leaf _ _, ⟨fun _ => rfl, fun N => ⟨(fun v => by kernel_rfl), conds_leaf _ _⟩⟩⟩, conds_leaf _ _⟩⟩⟩⟩
  · intro xs r h
    refine Eq.trans (Eq.symm ?_) h
    kernel_rfl
@[reducible] noncomputable def e_laws_toFrame : FnE := { f := 24, args := [tyFrame], res := [tyFrame], F := fun xs => laws_toFrame xs.1 }
theorem ok_laws_toFrame : FnOK Tryd.prog glob e_laws_toFrame := by
  refine FnOK.of (e := e_laws_toFrame) (C := cfg []) (cfg_ok env_nil) Tryd.func24 (c := codeOf Tryd.f24) rfl Tryd.call24 (by decide)
    (.leaf) ?_ ?_
  · exact conds_leaf _ _
  · intro xs r h
    refine Eq.trans (Eq.symm ?_) h
    kernel_rfl
@[reducible] noncomputable def e_laws_toFrameS : FnE := { f := 28, args := [.slice 44 (tyFrame)], res := [.slice 47 (tyFrame)], F := fun xs => laws_toFrameS xs.1 }
theorem ok_laws_toFrameS : FnOK Tryd.prog glob e_laws_toFrameS := by
  refine FnOK.of (e := e_laws_toFrameS) (C := cfg [e_laws_toFrame]) (cfg_ok (env_cons ok_laws_toFrame env_nil)) Tryd.func28 (c := codeOf Tryd.f28) rfl Tryd.call28 (by decide)
    ((.seq .leaf (.seq .leaf (.seq (.seq .leaf (.block (.loop laws_toFrameS_l1_p (fun N v => laws_toFrameS_l1 N v.1 v.2.1 v.2.2.1) (fun v => laws_toFrameS_l1_fuel v.1 v.2.1 v.2.2.1) (fun K1 => .leaf)))) .leaf)))) ?_ ?_
  · exact ⟨conds_leaf _ _, ⟨conds_leaf _ _, ⟨⟨conds_leaf _ _, ⟨fun _ => rfl, fun N => ⟨(fun v => by kernel_rfl), conds_leaf _ _⟩⟩⟩, conds_leaf _ _⟩⟩⟩
  · intro xs r h
    refine Eq.trans (Eq.symm ?_) h
    kernel_rfl
@[reducible] noncomputable def e_spec_KindName : FnE := { f := 47, args := [.int .i64], res := [.str], F := fun xs => spec_KindName xs.1 }
theorem ok_spec_KindName : FnOK Tryd.prog glob e_spec_KindName := by
  refine FnOK.of (e := e_spec_KindName) (C := cfg []) (cfg_ok env_nil) Tryd.func47 (c := codeOf Tryd.f47) rfl Tryd.call47 (by decide)
    (.leaf) ?_ ?_
  · exact conds_leaf _ _
  · intro xs r h
    refine Eq.trans (Eq.symm ?_) h
    kernel_rfl
@[reducible] noncomputable def e_spec_IsAboutStream : FnE := { f := 80, args := [tyFrame], res := [.bool], F := fun xs => spec_IsAboutStream xs.1 }
theorem ok_spec_IsAboutStream : FnOK Tryd.prog glob e_spec_IsAboutStream := by
  refine FnOK.of (e := e_spec_IsAboutStream) (C := cfg []) (cfg_ok env_nil) Tryd.func80 (c := codeOf Tryd.f80) rfl Tryd.call80 (by decide)
    ((.seq .leaf (.seq (.seq .leaf (.block (.join spec_IsAboutStream_j1_p (fun v => spec_IsAboutStream_j1 v.1) .leaf .leaf))) .leaf))) ?_ ?_
  · exact ⟨conds_leaf _ _, ⟨⟨conds_leaf _ _, ⟨conds_leaf _ _, (fun v => by kernel_rfl), conds_leaf _ _⟩⟩, conds_leaf _ _⟩⟩
  · intro xs r h
    refine Eq.trans (Eq.symm ?_) h
    kernel_rfl
@[reducible] noncomputable def e_spec_l4Used : FnE := { f := 67, args := [tyFrame], res := [tyFrame], F := fun xs => spec_l4Used xs.1 }
theorem ok_spec_l4Used : FnOK Tryd.prog glob e_spec_l4Used := by
  refine FnOK.of (e := e_spec_l4Used) (C := cfg [e_spec_IsAboutStream]) (cfg_ok (env_cons ok_spec_IsAboutStream env_nil)) Tryd.func67 (c := codeOf Tryd.f67) rfl Tryd.call67 (by decide)
    ((.seq .leaf (.seq .leaf (.join spec_l4Used_j1_p (fun v => spec_l4Used_j1 v.1 v.2.1 v.2.2.1) .leaf (.seq (.seq .leaf (.block (.seq .leaf (.cond .leaf (.seq .leaf (.cond .leaf (.seq .leaf (.cond .leaf (.join spec_l4Used_j2_p (fun v => spec_l4Used_j2 v.1 v.2.1 v.2.2.1 v.2.2.2.1) .leaf .leaf))))))))) .leaf))))) ?_ ?_
  · exact ⟨conds_leaf _ _, ⟨conds_leaf _ _, ⟨conds_leaf _ _, (fun v => by kernel_rfl), ⟨⟨conds_leaf _ _, ⟨conds_leaf _ _, ⟨conds_leaf _ _, ⟨conds_leaf _ _, ⟨conds_leaf _ _, ⟨conds_leaf _ _, ⟨conds_leaf _ _, ⟨conds_leaf _ _, (fun v => by kernel_rfl), conds_leaf _ _⟩⟩⟩⟩⟩⟩⟩⟩, conds_leaf _ _⟩⟩⟩⟩
  · intro xs r h
    refine Eq.trans (Eq.symm ?_) h
    kernel_rfl
@[reducible] noncomputable def e_spec_l1In : FnE := { f := 57, args := [.int .i64, .int .i64, .int .i64], res := [.bool], F := fun xs => spec_l1In xs.1 xs.2.1 xs.2.2.1 }
theorem ok_spec_l1In : FnOK Tryd.prog glob e_spec_l1In := by
  refine FnOK.of (e := e_spec_l1In) (C := cfg []) (cfg_ok env_nil) Tryd.func57 (c := codeOf Tryd.f57) rfl Tryd.call57 (by decide)
    (.leaf) ?_ ?_
  · exact conds_leaf _ _
  · intro xs r h
    refine Eq.trans (Eq.symm ?_) h
    kernel_rfl
@[reducible] noncomputable def e_spec_l4Quic : FnE := { f := 68, args := [.int .i64], res := [.bool], F := fun xs => spec_l4Quic xs.1 }
theorem ok_spec_l4Quic : FnOK Tryd.prog glob e_spec_l4Quic := by
  refine FnOK.of (e := e_spec_l4Quic) (C := cfg [e_spec_l1In]) (cfg_ok (env_cons ok_spec_l1In env_nil)) Tryd.func68 (c := codeOf Tryd.f68) rfl Tryd.call68 (by decide)
    (.leaf) ?_ ?_
  · exact conds_leaf _ _
  · intro xs r h
    refine Eq.trans (Eq.symm ?_) h
    kernel_rfl
@[reducible] noncomputable def e_spec_IsFrame : FnE := { f := 46, args := [tyFrame], res := [.bool], F := fun xs => spec_IsFrame xs.1 }
theorem ok_spec_IsFrame : FnOK Tryd.prog glob e_spec_IsFrame := by
  refine FnOK.of (e := e_spec_IsFrame) (C := cfg [e_spec_KindName, e_spec_l4Used, e_spec_l4Quic]) (cfg_ok (env_cons ok_spec_KindName (env_cons ok_spec_l4Used (env_cons ok_spec_l4Quic env_nil)))) Tryd.func46 (c := codeOf Tryd.f46) rfl Tryd.call46 (by decide)
    ((.seq .leaf (.seq .leaf (.seq (.seq .leaf (.block (.seq .leaf (.cond .leaf (.join spec_IsFrame_j1_p (fun v => spec_IsFrame_j1 v.1 v.2.1) .leaf .leaf))))) .leaf)))) ?_ ?_
  · exact ⟨conds_leaf _ _, ⟨conds_leaf _ _, ⟨⟨conds_leaf _ _, ⟨conds_leaf _ _, ⟨conds_leaf _ _, ⟨conds_leaf _ _, (fun v => by kernel_rfl), conds_leaf _ _⟩⟩⟩⟩, conds_leaf _ _⟩⟩⟩
  · intro xs r h
    refine Eq.trans (Eq.symm ?_) h
    kernel_rfl
@[reducible] noncomputable def e_spec_l32Small : FnE := { f := 31, args := [.int .i64], res := [.bool], F := fun xs => spec_l32Small xs.1 }
theorem ok_spec_l32Small : FnOK Tryd.prog glob e_spec_l32Small := by
  refine FnOK.of (e := e_spec_l32Small) (C := cfg [e_spec_l1In]) (cfg_ok (env_cons ok_spec_l1In env_nil)) Tryd.func31 (c := codeOf Tryd.f31) rfl Tryd.call31 (by decide)
    (.leaf) ?_ ?_
  · exact conds_leaf _ _
  · intro xs r h
    refine Eq.trans (Eq.symm ?_) h
    kernel_rfl
@[reducible] noncomputable def e_spec_FormatInt : FnE := { f := 32, args := [.int .i64], res := [.str], F := fun xs => spec_FormatInt xs.1 }
theorem ok_spec_FormatInt : FnOK Tryd.prog glob e_spec_FormatInt := by
  refine FnOK.of (e := e_spec_FormatInt) (C := cfg []) (cfg_ok env_nil) Tryd.func32 (c := codeOf Tryd.f32) rfl Tryd.call32 (by decide)
    ((.seq .leaf (.seq .leaf (.seq .leaf (.seq .leaf (.seq (.block (.loop spec_FormatInt_l1_p (fun N v => spec_FormatInt_l1 N v.1 v.2.1 v.2.2.1) (fun v => spec_FormatInt_l1_fuel v.1 v.2.1 v.2.2.1) (fun K1 => (.seq .leaf (.block (.seq .leaf (.join spec_FormatInt_j1_p (fun v => spec_FormatInt_j1 K1 v.1 v.2.1 v.2.2.1 v.2.2.2.1) .leaf .leaf))))))) .leaf)))))) ?_ ?_
  · exact ⟨conds_leaf _ _, ⟨conds_leaf _ _, ⟨conds_leaf _ _, ⟨conds_leaf _ _, ⟨⟨fun _ => rfl, fun N => ⟨(fun v => by kernel_rfl), ⟨conds_leaf _ _, ⟨conds_leaf _ _, ⟨conds_leaf _ _, (fun v => by kernel_rfl), conds_leaf _ _⟩⟩⟩⟩⟩, conds_leaf _ _⟩⟩⟩⟩⟩
  · intro xs r h
    refine Eq.trans (Eq.symm ?_) h
    kernel_rfl
@[reducible] noncomputable def e_spec_l1Digit : FnE := { f := 69, args := [.int .i64], res := [.int .u8], F := fun xs => spec_l1Digit xs.1 }
theorem ok_spec_l1Digit : FnOK Tryd.prog glob e_spec_l1Digit := by
  refine FnOK.of (e := e_spec_l1Digit) (C := cfg []) (cfg_ok env_nil) Tryd.func69 (c := codeOf Tryd.f69) rfl Tryd.call69 (by decide)
    (.leaf) ?_ ?_
  · exact conds_leaf _ _
  · intro xs r h
    refine Eq.trans (Eq.symm ?_) h
    kernel_rfl
@[reducible] noncomputable def e_spec_EncodeHex : FnE := { f := 48, args := [.str], res := [.str], F := fun xs => spec_EncodeHex xs.1 }
theorem ok_spec_EncodeHex : FnOK Tryd.prog glob e_spec_EncodeHex := by
  refine FnOK.of (e := e_spec_EncodeHex) (C := cfg [e_spec_l1Digit]) (cfg_ok (env_cons ok_spec_l1Digit env_nil)) Tryd.func48 (c := codeOf Tryd.f48) rfl Tryd.call48 (by decide)
    ((.seq .leaf (.seq .leaf (.seq (.seq .leaf (.block (.loop spec_EncodeHex_l1_p (fun N v => spec_EncodeHex_l1 N v.1 v.2.1 v.2.2.1) (fun v => spec_EncodeHex_l1_fuel v.1 v.2.1 v.2.2.1) (fun K1 => .leaf)))) .leaf)))) ?_ ?_
  · exact ⟨conds_leaf _ _, ⟨conds_leaf _ _, ⟨⟨conds_leaf _ _, ⟨fun _ => rfl, fun N => ⟨(fun v => by kernel_rfl), conds_leaf _ _⟩⟩⟩, conds_leaf _ _⟩⟩⟩
  · intro xs r h
    refine Eq.trans (Eq.symm ?_) h
    kernel_rfl
@[reducible] noncomputable def e_spec_l32Fin : FnE := { f := 49, args := [.bool], res := [.str], F := fun xs => spec_l32Fin xs.1 }
theorem ok_spec_l32Fin : FnOK Tryd.prog glob e_spec_l32Fin := by
  refine FnOK.of (e := e_spec_l32Fin) (C := cfg []) (cfg_ok env_nil) Tryd.func49 (c := codeOf Tryd.f49) rfl Tryd.call49 (by decide)
    (.leaf) ?_ ?_
  · exact conds_leaf _ _
  · intro xs r h
    refine Eq.trans (Eq.symm ?_) h
    kernel_rfl
@[reducible] noncomputable def e_spec_l32Uni : FnE := { f := 50, args := [.bool], res := [.str], F := fun xs => spec_l32Uni xs.1 }
theorem ok_spec_l32Uni : FnOK Tryd.prog glob e_spec_l32Uni := by
  refine FnOK.of (e := e_spec_l32Uni) (C := cfg []) (cfg_ok env_nil) Tryd.func50 (c := codeOf Tryd.f50) rfl Tryd.call50 (by decide)
    (.leaf) ?_ ?_
  · exact conds_leaf _ _
  · intro xs r h
    refine Eq.trans (Eq.symm ?_) h
    kernel_rfl
@[reducible] noncomputable def e_spec_FormatFrame : FnE := { f := 23, args := [tyFrame], res := [.str], F := fun xs => spec_FormatFrame xs.1 }
theorem ok_spec_FormatFrame : FnOK Tryd.prog glob e_spec_FormatFrame := by
  refine FnOK.of (e := e_spec_FormatFrame) (C := cfg [e_spec_IsFrame, e_spec_l32Small, e_spec_KindName, e_spec_FormatInt, e_spec_EncodeHex, e_spec_l32Fin, e_spec_l32Uni]) (cfg_ok (env_cons ok_spec_IsFrame (env_cons ok_spec_l32Small (env_cons ok_spec_KindName (env_cons ok_spec_FormatInt (env_cons ok_spec_EncodeHex (env_cons ok_spec_l32Fin (env_cons ok_spec_l32Uni env_nil)))))))) Tryd.func23 (c := codeOf Tryd.f23) rfl Tryd.call23 (by decide)
    ((.seq .leaf (.seq .leaf (.seq .leaf (.seq (.seq .leaf (.block (.seq .leaf (.cond .leaf (.seq .leaf (.cond .leaf (.seq .leaf (.cond .leaf (.join spec_FormatFrame_j1_p (fun v => spec_FormatFrame_j1 v.1 v.2.1 v.2.2.1 v.2.2.2.1) .leaf (.cond .leaf (.join spec_FormatFrame_j2_p (fun v => spec_FormatFrame_j2 v.1 v.2.1 v.2.2.1) .leaf .leaf))))))))))) .leaf))))) ?_ ?_
  · exact ⟨conds_leaf _ _, ⟨conds_leaf _ _, ⟨conds_leaf _ _, ⟨⟨conds_leaf _ _, ⟨conds_leaf _ _, ⟨conds_leaf _ _, ⟨conds_leaf _ _, ⟨conds_leaf _ _, ⟨conds_leaf _ _, ⟨conds_leaf _ _, ⟨conds_leaf _ _, (fun v => by kernel_rfl), ⟨conds_leaf _ _, ⟨conds_leaf _ _, (fun v => by kernel_rfl), conds_leaf _ _⟩⟩⟩⟩⟩⟩⟩⟩⟩⟩, conds_leaf _ _⟩⟩⟩⟩
  · intro xs r h
    refine Eq.trans (Eq.symm ?_) h
    kernel_rfl
@[reducible] noncomputable def e_spec_FormatFrames : FnE := { f := 27, args := [.slice 47 (tyFrame)], res := [.str], F := fun xs => spec_FormatFrames xs.1 }
theorem ok_spec_FormatFrames : FnOK Tryd.prog glob e_spec_FormatFrames := by
  refine FnOK.of (e := e_spec_FormatFrames) (C := cfg [e_spec_FormatFrame]) (cfg_ok (env_cons ok_spec_FormatFrame env_nil)) Tryd.func27 (c := codeOf Tryd.f27) rfl Tryd.call27 (by decide)
    ((.seq .leaf (.seq .leaf (.seq (.seq .leaf (.block (.loop spec_FormatFrames_l1_p (fun N v => spec_FormatFrames_l1 N v.1 v.2.1 v.2.2.1) (fun v => spec_FormatFrames_l1_fuel v.1 v.2.1 v.2.2.1) (fun K1 => (.seq .leaf (.seq (.block (.join spec_FormatFrames_j1_p (fun v => spec_FormatFrames_j1 K1 v.1 v.2.1 v.2.2.1) .leaf .leaf)) .leaf)))))) .leaf)))) ?_ ?_
  · exact ⟨conds_leaf _ _, ⟨conds_leaf _ _, ⟨⟨conds_leaf _ _, ⟨fun _ => rfl, fun N => ⟨(fun v => by kernel_rfl), ⟨conds_leaf _ _, ⟨⟨conds_leaf _ _, (fun v => by kernel_rfl), conds_leaf _ _⟩, conds_leaf _ _⟩⟩⟩⟩⟩, conds_leaf _ _⟩⟩⟩
  · intro xs r h
    refine Eq.trans (Eq.symm ?_) h
    kernel_rfl
@[reducible] noncomputable def e_impl_KindName : FnE := { f := 53, args := [.int .i64], res := [.str], F := fun xs => impl_KindName xs.1 }
theorem ok_impl_KindName : FnOK Tryd.prog glob e_impl_KindName := by
  refine FnOK.of (e := e_impl_KindName) (C := cfg []) (cfg_ok env_nil) Tryd.func53 (c := codeOf Tryd.f53) rfl Tryd.call53 (by decide)
    (.leaf) ?_ ?_
  · exact conds_leaf _ _
  · intro xs r h
    refine Eq.trans (Eq.symm ?_) h
    kernel_rfl
@[reducible] noncomputable def e_impl_IsAboutStream : FnE := { f := 54, args := [tyFrame], res := [.bool], F := fun xs => impl_IsAboutStream xs.1 }
theorem ok_impl_IsAboutStream : FnOK Tryd.prog glob e_impl_IsAboutStream := by
  refine FnOK.of (e := e_impl_IsAboutStream) (C := cfg []) (cfg_ok env_nil) Tryd.func54 (c := codeOf Tryd.f54) rfl Tryd.call54 (by decide)
    ((.seq .leaf (.seq (.seq .leaf (.block (.join impl_IsAboutStream_j1_p (fun v => impl_IsAboutStream_j1 v.1) .leaf .leaf))) .leaf))) ?_ ?_
  · exact ⟨conds_leaf _ _, ⟨⟨conds_leaf _ _, ⟨conds_leaf _ _, (fun v => by kernel_rfl), conds_leaf _ _⟩⟩, conds_leaf _ _⟩⟩
  · intro xs r h
    refine Eq.trans (Eq.symm ?_) h
    kernel_rfl
@[reducible] noncomputable def e_impl_used : FnE := { f := 70, args := [tyFrame], res := [tyFrame], F := fun xs => impl_used xs.1 }
theorem ok_impl_used : FnOK Tryd.prog glob e_impl_used := by
  refine FnOK.of (e := e_impl_used) (C := cfg [e_impl_IsAboutStream]) (cfg_ok (env_cons ok_impl_IsAboutStream env_nil)) Tryd.func70 (c := codeOf Tryd.f70) rfl Tryd.call70 (by decide)
    ((.seq .leaf (.seq .leaf (.join impl_used_j1_p (fun v => impl_used_j1 v.1 v.2.1 v.2.2.1) .leaf (.seq (.seq .leaf (.block (.seq .leaf (.cond .leaf (.seq .leaf (.cond .leaf (.seq .leaf (.cond .leaf (.join impl_used_j2_p (fun v => impl_used_j2 v.1 v.2.1 v.2.2.1 v.2.2.2.1) .leaf .leaf))))))))) .leaf))))) ?_ ?_
  · exact ⟨conds_leaf _ _, ⟨conds_leaf _ _, ⟨conds_leaf _ _, (fun v => by kernel_rfl), ⟨⟨conds_leaf _ _, ⟨conds_leaf _ _, ⟨conds_leaf _ _, ⟨conds_leaf _ _, ⟨conds_leaf _ _, ⟨conds_leaf _ _, ⟨conds_leaf _ _, ⟨conds_leaf _ _, (fun v => by kernel_rfl), conds_leaf _ _⟩⟩⟩⟩⟩⟩⟩⟩, conds_leaf _ _⟩⟩⟩⟩
  · intro xs r h
    refine Eq.trans (Eq.symm ?_) h
    kernel_rfl
@[reducible] noncomputable def e_impl_within : FnE := { f := 33, args := [.int .i64, .int .i64, .int .i64], res := [.bool], F := fun xs => impl_within xs.1 xs.2.1 xs.2.2.1 }
theorem ok_impl_within : FnOK Tryd.prog glob e_impl_within := by
  refine FnOK.of (e := e_impl_within) (C := cfg []) (cfg_ok env_nil) Tryd.func33 (c := codeOf Tryd.f33) rfl Tryd.call33 (by decide)
    (.leaf) ?_ ?_
  · exact conds_leaf _ _
  · intro xs r h
    refine Eq.trans (Eq.symm ?_) h
    kernel_rfl
@[reducible] noncomputable def e_impl_isQuic : FnE := { f := 71, args := [.int .i64], res := [.bool], F := fun xs => impl_isQuic xs.1 }
theorem ok_impl_isQuic : FnOK Tryd.prog glob e_impl_isQuic := by
  refine FnOK.of (e := e_impl_isQuic) (C := cfg [e_impl_within]) (cfg_ok (env_cons ok_impl_within env_nil)) Tryd.func71 (c := codeOf Tryd.f71) rfl Tryd.call71 (by decide)
    (.leaf) ?_ ?_
  · exact conds_leaf _ _
  · intro xs r h
    refine Eq.trans (Eq.symm ?_) h
    kernel_rfl
@[reducible] noncomputable def e_impl_IsFrame : FnE := { f := 51, args := [tyFrame], res := [.bool], F := fun xs => impl_IsFrame xs.1 }
theorem ok_impl_IsFrame : FnOK Tryd.prog glob e_impl_IsFrame := by
  refine FnOK.of (e := e_impl_IsFrame) (C := cfg [e_impl_KindName, e_impl_used, e_impl_isQuic]) (cfg_ok (env_cons ok_impl_KindName (env_cons ok_impl_used (env_cons ok_impl_isQuic env_nil)))) Tryd.func51 (c := codeOf Tryd.f51) rfl Tryd.call51 (by decide)
    (.leaf) ?_ ?_
  · exact conds_leaf _ _
  · intro xs r h
    refine Eq.trans (Eq.symm ?_) h
    kernel_rfl
@[reducible] noncomputable def e_impl_isSmall : FnE := { f := 52, args := [tyFrame], res := [.bool], F := fun xs => impl_isSmall xs.1 }
theorem ok_impl_isSmall : FnOK Tryd.prog glob e_impl_isSmall := by
  refine FnOK.of (e := e_impl_isSmall) (C := cfg []) (cfg_ok env_nil) Tryd.func52 (c := codeOf Tryd.f52) rfl Tryd.call52 (by decide)
    (.leaf) ?_ ?_
  · exact conds_leaf _ _
  · intro xs r h
    refine Eq.trans (Eq.symm ?_) h
    kernel_rfl
@[reducible] noncomputable def e_strconv_Itoa : FnE := { f := 58, args := [.int .i64], res := [.str], F := fun xs => strconv_Itoa xs.1 }
theorem ok_strconv_Itoa : FnOK Tryd.prog glob e_strconv_Itoa :=
  FnOK.intStr Tryd.call58 fun n w hg h0 h1 => (Tryd.strconv_Itoa n h0 h1 w (hg _ (List.getElem_mem (n := 0) (by decide)))).mono fun e w' ⟨he, k, os, hw⟩ => ⟨he, hw ▸ Go.Lib.below_grow _ _ (Nat.le_refl _) k os⟩
@[reducible] noncomputable def e_impl_FormatInt : FnE := { f := 34, args := [.int .i64], res := [.str], F := fun xs => impl_FormatInt xs.1 }
theorem ok_impl_FormatInt : FnOK Tryd.prog glob e_impl_FormatInt := by
  refine FnOK.of (e := e_impl_FormatInt) (C := cfg [e_strconv_Itoa]) (cfg_ok (env_cons ok_strconv_Itoa env_nil)) Tryd.func34 (c := codeOf Tryd.f34) rfl Tryd.call34 (by decide)
    (.leaf) ?_ ?_
  · exact conds_leaf _ _
  · intro xs r h
    refine Eq.trans (Eq.symm ?_) h
    kernel_rfl
@[reducible] noncomputable def e_impl_EncodeHex : FnE := { f := 55, args := [.str], res := [.str], F := fun xs => impl_EncodeHex xs.1 }
theorem ok_impl_EncodeHex : FnOK Tryd.prog glob e_impl_EncodeHex := by
  refine FnOK.of (e := e_impl_EncodeHex) (C := cfg []) (cfg_ok env_nil) Tryd.func55 (c := codeOf Tryd.f55) rfl Tryd.call55 (by decide)
    ((.seq .leaf (.seq .leaf (.seq (.seq .leaf (.block (.loop impl_EncodeHex_l1_p (fun N v => impl_EncodeHex_l1 N v.1 v.2.1 v.2.2.1) (fun v => impl_EncodeHex_l1_fuel v.1 v.2.1 v.2.2.1) (fun K1 => .leaf)))) .leaf)))) ?_ ?_
  · exact ⟨conds_leaf _ _, ⟨conds_leaf _ _, ⟨⟨conds_leaf _ _, ⟨fun _ => rfl, fun N => ⟨(fun v => by kernel_rfl), conds_leaf _ _⟩⟩⟩, conds_leaf _ _⟩⟩⟩
  · intro xs r h
    refine Eq.trans (Eq.symm ?_) h
    kernel_rfl
@[reducible] noncomputable def e_impl_told : FnE := { f := 35, args := [.bool, .str, .str], res := [.str], F := fun xs => impl_told xs.1 xs.2.1 xs.2.2.1 }
theorem ok_impl_told : FnOK Tryd.prog glob e_impl_told := by
  refine FnOK.of (e := e_impl_told) (C := cfg []) (cfg_ok env_nil) Tryd.func35 (c := codeOf Tryd.f35) rfl Tryd.call35 (by decide)
    (.leaf) ?_ ?_
  · exact conds_leaf _ _
  · intro xs r h
    refine Eq.trans (Eq.symm ?_) h
    kernel_rfl
@[reducible] noncomputable def e_strings_Join : FnE := { f := 39, args := [.slice 9 (.str), .str], res := [.str], F := fun xs => strings_Join xs.1 xs.2.1 }
theorem ok_strings_Join : FnOK Tryd.prog glob e_strings_Join :=
  FnOK.join Tryd.call39 (fun _ => rfl) (fun a c sep w => Tryd.strings_Join_none a c sep w) (fun bk o c xs sep w h1 h2 h3 h4 h5 => Tryd.strings_Join bk o c xs sep w h1 h2 h3 h4 h5)
@[reducible] noncomputable def e_impl_FormatFrame : FnE := { f := 25, args := [tyFrame], res := [.str], F := fun xs => impl_FormatFrame xs.1 }
theorem ok_impl_FormatFrame : FnOK Tryd.prog glob e_impl_FormatFrame := by
  refine FnOK.of (e := e_impl_FormatFrame) (C := cfg [e_impl_IsFrame, e_impl_isSmall, e_impl_KindName, e_impl_IsAboutStream, e_impl_FormatInt, e_impl_EncodeHex, e_impl_told, e_strings_Join]) (cfg_ok (env_cons ok_impl_IsFrame (env_cons ok_impl_isSmall (env_cons ok_impl_KindName (env_cons ok_impl_IsAboutStream (env_cons ok_impl_FormatInt (env_cons ok_impl_EncodeHex (env_cons ok_impl_told (env_cons ok_strings_Join env_nil))))))))) Tryd.func25 (c := codeOf Tryd.f25) rfl Tryd.call25 (by decide)
    ((.seq .leaf (.seq .leaf (.seq .leaf (.join impl_FormatFrame_j1_p (fun v => impl_FormatFrame_j1 v.1 v.2.1) .leaf (.join impl_FormatFrame_j2_p (fun v => impl_FormatFrame_j2 v.1 v.2.1) .leaf (.join impl_FormatFrame_j3_p (fun v => impl_FormatFrame_j3 v.1) .leaf .leaf))))))) ?_ ?_
  · exact ⟨conds_leaf _ _, ⟨conds_leaf _ _, ⟨conds_leaf _ _, ⟨conds_leaf _ _, (fun v => by kernel_rfl), ⟨conds_leaf _ _, (fun v => by kernel_rfl), ⟨conds_leaf _ _, (fun v => by kernel_rfl), conds_leaf _ _⟩⟩⟩⟩⟩⟩
  · intro xs r h
    refine Eq.trans (Eq.symm ?_) h
    kernel_rfl
@[reducible] noncomputable def e_impl_orNone : FnE := { f := 38, args := [.str], res := [.str], F := fun xs => impl_orNone xs.1 }
theorem ok_impl_orNone : FnOK Tryd.prog glob e_impl_orNone := by
  refine FnOK.of (e := e_impl_orNone) (C := cfg [e_impl_told]) (cfg_ok (env_cons ok_impl_told env_nil)) Tryd.func38 (c := codeOf Tryd.f38) rfl Tryd.call38 (by decide)
    (.leaf) ?_ ?_
  · exact conds_leaf _ _
  · intro xs r h
    refine Eq.trans (Eq.symm ?_) h
    kernel_rfl
@[reducible] noncomputable def e_impl_FormatFrames : FnE := { f := 29, args := [.slice 47 (tyFrame)], res := [.str], F := fun xs => impl_FormatFrames xs.1 }
theorem ok_impl_FormatFrames : FnOK Tryd.prog glob e_impl_FormatFrames := by
  refine FnOK.of (e := e_impl_FormatFrames) (C := cfg [e_impl_FormatFrame, e_strings_Join, e_impl_orNone]) (cfg_ok (env_cons ok_impl_FormatFrame (env_cons ok_strings_Join (env_cons ok_impl_orNone env_nil)))) Tryd.func29 (c := codeOf Tryd.f29) rfl Tryd.call29 (by decide)
    ((.seq .leaf (.seq .leaf (.seq (.seq .leaf (.block (.loop impl_FormatFrames_l1_p (fun N v => impl_FormatFrames_l1 N v.1 v.2.1 v.2.2.1 v.2.2.2.1) (fun v => impl_FormatFrames_l1_fuel v.1 v.2.1 v.2.2.1 v.2.2.2.1) (fun K1 => .leaf)))) .leaf)))) ?_ ?_
  · exact ⟨conds_leaf _ _, ⟨conds_leaf _ _, ⟨⟨conds_leaf _ _, ⟨fun _ => rfl, fun N => ⟨(fun v => by kernel_rfl), conds_leaf _ _⟩⟩⟩, conds_leaf _ _⟩⟩⟩
  · intro xs r h
    refine Eq.trans (Eq.symm ?_) h
    kernel_rfl
@[reducible] noncomputable def e_laws_eqFrame : FnE := { f := 56, args := [tyFrame, tyFrame], res := [.bool], F := fun xs => laws_eqFrame xs.1 xs.2.1 }
theorem ok_laws_eqFrame : FnOK Tryd.prog glob e_laws_eqFrame := by
  refine FnOK.of (e := e_laws_eqFrame) (C := cfg []) (cfg_ok env_nil) Tryd.func56 (c := codeOf Tryd.f56) rfl Tryd.call56 (by decide)
    (.leaf) ?_ ?_
  · exact conds_leaf _ _
  · intro xs r h
    refine Eq.trans (Eq.symm ?_) h
    kernel_rfl
@[reducible] noncomputable def e_laws_eqFrameS : FnE := { f := 30, args := [.slice 47 (tyFrame), .slice 47 (tyFrame)], res := [.bool], F := fun xs => laws_eqFrameS xs.1 xs.2.1 }
theorem ok_laws_eqFrameS : FnOK Tryd.prog glob e_laws_eqFrameS := by
  refine FnOK.of (e := e_laws_eqFrameS) (C := cfg [e_laws_eqFrame]) (cfg_ok (env_cons ok_laws_eqFrame env_nil)) Tryd.func30 (c := codeOf Tryd.f30) rfl Tryd.call30 (by decide)
    ((.seq .leaf (.seq .leaf (.seq (.seq .leaf (.block (.loop laws_eqFrameS_l1_p (fun N v => laws_eqFrameS_l1 N v.1 v.2.1 v.2.2.1) (fun v => laws_eqFrameS_l1_fuel v.1 v.2.1 v.2.2.1) (fun K1 => .leaf)))) .leaf)))) ?_ ?_
  · exact ⟨conds_leaf _ _, ⟨conds_leaf _ _, ⟨⟨conds_leaf _ _, ⟨fun _ => rfl, fun N => ⟨(fun v => by kernel_rfl), conds_leaf _ _⟩⟩⟩, conds_leaf _ _⟩⟩⟩
  · intro xs r h
    refine Eq.trans (Eq.symm ?_) h
    kernel_rfl
@[reducible] noncomputable def e_laws_FnExactFormatFrames : FnE := { f := 7, args := [.slice 44 (tyFrame)], res := [.bool], F := fun xs => laws_FnExactFormatFrames xs.1 }
theorem ok_laws_FnExactFormatFrames : FnOK Tryd.prog glob e_laws_FnExactFormatFrames := by
  refine FnOK.of (e := e_laws_FnExactFormatFrames) (C := cfg [e_laws_szFrameS, e_laws_toFrameS, e_spec_FormatFrames, e_impl_FormatFrames, e_laws_eqFrameS]) (cfg_ok (env_cons ok_laws_szFrameS (env_cons ok_laws_toFrameS (env_cons ok_spec_FormatFrames (env_cons ok_impl_FormatFrames (env_cons ok_laws_eqFrameS env_nil)))))) Tryd.func7 (c := codeOf Tryd.f7) rfl Tryd.call7 (by decide)
    (.leaf) ?_ ?_
  · exact conds_leaf _ _
  · intro xs r h
    refine Eq.trans (Eq.symm ?_) h
    kernel_rfl
end Go.Proofs.YtifcipnimblkpabDoor

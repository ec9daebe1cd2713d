/- FnExactOrderOf: what the functions that it reaches compute, as plain functions, and that they do so. No condition. -/
import Derived.Test.YtifcipnimblkpaaRows
import Derived.Test.YtifcipnimblkpaaAm4
namespace Go.Proofs.Ytifcipnimblkpaa
open Go.Am
set_option maxRecDepth 100000
set_option linter.unusedVariables false

@[reducible] def tyFrame : Ty := .pair (.int .i64) (.pair (.int .i64) (.pair (.int .i64) (.pair (.str) (.pair (.bool) (.pair (.int .i64) (.pair (.int .i64) (.pair (.int .i64) (.pair (.bool) (.unit)))))))))
@[reducible] def TFrame : Type := Int × Int × Int × List UInt8 × Bool × Int × Int × Int × Bool × Unit
def zFrame : TFrame := ((0 : Int), ((0 : Int), ((0 : Int), (([] : List UInt8), (false, ((0 : Int), ((0 : Int), ((0 : Int), (false, ())))))))))
noncomputable def laws_szFrame (a0 : TFrame) (left1 : Int) : Option (Int × Unit) :=
  let t9 : Int := IntKind.i64.wrap (left1 - (a0.2.2.2.1.length : Int))
  bif decide (t9 < (0 : Int)) then
    some ((-1 : Int), ())
  else
    some (t9, ())
@[reducible] def laws_szFrameS_l1_p : List PE := [.val 0 (.slice 69 (tyFrame)) (.u false), .val 1 (.int .i64) (.u false), .val 5 (.int .i64) (.u false)]
def laws_szFrameS_l1_fuel (a0_1 : List TFrame) (left1_1 : Int) (i5 : Int) : Nat := ((a0_1.length : Int) - i5).toNat + 1
noncomputable def laws_szFrameS_l1 : Nat → List TFrame → Int → Int → Option (Int × Unit)
  | 0, _, _, _ => none
  | N + 1, a0_1, left1_1, i5 =>
    bif decide (i5 < (a0_1.length : Int)) then
      guardP (0 ≤ i5 ∧ i5 < a0_1.length) <|
      Option.bind (laws_szFrame (a0_1.getD i5.toNat zFrame) left1_1) fun t23 =>
      bif decide (t23.1 < (0 : Int)) then
        some ((-1 : Int), ())
      else
        laws_szFrameS_l1 N a0_1 t23.1 (IntKind.i64.wrap (i5 + (1 : Int)))
    else
      some (left1_1, ())
noncomputable def laws_szFrameS (a0 : List TFrame) (left1 : Int) : Option (Int × Unit) :=
  let t9 : Int := IntKind.i64.wrap (left1 - (a0.length : Int))
  bif decide (t9 < (0 : Int)) then
    some ((-1 : Int), ())
  else
    laws_szFrameS_l1 (laws_szFrameS_l1_fuel a0 t9 (0 : Int)) a0 t9 (0 : Int)
noncomputable def laws_toFrame (a0 : TFrame) : Option (TFrame × Unit) :=
  some ((a0.1, (a0.2.1, (a0.2.2.1, (a0.2.2.2.1, (a0.2.2.2.2.1, (a0.2.2.2.2.2.1, (a0.2.2.2.2.2.2.1, (a0.2.2.2.2.2.2.2.1, (a0.2.2.2.2.2.2.2.2.1, ()))))))))), ())
@[reducible] def laws_toFrameS_l1_p : List PE := [.val 0 (.slice 69 (tyFrame)) (.u false), .val 3 (.slice 70 (tyFrame)) (.u true), .val 4 (.int .i64) (.u false)]
def laws_toFrameS_l1_fuel (a0_1 : List TFrame) (out3 : List TFrame) (i4 : Int) : Nat := ((a0_1.length : Int) - i4).toNat + 1
noncomputable def laws_toFrameS_l1 : Nat → List TFrame → List TFrame → Int → Option (List TFrame × Unit)
  | 0, _, _, _ => none
  | N + 1, a0_1, out3, i4 =>
    bif decide (i4 < (a0_1.length : Int)) then
      guardP (0 ≤ i4 ∧ i4 < a0_1.length) <|
      Option.bind (laws_toFrame (a0_1.getD i4.toNat zFrame)) fun t20 =>
      guardP (0 ≤ i4 ∧ i4 < out3.length) <|
      laws_toFrameS_l1 N a0_1 (out3.set i4.toNat t20.1) (IntKind.i64.wrap (i4 + (1 : Int)))
    else
      some (out3, ())
noncomputable def laws_toFrameS (a0 : List TFrame) : Option (List TFrame × Unit) :=
  guardP (0 ≤ (a0.length : Int) ∧ (a0.length : Int) ≤ (a0.length : Int) ∧ (a0.length : Int) ≤ capN) <|
  let t7 : List TFrame := List.replicate (a0.length : Int).toNat zFrame
  laws_toFrameS_l1 (laws_toFrameS_l1_fuel a0 t7 (0 : Int)) a0 t7 (0 : Int)
@[reducible] def spec_OrderOf_j1_p : List PE := [.val 0 (.slice 70 (tyFrame)) (.u false), .val 3 (.slice 3 (.int .i64)) (.u true), .val 4 (.int .i64) (.u false)]
noncomputable def spec_OrderOf_j1 (K1 : (List TFrame × List Int × Int × Unit) → Option (List Int × Unit)) (l0_2 : List TFrame) (out3_1 : List Int) (i4_1 : Int) : Option (List Int × Unit) :=
  K1 (l0_2, out3_1, IntKind.i64.wrap (i4_1 + (1 : Int)), ())
@[reducible] def spec_OrderOf_l1_p : List PE := [.val 0 (.slice 70 (tyFrame)) (.u false), .val 3 (.slice 3 (.int .i64)) (.u true), .val 4 (.int .i64) (.u false)]
def spec_OrderOf_l1_fuel (l0_1 : List TFrame) (out3 : List Int) (i4 : Int) : Nat := ((l0_1.length : Int) - i4).toNat + 1
noncomputable def spec_OrderOf_l1 : Nat → List TFrame → List Int → Int → Option (List Int × Unit)
  | 0, _, _, _ => none
  | N + 1, l0_1, out3, i4 =>
    bif decide (i4 < (l0_1.length : Int)) then
      guardP (0 ≤ i4 ∧ i4 < l0_1.length) <|
      bif (l0_1.getD i4.toNat zFrame).1 == (8 : Int) then
        guardP (0 ≤ i4 ∧ i4 < l0_1.length) <|
        guardP (out3.length + ([(l0_1.getD i4.toNat zFrame).2.1]).length ≤ capN) <|
        spec_OrderOf_j1 (fun v => spec_OrderOf_l1 N v.1 v.2.1 v.2.2.1) l0_1 (out3 ++ ([(l0_1.getD i4.toNat zFrame).2.1])) i4
      else
        spec_OrderOf_j1 (fun v => spec_OrderOf_l1 N v.1 v.2.1 v.2.2.1) l0_1 out3 i4
    else
      some (out3, ())
noncomputable def spec_OrderOf (l0 : List TFrame) : Option (List Int × Unit) :=
  spec_OrderOf_l1 (spec_OrderOf_l1_fuel l0 ([] : List Int) (0 : Int)) l0 ([] : List Int) (0 : Int)
@[reducible] def impl_OrderOf_l1_p : List PE := [.val 3 (.slice 3 (.int .i64)) (.u true), .val 7 (.slice 70 (tyFrame)) (.u false), .val 8 (.int .i64) (.u false), .val 9 (.int .i64) (.u false)]
def impl_OrderOf_l1_fuel (out3 : List Int) (t7 : List TFrame) (t8_1 : Int) (t9 : Int) : Nat := (t8_1 - t9).toNat + 1
noncomputable def impl_OrderOf_l1 : Nat → List Int → List TFrame → Int → Int → Option (List Int × Unit)
  | 0, _, _, _, _ => none
  | N + 1, out3, t7, t8_1, t9 =>
    bif decide (t9 < t8_1) then
      guardP (0 ≤ t9 ∧ t9 < t7.length) <|
      bif (t7.getD t9.toNat zFrame).1 == (8 : Int) then
        guardP (out3.length + ([(t7.getD t9.toNat zFrame).2.1]).length ≤ capN) <|
        impl_OrderOf_l1 N (out3 ++ ([(t7.getD t9.toNat zFrame).2.1])) t7 t8_1 (IntKind.i64.wrap (t9 + (1 : Int)))
      else
        impl_OrderOf_l1 N out3 t7 t8_1 (IntKind.i64.wrap (t9 + (1 : Int)))
    else
      some (out3, ())
noncomputable def impl_OrderOf (l0 : List TFrame) : Option (List Int × Unit) :=
  impl_OrderOf_l1 (impl_OrderOf_l1_fuel ([] : List Int) l0 (l0.length : Int) (0 : Int)) ([] : List Int) l0 (l0.length : Int) (0 : Int)
@[reducible] def laws_eqIntS_l1_p : List PE := [.val 0 (.slice 3 (.int .i64)) (.u false), .val 1 (.slice 3 (.int .i64)) (.u false), .val 5 (.int .i64) (.u false)]
def laws_eqIntS_l1_fuel (a0_1 : List Int) (b1_1 : List Int) (i5 : Int) : Nat := ((a0_1.length : Int) - i5).toNat + 1
noncomputable def laws_eqIntS_l1 : Nat → List Int → List Int → Int → Option (Bool × Unit)
  | 0, _, _, _ => none
  | N + 1, a0_1, b1_1, i5 =>
    bif decide (i5 < (a0_1.length : Int)) then
      guardP (0 ≤ i5 ∧ i5 < a0_1.length) <|
      guardP (0 ≤ i5 ∧ i5 < b1_1.length) <|
      bif (a0_1.getD i5.toNat (0 : Int)) != (b1_1.getD i5.toNat (0 : Int)) then
        some (false, ())
      else
        laws_eqIntS_l1 N a0_1 b1_1 (IntKind.i64.wrap (i5 + (1 : Int)))
    else
      some (true, ())
noncomputable def laws_eqIntS (a0 : List Int) (b1 : List Int) : Option (Bool × Unit) :=
  bif (a0.length : Int) != (b1.length : Int) then
    some (false, ())
  else
    laws_eqIntS_l1 (laws_eqIntS_l1_fuel a0 b1 (0 : Int)) a0 b1 (0 : Int)
noncomputable def laws_eqFrame (a0 : TFrame) (b1 : TFrame) : Option (Bool × Unit) :=
  bif a0.1 != b1.1 then
    some (false, ())
  else
    bif a0.2.1 != b1.2.1 then
      some (false, ())
    else
      bif a0.2.2.1 != b1.2.2.1 then
        some (false, ())
      else
        bif !(a0.2.2.2.1 == b1.2.2.2.1) then
          some (false, ())
        else
          bif !(a0.2.2.2.2.1 == b1.2.2.2.2.1) then
            some (false, ())
          else
            bif a0.2.2.2.2.2.1 != b1.2.2.2.2.2.1 then
              some (false, ())
            else
              bif a0.2.2.2.2.2.2.1 != b1.2.2.2.2.2.2.1 then
                some (false, ())
              else
                bif a0.2.2.2.2.2.2.2.1 != b1.2.2.2.2.2.2.2.1 then
                  some (false, ())
                else
                  bif !(a0.2.2.2.2.2.2.2.2.1 == b1.2.2.2.2.2.2.2.2.1) then
                    some (false, ())
                  else
                    some (true, ())
@[reducible] def laws_eqFrameS_l1_p : List PE := [.val 0 (.slice 70 (tyFrame)) (.u false), .val 1 (.slice 70 (tyFrame)) (.u false), .val 5 (.int .i64) (.u false)]
def laws_eqFrameS_l1_fuel (a0_1 : List TFrame) (b1_1 : List TFrame) (i5 : Int) : Nat := ((a0_1.length : Int) - i5).toNat + 1
noncomputable def laws_eqFrameS_l1 : Nat → List TFrame → List TFrame → Int → Option (Bool × Unit)
  | 0, _, _, _ => none
  | N + 1, a0_1, b1_1, i5 =>
    bif decide (i5 < (a0_1.length : Int)) then
      guardP (0 ≤ i5 ∧ i5 < a0_1.length) <|
      guardP (0 ≤ i5 ∧ i5 < b1_1.length) <|
      Option.bind (laws_eqFrame (a0_1.getD i5.toNat zFrame) (b1_1.getD i5.toNat zFrame)) fun t25 =>
      bif !t25.1 then
        some (false, ())
      else
        laws_eqFrameS_l1 N a0_1 b1_1 (IntKind.i64.wrap (i5 + (1 : Int)))
    else
      some (true, ())
noncomputable def laws_eqFrameS (a0 : List TFrame) (b1 : List TFrame) : Option (Bool × Unit) :=
  bif (a0.length : Int) != (b1.length : Int) then
    some (false, ())
  else
    laws_eqFrameS_l1 (laws_eqFrameS_l1_fuel a0 b1 (0 : Int)) a0 b1 (0 : Int)
@[reducible] def laws_markText_l1_p : List PE := [.val 0 (.int .i64) (.u false), .val 3 (.str) (.u false)]
def laws_markText_l1_fuel (k0_1 : Int) (out3_1 : List UInt8) : Nat := (k0_1 - (0 : Int)).toNat + 1
noncomputable def laws_markText_l1 : Nat → Int → List UInt8 → Option (List UInt8 × Unit)
  | 0, _, _ => none
  | N + 1, k0_1, out3_1 =>
    bif decide (k0_1 > (0 : Int)) then
      guardP ((10 : Int) ≠ 0) <|
      let t13 : List UInt8 := bytesOf ([(IntKind.u8.wrap (IntKind.i64.wrap ((48 : Int) + (Int.tmod k0_1 (10 : Int)))))])
      guardP (t13.length + out3_1.length ≤ capS) <|
      guardP ((10 : Int) ≠ 0) <|
      laws_markText_l1 N (IntKind.i64.wrap (Int.tdiv k0_1 (10 : Int))) (t13 ++ out3_1)
    else
      guardP (([109] : List UInt8).length + out3_1.length ≤ capS) <|
      some (([109] : List UInt8) ++ out3_1, ())
noncomputable def laws_markText (k0 : Int) : Option (List UInt8 × Unit) :=
  bif decide (k0 ≤ (0 : Int)) then
    some (([109, 48] : List UInt8), ())
  else
    laws_markText_l1 (laws_markText_l1_fuel k0 ([] : List UInt8)) k0 ([] : List UInt8)
@[reducible] def laws_markFrameS_l1_p : List PE := [.val 0 (.slice 70 (tyFrame)) (.u true), .val 1 (.int .i64) (.u false), .val 5 (.int .i64) (.u false)]
def laws_markFrameS_l1_fuel (a0_1 : List TFrame) (k1_1 : Int) (i5 : Int) : Nat := ((a0_1.length : Int) - i5).toNat + 1
noncomputable def laws_markFrameS_l1 : Nat → List TFrame → Int → Int → Option ((Int × Unit) × List TFrame)
  | 0, _, _, _ => none
  | N + 1, a0_1, k1_1, i5 =>
    bif decide (i5 < (a0_1.length : Int)) then
      guardP (0 ≤ i5 ∧ i5 < a0_1.length) <|
      let a0_2 : List TFrame := a0_1.set i5.toNat (k1_1, (a0_1.getD i5.toNat zFrame).2)
      guardP (0 ≤ i5 ∧ i5 < a0_2.length) <|
      let a0_3 : List TFrame := a0_2.set i5.toNat ((a0_2.getD i5.toNat zFrame).1, (IntKind.i64.wrap (k1_1 + (1 : Int)), (a0_2.getD i5.toNat zFrame).2.2))
      let t25 : Int := IntKind.i64.wrap ((IntKind.i64.wrap (k1_1 + (1 : Int))) + (1 : Int))
      guardP (0 ≤ i5 ∧ i5 < a0_3.length) <|
      let a0_4 : List TFrame := a0_3.set i5.toNat ((a0_3.getD i5.toNat zFrame).1, ((a0_3.getD i5.toNat zFrame).2.1, (t25, (a0_3.getD i5.toNat zFrame).2.2.2)))
      Option.bind (laws_markText (IntKind.i64.wrap (t25 + (1 : Int)))) fun t36 =>
      guardP (0 ≤ i5 ∧ i5 < a0_4.length) <|
      let a0_5 : List TFrame := a0_4.set i5.toNat ((a0_4.getD i5.toNat zFrame).1, ((a0_4.getD i5.toNat zFrame).2.1, ((a0_4.getD i5.toNat zFrame).2.2.1, (t36.1, (a0_4.getD i5.toNat zFrame).2.2.2.2))))
      let t40 : Int := IntKind.i64.wrap ((IntKind.i64.wrap (t25 + (1 : Int))) + (1 : Int))
      guardP ((3 : Int) ≠ 0) <|
      guardP (0 ≤ i5 ∧ i5 < a0_5.length) <|
      let a0_6 : List TFrame := a0_5.set i5.toNat ((a0_5.getD i5.toNat zFrame).1, ((a0_5.getD i5.toNat zFrame).2.1, ((a0_5.getD i5.toNat zFrame).2.2.1, ((a0_5.getD i5.toNat zFrame).2.2.2.1, ((Int.tmod t40 (3 : Int)) == (0 : Int), (a0_5.getD i5.toNat zFrame).2.2.2.2.2)))))
      guardP (0 ≤ i5 ∧ i5 < a0_6.length) <|
      let a0_7 : List TFrame := a0_6.set i5.toNat ((a0_6.getD i5.toNat zFrame).1, ((a0_6.getD i5.toNat zFrame).2.1, ((a0_6.getD i5.toNat zFrame).2.2.1, ((a0_6.getD i5.toNat zFrame).2.2.2.1, ((a0_6.getD i5.toNat zFrame).2.2.2.2.1, (IntKind.i64.wrap (t40 + (1 : Int)), (a0_6.getD i5.toNat zFrame).2.2.2.2.2.2))))))
      let t56 : Int := IntKind.i64.wrap ((IntKind.i64.wrap (t40 + (1 : Int))) + (1 : Int))
      guardP (0 ≤ i5 ∧ i5 < a0_7.length) <|
      let a0_8 : List TFrame := a0_7.set i5.toNat ((a0_7.getD i5.toNat zFrame).1, ((a0_7.getD i5.toNat zFrame).2.1, ((a0_7.getD i5.toNat zFrame).2.2.1, ((a0_7.getD i5.toNat zFrame).2.2.2.1, ((a0_7.getD i5.toNat zFrame).2.2.2.2.1, ((a0_7.getD i5.toNat zFrame).2.2.2.2.2.1, (t56, (a0_7.getD i5.toNat zFrame).2.2.2.2.2.2.2)))))))
      guardP (0 ≤ i5 ∧ i5 < a0_8.length) <|
      let a0_9 : List TFrame := a0_8.set i5.toNat ((a0_8.getD i5.toNat zFrame).1, ((a0_8.getD i5.toNat zFrame).2.1, ((a0_8.getD i5.toNat zFrame).2.2.1, ((a0_8.getD i5.toNat zFrame).2.2.2.1, ((a0_8.getD i5.toNat zFrame).2.2.2.2.1, ((a0_8.getD i5.toNat zFrame).2.2.2.2.2.1, ((a0_8.getD i5.toNat zFrame).2.2.2.2.2.2.1, (IntKind.i64.wrap (t56 + (1 : Int)), (a0_8.getD i5.toNat zFrame).2.2.2.2.2.2.2.2))))))))
      let t70 : Int := IntKind.i64.wrap ((IntKind.i64.wrap (t56 + (1 : Int))) + (1 : Int))
      guardP ((3 : Int) ≠ 0) <|
      guardP (0 ≤ i5 ∧ i5 < a0_9.length) <|
      laws_markFrameS_l1 N (a0_9.set i5.toNat ((a0_9.getD i5.toNat zFrame).1, ((a0_9.getD i5.toNat zFrame).2.1, ((a0_9.getD i5.toNat zFrame).2.2.1, ((a0_9.getD i5.toNat zFrame).2.2.2.1, ((a0_9.getD i5.toNat zFrame).2.2.2.2.1, ((a0_9.getD i5.toNat zFrame).2.2.2.2.2.1, ((a0_9.getD i5.toNat zFrame).2.2.2.2.2.2.1, ((a0_9.getD i5.toNat zFrame).2.2.2.2.2.2.2.1, ((Int.tmod t70 (3 : Int)) == (0 : Int), (a0_9.getD i5.toNat zFrame).2.2.2.2.2.2.2.2.2)))))))))) (IntKind.i64.wrap (t70 + (1 : Int))) (IntKind.i64.wrap (i5 + (1 : Int)))
    else
      some ((k1_1, ()), a0_1)
noncomputable def laws_markFrameS (a0 : List TFrame) (k1 : Int) : Option ((Int × Unit) × List TFrame) :=
  laws_markFrameS_l1 (laws_markFrameS_l1_fuel a0 k1 (0 : Int)) a0 k1 (0 : Int)
@[reducible] def laws_markIntS_l1_p : List PE := [.val 0 (.slice 3 (.int .i64)) (.u true), .val 1 (.int .i64) (.u false), .val 5 (.int .i64) (.u false)]
def laws_markIntS_l1_fuel (a0_1 : List Int) (k1_1 : Int) (i5 : Int) : Nat := ((a0_1.length : Int) - i5).toNat + 1
noncomputable def laws_markIntS_l1 : Nat → List Int → Int → Int → Option ((Int × Unit) × List Int)
  | 0, _, _, _ => none
  | N + 1, a0_1, k1_1, i5 =>
    bif decide (i5 < (a0_1.length : Int)) then
      guardP (0 ≤ i5 ∧ i5 < a0_1.length) <|
      laws_markIntS_l1 N (a0_1.set i5.toNat k1_1) (IntKind.i64.wrap (k1_1 + (1 : Int))) (IntKind.i64.wrap (i5 + (1 : Int)))
    else
      some ((k1_1, ()), a0_1)
noncomputable def laws_markIntS (a0 : List Int) (k1 : Int) : Option ((Int × Unit) × List Int) :=
  laws_markIntS_l1 (laws_markIntS_l1_fuel a0 k1 (0 : Int)) a0 k1 (0 : Int)
@[reducible] def laws_heldIntS_l1_p : List PE := [.val 0 (.slice 3 (.int .i64)) (.u false), .val 1 (.int .i64) (.u false), .val 5 (.int .i64) (.u false)]
def laws_heldIntS_l1_fuel (a0_1 : List Int) (k1_1 : Int) (i5 : Int) : Nat := ((a0_1.length : Int) - i5).toNat + 1
noncomputable def laws_heldIntS_l1 : Nat → List Int → Int → Int → Option (Int × Unit)
  | 0, _, _, _ => none
  | N + 1, a0_1, k1_1, i5 =>
    bif decide (i5 < (a0_1.length : Int)) then
      guardP (0 ≤ i5 ∧ i5 < a0_1.length) <|
      bif (a0_1.getD i5.toNat (0 : Int)) != k1_1 then
        some ((-1 : Int), ())
      else
        laws_heldIntS_l1 N a0_1 (IntKind.i64.wrap (k1_1 + (1 : Int))) (IntKind.i64.wrap (i5 + (1 : Int)))
    else
      some (k1_1, ())
noncomputable def laws_heldIntS (a0 : List Int) (k1 : Int) : Option (Int × Unit) :=
  laws_heldIntS_l1 (laws_heldIntS_l1_fuel a0 k1 (0 : Int)) a0 k1 (0 : Int)
noncomputable def laws_FnExactOrderOf (aL0 : List TFrame) : Option (Bool × Unit) :=
  Option.bind (laws_szFrameS aL0 (1048576 : Int)) fun t13 =>
  bif decide (t13.1 < (0 : Int)) then
    some (true, ())
  else
    Option.bind (laws_toFrameS aL0) fun t17 =>
    Option.bind (spec_OrderOf t17.1) fun t18 =>
    Option.bind (laws_toFrameS aL0) fun t20 =>
    Option.bind (impl_OrderOf t20.1) fun t22 =>
    Option.bind (laws_eqIntS t22.1 t18.1) fun t25 =>
    bif !t25.1 then
      some (false, ())
    else
      Option.bind (laws_toFrameS aL0) fun t29 =>
      Option.bind (laws_eqFrameS t20.1 t29.1) fun t30 =>
      bif !t30.1 then
        some (false, ())
      else
        Option.bind (laws_markFrameS t20.1 (1 : Int)) fun t34 =>
        Option.bind (bif (decide (t34.1.1 < (0 : Int))) then some (false, ()) else (laws_eqIntS t22.1 t18.1)) fun t40 =>
        bif (decide (t34.1.1 < (0 : Int))) || (!t40.1) then
          some (false, ())
        else
          Option.bind (laws_markIntS t22.1 (1 : Int)) fun t45 =>
          Option.bind (laws_heldIntS t45.2 (1 : Int)) fun t48 =>
          bif decide (t48.1 < (0 : Int)) then
            some (false, ())
          else
            bif t48.1 != t45.1.1 then
              some (false, ())
            else
              Option.bind (laws_toFrameS aL0) fun t55 =>
              Option.bind (impl_OrderOf t55.1) fun t56 =>
              Option.bind (laws_eqIntS t56.1 t18.1) fun t59 =>
              bif !t59.1 then
                some (false, ())
              else
                Option.bind (laws_heldIntS t45.2 (1 : Int)) fun t63 =>
                bif decide (t63.1 < (0 : Int)) then
                  some (false, ())
                else
                  bif t63.1 != t45.1.1 then
                    some (false, ())
                  else
                    some (true, ())
def tab : Tab := lookT [(3, .int .i64), (4, .bool), (5, .int .u8), (9, .str), (22, .slice 69 (tyFrame)), (24, .slice 3 (.int .i64)), (26, .slice 70 (tyFrame)), (48, .slice 5 (.int .u8)), (69, tyFrame), (70, tyFrame)]
theorem tok_3 : TOK Try.prog 3 (.int .i64) := ⟨by kernel_rfl, by kernel_rfl⟩
theorem tok_4 : TOK Try.prog 4 (.bool) := ⟨by kernel_rfl, by kernel_rfl⟩
theorem tok_5 : TOK Try.prog 5 (.int .u8) := ⟨by kernel_rfl, by kernel_rfl⟩
theorem tok_9 : TOK Try.prog 9 (.str) := ⟨by kernel_rfl, by kernel_rfl⟩
theorem tok_22 : TOK Try.prog 22 (.slice 69 (tyFrame)) := ⟨by kernel_rfl, by kernel_rfl⟩
theorem tok_24 : TOK Try.prog 24 (.slice 3 (.int .i64)) := ⟨by kernel_rfl, by kernel_rfl⟩
theorem tok_26 : TOK Try.prog 26 (.slice 70 (tyFrame)) := ⟨by kernel_rfl, by kernel_rfl⟩
theorem tok_48 : TOK Try.prog 48 (.slice 5 (.int .u8)) := ⟨by kernel_rfl, by kernel_rfl⟩
theorem tok_69 : TOK Try.prog 69 (tyFrame) := ⟨by kernel_rfl, by kernel_rfl⟩
theorem tok_70 : TOK Try.prog 70 (tyFrame) := ⟨by kernel_rfl, by kernel_rfl⟩
theorem tab_ok : tab.ok Try.prog := (tab_cons tok_3 (tab_cons tok_4 (tab_cons tok_5 (tab_cons tok_9 (tab_cons tok_22 (tab_cons tok_24 (tab_cons tok_26 (tab_cons tok_48 (tab_cons tok_69 (tab_cons tok_70 tab_nil))))))))))
abbrev glob : Glob := Glob.none
def eqsL : List Nat := []
theorem eqs_ok : EqsL Try.prog tab eqsL := eqs_nil
@[reducible] def cfg (Γ : Env) (ΓL : EnvL) : Cfg := { τ := tab, eq := fun e => eqsL.any (Nat.beq e), Γ := Γ, ΓL := ΓL }
@[reducible] def cfgL (Γ : Env) (ΓL : EnvL) : Cfg := { τ := tab, eq := fun e => eqsL.any (Nat.beq e), Γ := Γ, ΓL := ΓL, lent := some 0 }
theorem cfg_ok {Γ : Env} {ΓL : EnvL} (h : Γ.ok Try.prog glob) (hL : ΓL.ok Try.prog glob) : (cfg Γ ΓL).ok Try.prog glob := ⟨tab_ok, eqs_ok, h, by kernel_rfl, hL⟩
theorem cfgL_ok {Γ : Env} {ΓL : EnvL} (h : Γ.ok Try.prog glob) (hL : ΓL.ok Try.prog glob) : (cfgL Γ ΓL).ok Try.prog glob := ⟨tab_ok, eqs_ok, h, by kernel_rfl, hL⟩
@[reducible] noncomputable def e_laws_szFrame : FnE := { f := 51, args := [tyFrame, .int .i64], res := [.int .i64], F := fun xs => laws_szFrame xs.1 xs.2.1 }
theorem ok_laws_szFrame : FnOK Try.prog glob e_laws_szFrame := by
  refine FnOK.of (e := e_laws_szFrame) (C := cfg [] []) (cfg_ok env_nil envL_nil) Try.func51 (c := codeOf Try.f51) rfl Try.call51 (by decide)
    (.leaf) ?_ ?_
  · exact conds_leaf _ _
  · intro xs r h
    refine Eq.trans (Eq.symm ?_) h
    kernel_rfl
@[reducible] noncomputable def e_laws_szFrameS : FnE := { f := 9, args := [.slice 69 (tyFrame), .int .i64], res := [.int .i64], F := fun xs => laws_szFrameS xs.1 xs.2.1 }
theorem ok_laws_szFrameS : FnOK Try.prog glob e_laws_szFrameS := by
  refine FnOK.of (e := e_laws_szFrameS) (C := cfg [e_laws_szFrame] []) (cfg_ok (env_cons ok_laws_szFrame env_nil) envL_nil) Try.func9 (c := codeOf Try.f9) rfl Try.call9 (by decide)
    ((.seq .leaf (.seq .leaf (.seq .leaf (.seq (.seq .leaf (.block (.loop laws_szFrameS_l1_p (fun N v => laws_szFrameS_l1 N v.1 v.2.1 v.2.2.1) (fun v => laws_szFrameS_l1_fuel v.1 v.2.1 v.2.2.1) (fun K1 => .leaf)))) .leaf))))) ?_ ?_
  · exact ⟨conds_leaf _ _, ⟨conds_leaf _ _, ⟨conds_leaf _ _, ⟨⟨conds_leaf _ _, ⟨fun _ => rfl, fun N => ⟨(fun v => by kernel_rfl), conds_leaf _ _⟩⟩⟩, conds_leaf _ _⟩⟩⟩⟩
  · intro xs r h
    refine Eq.trans (Eq.symm ?_) h
    kernel_rfl
@[reducible] noncomputable def e_laws_toFrame : FnE := { f := 52, args := [tyFrame], res := [tyFrame], F := fun xs => laws_toFrame xs.1 }
theorem ok_laws_toFrame : FnOK Try.prog glob e_laws_toFrame := by
  refine FnOK.of (e := e_laws_toFrame) (C := cfg [] []) (cfg_ok env_nil envL_nil) Try.func52 (c := codeOf Try.f52) rfl Try.call52 (by decide)
    (.leaf) ?_ ?_
  · exact conds_leaf _ _
  · intro xs r h
    refine Eq.trans (Eq.symm ?_) h
    kernel_rfl
@[reducible] noncomputable def e_laws_toFrameS : FnE := { f := 11, args := [.slice 69 (tyFrame)], res := [.slice 70 (tyFrame)], F := fun xs => laws_toFrameS xs.1 }
theorem ok_laws_toFrameS : FnOK Try.prog glob e_laws_toFrameS := by
  refine FnOK.of (e := e_laws_toFrameS) (C := cfg [e_laws_toFrame] []) (cfg_ok (env_cons ok_laws_toFrame env_nil) envL_nil) Try.func11 (c := codeOf Try.f11) rfl Try.call11 (by decide)
    ((.seq .leaf (.seq .leaf (.seq (.seq .leaf (.block (.loop laws_toFrameS_l1_p (fun N v => laws_toFrameS_l1 N v.1 v.2.1 v.2.2.1) (fun v => laws_toFrameS_l1_fuel v.1 v.2.1 v.2.2.1) (fun K1 => .leaf)))) .leaf)))) ?_ ?_
  · exact ⟨conds_leaf _ _, ⟨conds_leaf _ _, ⟨⟨conds_leaf _ _, ⟨fun _ => rfl, fun N => ⟨(fun v => by kernel_rfl), conds_leaf _ _⟩⟩⟩, conds_leaf _ _⟩⟩⟩
  · intro xs r h
    refine Eq.trans (Eq.symm ?_) h
    kernel_rfl
@[reducible] noncomputable def e_spec_OrderOf : FnE := { f := 10, args := [.slice 70 (tyFrame)], res := [.slice 3 (.int .i64)], F := fun xs => spec_OrderOf xs.1 }
theorem ok_spec_OrderOf : FnOK Try.prog glob e_spec_OrderOf := by
  refine FnOK.of (e := e_spec_OrderOf) (C := cfg [] []) (cfg_ok env_nil envL_nil) Try.func10 (c := codeOf Try.f10) rfl Try.call10 (by decide)
    ((.seq .leaf (.seq .leaf (.seq (.seq .leaf (.block (.loop spec_OrderOf_l1_p (fun N v => spec_OrderOf_l1 N v.1 v.2.1 v.2.2.1) (fun v => spec_OrderOf_l1_fuel v.1 v.2.1 v.2.2.1) (fun K1 => (.seq .leaf (.join spec_OrderOf_j1_p (fun v => spec_OrderOf_j1 K1 v.1 v.2.1 v.2.2.1) .leaf .leaf)))))) .leaf)))) ?_ ?_
  · exact ⟨conds_leaf _ _, ⟨conds_leaf _ _, ⟨⟨conds_leaf _ _, ⟨fun _ => rfl, fun N => ⟨(fun v => by kernel_rfl), ⟨conds_leaf _ _, ⟨conds_leaf _ _, (fun v => by kernel_rfl), conds_leaf _ _⟩⟩⟩⟩⟩, conds_leaf _ _⟩⟩⟩
  · intro xs r h
    refine Eq.trans (Eq.symm ?_) h
    kernel_rfl
@[reducible] noncomputable def e_impl_OrderOf : FnE := { f := 12, args := [.slice 70 (tyFrame)], res := [.slice 3 (.int .i64)], F := fun xs => impl_OrderOf xs.1 }
theorem ok_impl_OrderOf : FnOK Try.prog glob e_impl_OrderOf := by
  refine FnOK.of (e := e_impl_OrderOf) (C := cfg [] []) (cfg_ok env_nil envL_nil) Try.func12 (c := codeOf Try.f12) rfl Try.call12 (by decide)
    ((.seq .leaf (.seq .leaf (.seq (.seq .leaf (.block (.loop impl_OrderOf_l1_p (fun N v => impl_OrderOf_l1 N v.1 v.2.1 v.2.2.1 v.2.2.2.1) (fun v => impl_OrderOf_l1_fuel v.1 v.2.1 v.2.2.1 v.2.2.2.1) (fun K1 => .leaf)))) .leaf)))) ?_ ?_
  · exact ⟨conds_leaf _ _, ⟨conds_leaf _ _, ⟨⟨conds_leaf _ _, ⟨fun _ => rfl, fun N => ⟨(fun v => by kernel_rfl), conds_leaf _ _⟩⟩⟩, conds_leaf _ _⟩⟩⟩
  · intro xs r h
    refine Eq.trans (Eq.symm ?_) h
    kernel_rfl
@[reducible] noncomputable def e_laws_eqIntS : FnE := { f := 13, args := [.slice 3 (.int .i64), .slice 3 (.int .i64)], res := [.bool], F := fun xs => laws_eqIntS xs.1 xs.2.1 }
theorem ok_laws_eqIntS : FnOK Try.prog glob e_laws_eqIntS := by
  refine FnOK.of (e := e_laws_eqIntS) (C := cfg [] []) (cfg_ok env_nil envL_nil) Try.func13 (c := codeOf Try.f13) rfl Try.call13 (by decide)
    ((.seq .leaf (.seq .leaf (.seq (.seq .leaf (.block (.loop laws_eqIntS_l1_p (fun N v => laws_eqIntS_l1 N v.1 v.2.1 v.2.2.1) (fun v => laws_eqIntS_l1_fuel v.1 v.2.1 v.2.2.1) (fun K1 => .leaf)))) .leaf)))) ?_ ?_
  · exact ⟨conds_leaf _ _, ⟨conds_leaf _ _, ⟨⟨conds_leaf _ _, ⟨fun _ => rfl, fun N => ⟨(fun v => by kernel_rfl), conds_leaf _ _⟩⟩⟩, conds_leaf _ _⟩⟩⟩
  · intro xs r h
    refine Eq.trans (Eq.symm ?_) h
    kernel_rfl
@[reducible] noncomputable def e_laws_eqFrame : FnE := { f := 53, args := [tyFrame, tyFrame], res := [.bool], F := fun xs => laws_eqFrame xs.1 xs.2.1 }
theorem ok_laws_eqFrame : FnOK Try.prog glob e_laws_eqFrame := by
  refine FnOK.of (e := e_laws_eqFrame) (C := cfg [] []) (cfg_ok env_nil envL_nil) Try.func53 (c := codeOf Try.f53) rfl Try.call53 (by decide)
    (.leaf) ?_ ?_
  · exact conds_leaf _ _
  · intro xs r h
    refine Eq.trans (Eq.symm ?_) h
    kernel_rfl
@[reducible] noncomputable def e_laws_eqFrameS : FnE := { f := 14, args := [.slice 70 (tyFrame), .slice 70 (tyFrame)], res := [.bool], F := fun xs => laws_eqFrameS xs.1 xs.2.1 }
theorem ok_laws_eqFrameS : FnOK Try.prog glob e_laws_eqFrameS := by
  refine FnOK.of (e := e_laws_eqFrameS) (C := cfg [e_laws_eqFrame] []) (cfg_ok (env_cons ok_laws_eqFrame env_nil) envL_nil) Try.func14 (c := codeOf Try.f14) rfl Try.call14 (by decide)
    ((.seq .leaf (.seq .leaf (.seq (.seq .leaf (.block (.loop laws_eqFrameS_l1_p (fun N v => laws_eqFrameS_l1 N v.1 v.2.1 v.2.2.1) (fun v => laws_eqFrameS_l1_fuel v.1 v.2.1 v.2.2.1) (fun K1 => .leaf)))) .leaf)))) ?_ ?_
  · exact ⟨conds_leaf _ _, ⟨conds_leaf _ _, ⟨⟨conds_leaf _ _, ⟨fun _ => rfl, fun N => ⟨(fun v => by kernel_rfl), conds_leaf _ _⟩⟩⟩, conds_leaf _ _⟩⟩⟩
  · intro xs r h
    refine Eq.trans (Eq.symm ?_) h
    kernel_rfl
@[reducible] noncomputable def e_laws_markText : FnE := { f := 54, args := [.int .i64], res := [.str], F := fun xs => laws_markText xs.1 }
theorem ok_laws_markText : FnOK Try.prog glob e_laws_markText := by
  refine FnOK.of (e := e_laws_markText) (C := cfg [] []) (cfg_ok env_nil envL_nil) Try.func54 (c := codeOf Try.f54) rfl Try.call54 (by decide)
    ((.seq .leaf (.seq .leaf (.seq .leaf (.seq (.block (.loop laws_markText_l1_p (fun N v => laws_markText_l1 N v.1 v.2.1) (fun v => laws_markText_l1_fuel v.1 v.2.1) (fun K1 => .leaf))) .leaf))))) ?_ ?_
  · exact ⟨conds_leaf _ _, ⟨conds_leaf _ _, ⟨conds_leaf _ _, ⟨⟨fun _ => rfl, fun N => ⟨(fun v => by kernel_rfl), conds_leaf _ _⟩⟩, conds_leaf _ _⟩⟩⟩⟩
  · intro xs r h
    refine Eq.trans (Eq.symm ?_) h
    kernel_rfl
@[reducible] noncomputable def e_laws_markFrameS : FnL := { f := 15, e := 70, t := tyFrame, args := [.int .i64], res := [.int .i64], F := fun l xs => laws_markFrameS l xs.1 }
theorem ok_laws_markFrameS : FnLOK Try.prog glob e_laws_markFrameS := by
  refine FnLOK.of (e := e_laws_markFrameS) (C := cfgL [e_laws_markText] []) (cfgL_ok (env_cons ok_laws_markText env_nil) envL_nil) rfl rfl rfl Try.func15 (c := codeOf Try.f15) rfl Try.call15 (by decide)
    ((.seq .leaf (.seq (.seq .leaf (.block (.loop laws_markFrameS_l1_p (fun N v => laws_markFrameS_l1 N v.1 v.2.1 v.2.2.1) (fun v => laws_markFrameS_l1_fuel v.1 v.2.1 v.2.2.1) (fun K1 => .leaf)))) .leaf))) ?_ ?_
  · exact ⟨conds_leaf _ _, ⟨⟨conds_leaf _ _, ⟨fun _ => rfl, fun N => ⟨(fun v => by kernel_rfl), conds_leaf _ _⟩⟩⟩, conds_leaf _ _⟩⟩
  · intro l xs r h
    refine Eq.trans (Eq.symm ?_) h
    kernel_rfl
@[reducible] noncomputable def e_laws_markIntS : FnL := { f := 16, e := 3, t := .int .i64, args := [.int .i64], res := [.int .i64], F := fun l xs => laws_markIntS l xs.1 }
theorem ok_laws_markIntS : FnLOK Try.prog glob e_laws_markIntS := by
  refine FnLOK.of (e := e_laws_markIntS) (C := cfgL [] []) (cfgL_ok env_nil envL_nil) rfl rfl rfl Try.func16 (c := codeOf Try.f16) rfl Try.call16 (by decide)
    ((.seq .leaf (.seq (.seq .leaf (.block (.loop laws_markIntS_l1_p (fun N v => laws_markIntS_l1 N v.1 v.2.1 v.2.2.1) (fun v => laws_markIntS_l1_fuel v.1 v.2.1 v.2.2.1) (fun K1 => .leaf)))) .leaf))) ?_ ?_
  · exact ⟨conds_leaf _ _, ⟨⟨conds_leaf _ _, ⟨fun _ => rfl, fun N => ⟨(fun v => by kernel_rfl), conds_leaf _ _⟩⟩⟩, conds_leaf _ _⟩⟩
  · intro l xs r h
    refine Eq.trans (Eq.symm ?_) h
    kernel_rfl
@[reducible] noncomputable def e_laws_heldIntS : FnE := { f := 17, args := [.slice 3 (.int .i64), .int .i64], res := [.int .i64], F := fun xs => laws_heldIntS xs.1 xs.2.1 }
theorem ok_laws_heldIntS : FnOK Try.prog glob e_laws_heldIntS := by
  refine FnOK.of (e := e_laws_heldIntS) (C := cfg [] []) (cfg_ok env_nil envL_nil) Try.func17 (c := codeOf Try.f17) rfl Try.call17 (by decide)
    ((.seq .leaf (.seq (.seq .leaf (.block (.loop laws_heldIntS_l1_p (fun N v => laws_heldIntS_l1 N v.1 v.2.1 v.2.2.1) (fun v => laws_heldIntS_l1_fuel v.1 v.2.1 v.2.2.1) (fun K1 => .leaf)))) .leaf))) ?_ ?_
  · exact ⟨conds_leaf _ _, ⟨⟨conds_leaf _ _, ⟨fun _ => rfl, fun N => ⟨(fun v => by kernel_rfl), conds_leaf _ _⟩⟩⟩, conds_leaf _ _⟩⟩
  · intro xs r h
    refine Eq.trans (Eq.symm ?_) h
    kernel_rfl
@[reducible] noncomputable def e_laws_FnExactOrderOf : FnE := { f := 3, args := [.slice 69 (tyFrame)], res := [.bool], F := fun xs => laws_FnExactOrderOf xs.1 }
theorem ok_laws_FnExactOrderOf : FnOK Try.prog glob e_laws_FnExactOrderOf := by
  refine FnOK.of (e := e_laws_FnExactOrderOf) (C := cfg [e_laws_szFrameS, e_laws_toFrameS, e_spec_OrderOf, e_impl_OrderOf, e_laws_eqIntS, e_laws_eqFrameS, e_laws_heldIntS] [e_laws_markFrameS, e_laws_markIntS]) (cfg_ok (env_cons ok_laws_szFrameS (env_cons ok_laws_toFrameS (env_cons ok_spec_OrderOf (env_cons ok_impl_OrderOf (env_cons ok_laws_eqIntS (env_cons ok_laws_eqFrameS (env_cons ok_laws_heldIntS env_nil))))))) (envL_cons ok_laws_markFrameS (envL_cons ok_laws_markIntS envL_nil))) Try.func3 (c := codeOf Try.f3) rfl Try.call3 (by decide)
    (.leaf) ?_ ?_
  · exact conds_leaf _ _
  · intro xs r h
    refine Eq.trans (Eq.symm ?_) h
    kernel_rfl
end Go.Proofs.Ytifcipnimblkpaa

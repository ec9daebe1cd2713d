/- FnGrowths: what the functions that it reaches compute, as plain functions, and that they do so. No condition. -/
import Derived.Test.YtifcipnimblkpabRows
import Derived.Test.YtifcipnimblkpabAm4
namespace Go.Proofs.Ytifcipnimblkpab
open Go.Am
set_option maxRecDepth 100000
set_option linter.unusedVariables false

@[reducible] def tySip : Ty := .pair (.int .i64) (.pair (.int .i64) (.unit))
@[reducible] def TSip : Type := Int × Int × Unit
def zSip : TSip := ((0 : Int), ((0 : Int), ()))
@[reducible] def tyl1Cur : Ty := .pair (.slice 5 (.int .u8)) (tySip)
@[reducible] def Tl1Cur : Type := List Int × TSip
def zl1Cur : Tl1Cur := (([] : List Int), ((0 : Int), ((0 : Int), ())))
@[reducible] def tyWindow : Ty := .pair (.int .i64) (.pair (.int .i64) (.pair (.int .i64) (.pair (.int .i64) (tySip))))
@[reducible] def TWindow : Type := Int × Int × Int × Int × TSip
def zWindow : TWindow := ((0 : Int), ((0 : Int), ((0 : Int), ((0 : Int), ((0 : Int), ((0 : Int), ()))))))
noncomputable def laws_big (code0 : List Int) : Option (Bool × Unit) :=
  some (decide ((code0.length : Int) > (1048576 : Int)), ())
@[reducible] def spec_l1New_l1_p : List PE := [.val 0 (.slice 5 (.int .u8)) (.u false), .val 3 (.int .i64) (.u false), .val 4 (.int .i64) (.u false)]
def spec_l1New_l1_fuel (code0_1 : List Int) (h3 : Int) (i4 : Int) : Nat := ((code0_1.length : Int) - i4).toNat + 1
noncomputable def spec_l1New_l1 : Nat → List Int → Int → Int → Option ((Tl1Cur) × (Unit))
  | 0, _, _, _ => none
  | N + 1, code0_1, h3, i4 =>
    bif (decide (i4 < (code0_1.length : Int))) && (decide (i4 < (4000 : Int))) then
      guardP (0 ≤ i4 ∧ i4 < code0_1.length) <|
      spec_l1New_l1 N code0_1 (bits .and .i64 (IntKind.i64.wrap ((IntKind.i64.wrap ((IntKind.i64.wrap (h3 * (131 : Int))) + (IntKind.i64.wrap (code0_1.getD i4.toNat (0 : Int))))) + (7 : Int))) (1073741823 : Int)) (IntKind.i64.wrap (i4 + (1 : Int)))
    else
      some ((code0_1, ((0 : Int), (h3, ()))), ())
noncomputable def spec_l1New (code0 : List Int) : Option ((Tl1Cur) × (Unit)) :=
  let t7 : Int := IntKind.i64.wrap ((10101 : Int) + (code0.length : Int))
  spec_l1New_l1 (spec_l1New_l1_fuel code0 t7 (0 : Int)) code0 t7 (0 : Int)
noncomputable def spec_l1Byte (c0 : Tl1Cur) : Option ((Int × Unit) × (Tl1Cur × Unit)) :=
  let t10 : Int := IntKind.i64.wrap ((IntKind.i64.wrap (c0.2.2.1 * (6364136223846793005 : Int))) + (1442695040888963407 : Int))
  guardP (0 ≤ (33 : Int)) <|
  guardP (0 ≤ (45 : Int)) <|
  let t24 : Int := bits .and .i64 (bits .xor .i64 (t10.fdiv (2 ^ (min (33 : Int).toNat IntKind.i64.bits))) (t10.fdiv (2 ^ (min (45 : Int).toNat IntKind.i64.bits)))) (255 : Int)
  bif decide (c0.2.1 < (c0.1.length : Int)) then
    guardP (0 ≤ c0.2.1 ∧ c0.2.1 < c0.1.length) <|
    some ((bits .and .i64 (IntKind.i64.wrap (t24 + (IntKind.i64.wrap (c0.1.getD c0.2.1.toNat (0 : Int))))) (255 : Int), ()), ((c0.1, (IntKind.i64.wrap (c0.2.1 + (1 : Int)), (t10, c0.2.2.2))), ()))
  else
    some ((t24, ()), ((c0.1, (c0.2.1, (t10, c0.2.2.2))), ()))
noncomputable def spec_l1Below (c0 : Tl1Cur) (n1 : Int) : Option ((Int × Unit) × (Tl1Cur × Unit)) :=
  bif decide (n1 ≤ (0 : Int)) then
    some (((0 : Int), ()), (c0, ()))
  else
    bif decide (n1 ≤ (256 : Int)) then
      Option.bind (spec_l1Byte c0) fun t14 =>
      guardP (n1 ≠ 0) <|
      some ((Int.tmod t14.1.1 n1, ()), (t14.2.1, ()))
    else
      Option.bind (spec_l1Byte c0) fun t18 =>
      Option.bind (spec_l1Byte t18.2.1) fun t20 =>
      Option.bind (spec_l1Byte t20.2.1) fun t22 =>
      Option.bind (spec_l1Byte t22.2.1) fun t24 =>
      guardP (n1 ≠ 0) <|
      some ((Int.tmod (IntKind.i64.wrap ((IntKind.i64.wrap ((IntKind.i64.wrap ((IntKind.i64.wrap (t18.1.1 * (16777216 : Int))) + (IntKind.i64.wrap (t20.1.1 * (65536 : Int))))) + (IntKind.i64.wrap (t22.1.1 * (256 : Int))))) + t24.1.1)) n1, ()), (t24.2.1, ()))
noncomputable def spec_l1In (x0 : Int) (low1 : Int) (high2 : Int) : Option (Bool × Unit) :=
  some ((decide (x0 ≥ low1)) && (decide (x0 ≤ high2)), ())
noncomputable def spec_NewWindow (size0 : Int) (most1 : Int) : Option (TWindow × Bool × Unit) :=
  Option.bind (spec_l1In most1 (1 : Int) (4096 : Int)) fun t7 =>
  Option.bind (bif (!t7.1) then some (false, ()) else (spec_l1In size0 (1 : Int) most1)) fun t12 =>
  bif (!t7.1) || (!t12.1) then
    some (((0 : Int), ((0 : Int), ((0 : Int), ((0 : Int), ((0 : Int), ((0 : Int), ())))))), false, ())
  else
    some ((size0, (most1, (size0, ((0 : Int), ((0 : Int), ((0 : Int), ())))))), true, ())
noncomputable def spec_IsWindow (w0 : TWindow) : Option (Bool × Unit) :=
  Option.bind (spec_l1In w0.2.1 (1 : Int) (4096 : Int)) fun t5 =>
  Option.bind (bif t5.1 then (spec_l1In w0.1 (1 : Int) w0.2.1) else some (false, ())) fun t11 =>
  Option.bind (bif (t5.1 && t11.1) then (spec_l1In w0.2.2.1 (1 : Int) (4611686018427387903 : Int)) else some (false, ())) fun t16 =>
  Option.bind (bif ((t5.1 && t11.1) && t16.1) then (spec_l1In w0.2.2.2.1 (0 : Int) w0.2.2.1) else some (false, ())) fun t23 =>
  let t24 : Bool := ((t5.1 && t11.1) && t16.1) && t23.1
  Option.bind (bif t24 then (spec_l1In w0.2.2.2.2.1 (0 : Int) w0.2.2.2.1) else some (false, ())) fun t30 =>
  let t41 : Bool := (t24 && t30.1) && (decide (w0.2.2.1 ≤ (IntKind.i64.wrap (w0.2.2.2.2.1 + w0.1))))
  Option.bind (bif t41 then (spec_l1In w0.2.2.2.2.2.1 (0 : Int) (1000000 : Int)) else some (false, ())) fun t45 =>
  some (t41 && t45.1, ())
noncomputable def spec_SeeBytes (w0 : TWindow) (n1 : Int) : Option (TWindow × Bool × Unit) :=
  Option.bind (spec_IsWindow w0) fun t7 =>
  bif ((!t7.1) || (decide (n1 < (0 : Int)))) || (decide (n1 > (IntKind.i64.wrap (w0.2.2.1 - w0.2.2.2.1)))) then
    some (w0, false, ())
  else
    some ((w0.1, (w0.2.1, (w0.2.2.1, (IntKind.i64.wrap (w0.2.2.2.1 + n1), w0.2.2.2.2)))), true, ())
noncomputable def spec_ReadBytes (w0 : TWindow) (n1 : Int) : Option (TWindow × Bool × Unit) :=
  Option.bind (spec_IsWindow w0) fun t7 =>
  bif ((!t7.1) || (decide (n1 < (0 : Int)))) || (decide (n1 > (IntKind.i64.wrap (w0.2.2.2.1 - w0.2.2.2.2.1)))) then
    some (w0, false, ())
  else
    some ((w0.1, (w0.2.1, (w0.2.2.1, (w0.2.2.2.1, (IntKind.i64.wrap (w0.2.2.2.2.1 + n1), w0.2.2.2.2.2))))), true, ())
noncomputable def spec_MustRaise (w0 : TWindow) : Option (Bool × Unit) :=
  Option.bind (spec_IsWindow w0) fun t4 =>
  let t9 : Bool := t4.1 && (decide (w0.2.2.1 < (4611686018427387903 : Int)))
  guardP ((t9 = true → ((2 : Int) ≠ 0))) <|
  some (t9 && (decide ((IntKind.i64.wrap ((IntKind.i64.wrap (w0.2.2.2.2.1 + w0.1)) - w0.2.2.1)) ≥ (IntKind.i64.wrap (Int.tdiv (IntKind.i64.wrap (w0.1 + (1 : Int))) (2 : Int))))), ())
@[reducible] def spec_RaiseWindow_j1_p : List PE := [.val 1 (.int .i64) (.u false), .box 3 25 (tyWindow) (.u false), .box 6 25 (tyWindow) (.u false)]
noncomputable def spec_RaiseWindow_j1 (now1_1 : Int) (w3 : TWindow) (t6 : TWindow) : Option (TWindow × Bool × Unit) :=
  some ((w3.1, (w3.2.1, (min (IntKind.i64.wrap (w3.2.2.2.2.1 + w3.1)) (4611686018427387903 : Int), (w3.2.2.2.1, (w3.2.2.2.2.1, (now1_1, w3.2.2.2.2.2.2)))))), true, ())
noncomputable def spec_RaiseWindow (w0 : TWindow) (now1 : Int) (trip2 : Int) : Option (TWindow × Bool × Unit) :=
  Option.bind (spec_MustRaise w0) fun t9 =>
  Option.bind (bif (!t9.1) then some (false, ()) else (spec_l1In now1 w0.2.2.2.2.2.1 (1000000 : Int))) fun t15 =>
  Option.bind (bif ((!t9.1) || (!t15.1)) then some (false, ()) else (spec_l1In trip2 (1 : Int) (1000 : Int))) fun t20 =>
  bif ((!t9.1) || (!t15.1)) || (!t20.1) then
    some (w0, false, ())
  else
    bif decide ((IntKind.i64.wrap (now1 - w0.2.2.2.2.2.1)) < (IntKind.i64.wrap ((2 : Int) * trip2))) then
      spec_RaiseWindow_j1 now1 (min (IntKind.i64.wrap ((2 : Int) * w0.1)) w0.2.1, w0.2) ((0 : Int), ((0 : Int), ((0 : Int), ((0 : Int), ((0 : Int), ((0 : Int), ()))))))
    else
      spec_RaiseWindow_j1 now1 w0 ((0 : Int), ((0 : Int), ((0 : Int), ((0 : Int), ((0 : Int), ((0 : Int), ()))))))
noncomputable def spec_l1PickInt (c0 : Tl1Cur) (list1 : List Int) : Option ((Int × Unit) × (Tl1Cur × Unit)) :=
  Option.bind (spec_l1Below c0 (list1.length : Int)) fun t9 =>
  guardP (0 ≤ t9.1.1 ∧ t9.1.1 < list1.length) <|
  some ((list1.getD t9.1.1.toNat (0 : Int), ()), (t9.2.1, ()))
@[reducible] def spec_l11Window_j1_p : List PE := [.box 0 55 (tyl1Cur) (.u false), .box 2 25 (tyWindow) (.u false), .box 4 25 (tyWindow) (.u false), .val 6 (.int .i64) (.u false)]
noncomputable def spec_l11Window_j1 (K1 : (Tl1Cur × TWindow × TWindow × Int × Unit) → Option ((TWindow × Unit) × (Tl1Cur × Unit))) (c0_2 : Tl1Cur) (t2_1 : TWindow) (w4_1 : TWindow) (n6_1 : Int) : Option ((TWindow × Unit) × (Tl1Cur × Unit)) :=
  K1 (c0_2, t2_1, w4_1, IntKind.i64.wrap (n6_1 - (1 : Int)), ())
@[reducible] def spec_l11Window_l1_p : List PE := [.box 0 55 (tyl1Cur) (.u false), .box 2 25 (tyWindow) (.u false), .box 4 25 (tyWindow) (.u false), .val 6 (.int .i64) (.u false)]
def spec_l11Window_l1_fuel (c0_1 : Tl1Cur) (t2 : TWindow) (w4 : TWindow) (n6 : Int) : Nat := (n6 - (0 : Int)).toNat + 1
noncomputable def spec_l11Window_l1 : Nat → Tl1Cur → TWindow → TWindow → Int → Option ((TWindow × Unit) × (Tl1Cur × Unit))
  | 0, _, _, _, _ => none
  | N + 1, c0_1, t2, w4, n6 =>
    bif decide (n6 > (0 : Int)) then
      Option.bind (spec_l1Below c0_1 (3 : Int)) fun t26 =>
      bif t26.1.1 == (0 : Int) then
        Option.bind (spec_l1Below t26.2.1 (9 : Int)) fun t32 =>
        Option.bind (spec_SeeBytes w4 t32.1.1) fun t33 =>
        bothK (
          bothK (
            spec_l11Window_j1 (fun v => spec_l11Window_l1 N v.1 v.2.1 v.2.2.1 v.2.2.2.1) t32.2.1 t2 t33.1 n6
          ) (
            spec_l11Window_j1 (fun v => spec_l11Window_l1 N v.1 v.2.1 v.2.2.1 v.2.2.2.1) t32.2.1 t2 t33.1 n6
          )
        ) (
          spec_l11Window_j1 (fun v => spec_l11Window_l1 N v.1 v.2.1 v.2.2.1 v.2.2.2.1) t32.2.1 t2 t33.1 n6
        )
      else
        bif t26.1.1 == (1 : Int) then
          Option.bind (spec_l1Below t26.2.1 (9 : Int)) fun t41 =>
          Option.bind (spec_ReadBytes w4 t41.1.1) fun t42 =>
          bothK (
            bothK (
              spec_l11Window_j1 (fun v => spec_l11Window_l1 N v.1 v.2.1 v.2.2.1 v.2.2.2.1) t41.2.1 t2 t42.1 n6
            ) (
              spec_l11Window_j1 (fun v => spec_l11Window_l1 N v.1 v.2.1 v.2.2.1 v.2.2.2.1) t41.2.1 t2 t42.1 n6
            )
          ) (
            spec_l11Window_j1 (fun v => spec_l11Window_l1 N v.1 v.2.1 v.2.2.1 v.2.2.2.1) t41.2.1 t2 t42.1 n6
          )
        else
          bif t26.1.1 == (2 : Int) then
            Option.bind (spec_l1Below t26.2.1 (9 : Int)) fun t52 =>
            Option.bind (spec_l1Below t52.2.1 (3 : Int)) fun t55 =>
            Option.bind (spec_RaiseWindow w4 (IntKind.i64.wrap (w4.2.2.2.2.2.1 + t52.1.1)) (IntKind.i64.wrap ((1 : Int) + t55.1.1))) fun t57 =>
            bothK (
              bothK (
                spec_l11Window_j1 (fun v => spec_l11Window_l1 N v.1 v.2.1 v.2.2.1 v.2.2.2.1) t55.2.1 t2 t57.1 n6
              ) (
                spec_l11Window_j1 (fun v => spec_l11Window_l1 N v.1 v.2.1 v.2.2.1 v.2.2.2.1) t55.2.1 t2 t57.1 n6
              )
            ) (
              spec_l11Window_j1 (fun v => spec_l11Window_l1 N v.1 v.2.1 v.2.2.1 v.2.2.2.1) t55.2.1 t2 t57.1 n6
            )
          else
            spec_l11Window_j1 (fun v => spec_l11Window_l1 N v.1 v.2.1 v.2.2.1 v.2.2.2.1) t26.2.1 t2 w4 n6
    else
      Option.bind (spec_l1Below c0_1 (14 : Int)) fun t61 =>
      bif t61.1.1 == (0 : Int) then
        Option.bind (spec_l1PickInt t61.2.1 ([(-1 : Int), (0 : Int), (3 : Int), (200 : Int)])) fun t66 =>
        some (((w4.1, (w4.2.1, (t66.1.1, w4.2.2.2))), ()), (t66.2.1, ()))
      else
        bif t61.1.1 == (1 : Int) then
          Option.bind (spec_l1PickInt t61.2.1 ([(-1 : Int), (0 : Int), (60 : Int)])) fun t72 =>
          some (((w4.1, (w4.2.1, (w4.2.2.1, (w4.2.2.2.1, (t72.1.1, w4.2.2.2.2.2))))), ()), (t72.2.1, ()))
        else
          bif t61.1.1 == (2 : Int) then
            Option.bind (spec_l1PickInt t61.2.1 ([(-1 : Int), (1000000 : Int), (1000001 : Int)])) fun t78 =>
            some (((w4.1, (w4.2.1, (w4.2.2.1, (w4.2.2.2.1, (w4.2.2.2.2.1, (t78.1.1, w4.2.2.2.2.2.2)))))), ()), (t78.2.1, ()))
          else
            some ((w4, ()), (t61.2.1, ()))
noncomputable def spec_l11Window (c0 : Tl1Cur) : Option ((TWindow × Unit) × (Tl1Cur × Unit)) :=
  Option.bind (spec_l1Below c0 (40 : Int)) fun t8 =>
  Option.bind (spec_l1Below t8.2.1 (IntKind.i64.wrap ((4 : Int) + t8.1.1))) fun t13 =>
  Option.bind (spec_NewWindow (IntKind.i64.wrap ((1 : Int) + t13.1.1)) (IntKind.i64.wrap ((4 : Int) + t8.1.1))) fun t16 =>
  Option.bind (spec_l1Below t13.2.1 (8 : Int)) fun t20 =>
  spec_l11Window_l1 (spec_l11Window_l1_fuel t20.2.1 ((0 : Int), ((0 : Int), ((0 : Int), ((0 : Int), ((0 : Int), ((0 : Int), ())))))) t16.1 t20.1.1) t20.2.1 ((0 : Int), ((0 : Int), ((0 : Int), ((0 : Int), ((0 : Int), ((0 : Int), ())))))) t16.1 t20.1.1
@[reducible] def spec_l30Draw_l1_p : List PE := [.box 2 25 (tyWindow) (.u false), .ptr 5 11 [], .box 6 25 (tyWindow) (.u false), .val 7 (.slice 41 (tySip)) (.u true), .val 8 (.int .i64) (.u false), .box 11 55 (tyl1Cur) (.u false)]
def spec_l30Draw_l1_fuel (t2 : TWindow) (w6 : TWindow) (l7 : List TSip) (n8 : Int) (t11_1 : Tl1Cur) : Nat := (n8 - (0 : Int)).toNat + 1
noncomputable def spec_l30Draw_l1 : Nat → TWindow → TWindow → List TSip → Int → Tl1Cur → Option (TWindow × List TSip × Int × Unit)
  | 0, _, _, _, _, _ => none
  | N + 1, t2, w6, l7, n8, t11_1 =>
    bif decide (n8 > (0 : Int)) then
      Option.bind (spec_l1Below t11_1 (12 : Int)) fun t22 =>
      Option.bind (spec_l1Below t22.2.1 (9 : Int)) fun t27 =>
      let t30 : List TSip := [(IntKind.i64.wrap (t22.1.1 - (1 : Int)), (IntKind.i64.wrap (t27.1.1 - (1 : Int)), ()))]
      guardP (l7.length + t30.length ≤ capN) <|
      spec_l30Draw_l1 N t2 w6 (l7 ++ t30) (IntKind.i64.wrap (n8 - (1 : Int))) t27.2.1
    else
      Option.bind (spec_l1PickInt t11_1 ([(0 : Int), (1 : Int), (2 : Int), (4 : Int), (1001 : Int)])) fun t36 =>
      some (w6, l7, t36.1.1, ())
noncomputable def spec_l30Draw (code0 : List Int) : Option (TWindow × List TSip × Int × Unit) :=
  Option.bind (spec_l1New code0) fun t11 =>
  Option.bind (spec_l11Window t11.1) fun t13 =>
  Option.bind (spec_l1Below t13.2.1 (9 : Int)) fun t16 =>
  spec_l30Draw_l1 (spec_l30Draw_l1_fuel ((0 : Int), ((0 : Int), ((0 : Int), ((0 : Int), ((0 : Int), ((0 : Int), ())))))) t13.1.1 ([] : List TSip) t16.1.1 t16.2.1) ((0 : Int), ((0 : Int), ((0 : Int), ((0 : Int), ((0 : Int), ((0 : Int), ())))))) t13.1.1 ([] : List TSip) t16.1.1 t16.2.1
noncomputable def spec_DrawFeedWindow (code0 : List Int) : Option (TWindow × List TSip × Int × Unit) :=
  Option.bind (spec_l30Draw code0) fun t10 =>
  some (t10.1, t10.2.1, t10.2.2.1, ())
noncomputable def impl_within (n0 : Int) (low1 : Int) (high2 : Int) : Option (Bool × Unit) :=
  some ((decide (low1 ≤ n0)) && (decide (n0 ≤ high2)), ())
noncomputable def impl_IsWindow (w0 : TWindow) : Option (Bool × Unit) :=
  Option.bind (impl_within w0.2.1 (1 : Int) (4096 : Int)) fun t5 =>
  Option.bind (bif t5.1 then (impl_within w0.1 (1 : Int) w0.2.1) else some (false, ())) fun t11 =>
  Option.bind (bif (t5.1 && t11.1) then (impl_within w0.2.2.1 (1 : Int) (4611686018427387903 : Int)) else some (false, ())) fun t16 =>
  Option.bind (bif ((t5.1 && t11.1) && t16.1) then (impl_within w0.2.2.2.1 (0 : Int) w0.2.2.1) else some (false, ())) fun t23 =>
  let t24 : Bool := ((t5.1 && t11.1) && t16.1) && t23.1
  Option.bind (bif t24 then (impl_within w0.2.2.2.2.1 (0 : Int) w0.2.2.2.1) else some (false, ())) fun t30 =>
  let t41 : Bool := (t24 && t30.1) && (decide (w0.2.2.1 ≤ (IntKind.i64.wrap (w0.2.2.2.2.1 + w0.1))))
  Option.bind (bif t41 then (impl_within w0.2.2.2.2.2.1 (0 : Int) (1000000 : Int)) else some (false, ())) fun t45 =>
  some (t41 && t45.1, ())
noncomputable def impl_LeftFor (w0 : TWindow) : Option (Int × Unit) :=
  Option.bind (impl_IsWindow w0) fun t4 =>
  bif !t4.1 then
    some ((0 : Int), ())
  else
    some (IntKind.i64.wrap (w0.2.2.1 - w0.2.2.2.1), ())
noncomputable def impl_SeeBytes (w0 : TWindow) (n1 : Int) : Option (TWindow × Bool × Unit) :=
  Option.bind (impl_IsWindow w0) fun t7 =>
  Option.bind (bif (!t7.1) then some (false, ()) else (impl_within n1 (0 : Int) (IntKind.i64.wrap (w0.2.2.1 - w0.2.2.2.1)))) fun t16 =>
  bif (!t7.1) || (!t16.1) then
    some (w0, false, ())
  else
    some ((w0.1, (w0.2.1, (w0.2.2.1, (IntKind.i64.wrap (w0.2.2.2.1 + n1), w0.2.2.2.2)))), true, ())
noncomputable def impl_ReadBytes (w0 : TWindow) (n1 : Int) : Option (TWindow × Bool × Unit) :=
  Option.bind (impl_IsWindow w0) fun t7 =>
  Option.bind (bif (!t7.1) then some (false, ()) else (impl_within n1 (0 : Int) (IntKind.i64.wrap (w0.2.2.2.1 - w0.2.2.2.2.1)))) fun t16 =>
  bif (!t7.1) || (!t16.1) then
    some (w0, false, ())
  else
    some ((w0.1, (w0.2.1, (w0.2.2.1, (w0.2.2.2.1, (IntKind.i64.wrap (w0.2.2.2.2.1 + n1), w0.2.2.2.2.2))))), true, ())
noncomputable def impl_MustRaise (w0 : TWindow) : Option (Bool × Unit) :=
  Option.bind (impl_IsWindow w0) fun t4 =>
  let t9 : Bool := t4.1 && (decide (w0.2.2.1 < (4611686018427387903 : Int)))
  guardP ((t9 = true → ((2 : Int) ≠ 0))) <|
  some (t9 && (decide ((IntKind.i64.wrap ((IntKind.i64.wrap (w0.2.2.2.2.1 + w0.1)) - w0.2.2.1)) ≥ (IntKind.i64.wrap (Int.tdiv (IntKind.i64.wrap (w0.1 + (1 : Int))) (2 : Int))))), ())
@[reducible] def impl_RaiseWindow_j1_p : List PE := [.val 1 (.int .i64) (.u false), .box 3 25 (tyWindow) (.u false), .box 6 25 (tyWindow) (.u false)]
noncomputable def impl_RaiseWindow_j1 (now1_1 : Int) (w3 : TWindow) (t6 : TWindow) : Option (TWindow × Bool × Unit) :=
  some ((w3.1, (w3.2.1, (min (IntKind.i64.wrap (w3.2.2.2.2.1 + w3.1)) (4611686018427387903 : Int), (w3.2.2.2.1, (w3.2.2.2.2.1, (now1_1, w3.2.2.2.2.2.2)))))), true, ())
noncomputable def impl_RaiseWindow (w0 : TWindow) (now1 : Int) (trip2 : Int) : Option (TWindow × Bool × Unit) :=
  Option.bind (impl_MustRaise w0) fun t9 =>
  Option.bind (bif (!t9.1) then some (false, ()) else (impl_within now1 w0.2.2.2.2.2.1 (1000000 : Int))) fun t15 =>
  Option.bind (bif ((!t9.1) || (!t15.1)) then some (false, ()) else (impl_within trip2 (1 : Int) (1000 : Int))) fun t20 =>
  bif ((!t9.1) || (!t15.1)) || (!t20.1) then
    some (w0, false, ())
  else
    bif decide ((IntKind.i64.wrap (now1 - w0.2.2.2.2.2.1)) < (IntKind.i64.wrap ((2 : Int) * trip2))) then
      impl_RaiseWindow_j1 now1 (min (IntKind.i64.wrap ((2 : Int) * w0.1)) w0.2.1, w0.2) ((0 : Int), ((0 : Int), ((0 : Int), ((0 : Int), ((0 : Int), ((0 : Int), ()))))))
    else
      impl_RaiseWindow_j1 now1 w0 ((0 : Int), ((0 : Int), ((0 : Int), ((0 : Int), ((0 : Int), ((0 : Int), ()))))))
@[reducible] def impl_sips_l1_p : List PE := [.val 2 (.int .i64) (.u false), .box 3 25 (tyWindow) (.u false), .val 7 (.slice 25 (tyWindow)) (.u true), .val 8 (.int .i64) (.u false), .val 15 (.slice 41 (tySip)) (.u false), .val 16 (.int .i64) (.u false), .val 17 (.int .i64) (.u false)]
def impl_sips_l1_fuel (trip2_1 : Int) (w3 : TWindow) (out7 : List TWindow) (now8 : Int) (t15 : List TSip) (t16_1 : Int) (t17 : Int) : Nat := (t16_1 - t17).toNat + 1
noncomputable def impl_sips_l1 : Nat → Int → TWindow → List TWindow → Int → List TSip → Int → Int → Option (List TWindow × Unit)
  | 0, _, _, _, _, _, _, _ => none
  | N + 1, trip2_1, w3, out7, now8, t15, t16_1, t17 =>
    bif decide (t17 < t16_1) then
      guardP (0 ≤ t17 ∧ t17 < t15.length) <|
      let t27 : Int := min (IntKind.i64.wrap (now8 + (min (max (t15.getD t17.toNat zSip).2.1 (0 : Int)) (1000 : Int)))) (1000000 : Int)
      Option.bind (impl_LeftFor w3) fun t32 =>
      let t33 : Int := min (max (t15.getD t17.toNat zSip).1 (0 : Int)) t32.1
      Option.bind (impl_SeeBytes w3 t33) fun t37 =>
      Option.bind (impl_ReadBytes t37.1 t33) fun t43 =>
      Option.bind (impl_RaiseWindow t43.1 t27 trip2_1) fun t50 =>
      guardP (out7.length + ([t50.1]).length ≤ capN) <|
      impl_sips_l1 N trip2_1 t50.1 (out7 ++ ([t50.1])) t27 t15 t16_1 (IntKind.i64.wrap (t17 + (1 : Int)))
    else
      some (out7, ())
noncomputable def impl_sips (w0 : TWindow) (l1 : List TSip) (trip2 : Int) : Option (List TWindow × Unit) :=
  impl_sips_l1 (impl_sips_l1_fuel trip2 w0 ([] : List TWindow) w0.2.2.2.2.2.1 l1 (l1.length : Int) (0 : Int)) trip2 w0 ([] : List TWindow) w0.2.2.2.2.2.1 l1 (l1.length : Int) (0 : Int)
noncomputable def impl_FeedWindow (w0 : TWindow) (l1 : List TSip) (trip2 : Int) : Option (TWindow × Unit) :=
  bif (l1.length : Int) == (0 : Int) then
    some (w0, ())
  else
    Option.bind (impl_sips w0 l1 trip2) fun t14 =>
    let t17 : Int := IntKind.i64.wrap ((l1.length : Int) - (1 : Int))
    guardP (0 ≤ t17 ∧ t17 < t14.1.length) <|
    some (t14.1.getD t17.toNat zWindow, ())
@[reducible] def impl_LimitsOf_l1_p : List PE := [.val 7 (.slice 3 (.int .i64)) (.u true), .val 14 (.slice 25 (tyWindow)) (.u true), .val 15 (.int .i64) (.u false), .val 16 (.int .i64) (.u false)]
def impl_LimitsOf_l1_fuel (out7 : List Int) (t14_1 : List TWindow) (t15_1 : Int) (t16 : Int) : Nat := (t15_1 - t16).toNat + 1
noncomputable def impl_LimitsOf_l1 : Nat → List Int → List TWindow → Int → Int → Option (List Int × Unit)
  | 0, _, _, _, _ => none
  | N + 1, out7, t14_1, t15_1, t16 =>
    bif decide (t16 < t15_1) then
      guardP (0 ≤ t16 ∧ t16 < t14_1.length) <|
      guardP (out7.length + ([(t14_1.getD t16.toNat zWindow).2.2.1]).length ≤ capN) <|
      impl_LimitsOf_l1 N (out7 ++ ([(t14_1.getD t16.toNat zWindow).2.2.1])) t14_1 t15_1 (IntKind.i64.wrap (t16 + (1 : Int)))
    else
      some (out7, ())
noncomputable def impl_LimitsOf (w0 : TWindow) (l1 : List TSip) (trip2 : Int) : Option (List Int × Unit) :=
  Option.bind (impl_sips w0 l1 trip2) fun t14 =>
  impl_LimitsOf_l1 (impl_LimitsOf_l1_fuel ([] : List Int) t14.1 (t14.1.length : Int) (0 : Int)) ([] : List Int) t14.1 (t14.1.length : Int) (0 : Int)
@[reducible] def impl_SizesOf_l1_p : List PE := [.val 7 (.slice 3 (.int .i64)) (.u true), .val 14 (.slice 25 (tyWindow)) (.u true), .val 15 (.int .i64) (.u false), .val 16 (.int .i64) (.u false)]
def impl_SizesOf_l1_fuel (out7 : List Int) (t14_1 : List TWindow) (t15_1 : Int) (t16 : Int) : Nat := (t15_1 - t16).toNat + 1
noncomputable def impl_SizesOf_l1 : Nat → List Int → List TWindow → Int → Int → Option (List Int × Unit)
  | 0, _, _, _, _ => none
  | N + 1, out7, t14_1, t15_1, t16 =>
    bif decide (t16 < t15_1) then
      guardP (0 ≤ t16 ∧ t16 < t14_1.length) <|
      guardP (out7.length + ([(t14_1.getD t16.toNat zWindow).1]).length ≤ capN) <|
      impl_SizesOf_l1 N (out7 ++ ([(t14_1.getD t16.toNat zWindow).1])) t14_1 t15_1 (IntKind.i64.wrap (t16 + (1 : Int)))
    else
      some (out7, ())
noncomputable def impl_SizesOf (w0 : TWindow) (l1 : List TSip) (trip2 : Int) : Option (List Int × Unit) :=
  Option.bind (impl_sips w0 l1 trip2) fun t14 =>
  impl_SizesOf_l1 (impl_SizesOf_l1_fuel ([] : List Int) t14.1 (t14.1.length : Int) (0 : Int)) ([] : List Int) t14.1 (t14.1.length : Int) (0 : Int)
noncomputable def spec_l30Now (now0 : Int) (s1 : TSip) : Option (Int × Unit) :=
  some (min (IntKind.i64.wrap (now0 + (max (0 : Int) (min s1.2.1 (1000 : Int))))) (1000000 : Int), ())
noncomputable def spec_LeftFor (w0 : TWindow) : Option (Int × Unit) :=
  Option.bind (spec_IsWindow w0) fun t4 =>
  bif !t4.1 then
    some ((0 : Int), ())
  else
    some (IntKind.i64.wrap (w0.2.2.1 - w0.2.2.2.1), ())
noncomputable def spec_l30Sip (w0 : TWindow) (s1 : TSip) (now2 : Int) (trip3 : Int) : Option (TWindow × Unit) :=
  Option.bind (spec_LeftFor w0) fun t13 =>
  Option.bind (spec_SeeBytes w0 (max (0 : Int) (min s1.1 t13.1))) fun t19 =>
  Option.bind (spec_ReadBytes t19.1 (max (0 : Int) (min s1.1 t13.1))) fun t25 =>
  Option.bind (spec_RaiseWindow t25.1 now2 trip3) fun t32 =>
  some (t32.1, ())
@[reducible] def spec_FeedWindow_l1_p : List PE := [.val 1 (.slice 41 (tySip)) (.u false), .val 2 (.int .i64) (.u false), .box 3 25 (tyWindow) (.u false), .box 6 25 (tyWindow) (.u false), .val 7 (.int .i64) (.u false), .val 8 (.int .i64) (.u false)]
def spec_FeedWindow_l1_fuel (l1_1 : List TSip) (trip2_1 : Int) (w3 : TWindow) (t6 : TWindow) (now7 : Int) (i8 : Int) : Nat := ((l1_1.length : Int) - i8).toNat + 1
noncomputable def spec_FeedWindow_l1 : Nat → List TSip → Int → TWindow → TWindow → Int → Int → Option (TWindow × Unit)
  | 0, _, _, _, _, _, _ => none
  | N + 1, l1_1, trip2_1, w3, t6, now7, i8 =>
    bif decide (i8 < (l1_1.length : Int)) then
      guardP (0 ≤ i8 ∧ i8 < l1_1.length) <|
      Option.bind (spec_l30Now now7 (l1_1.getD i8.toNat zSip)) fun t22 =>
      guardP (0 ≤ i8 ∧ i8 < l1_1.length) <|
      Option.bind (spec_l30Sip w3 (l1_1.getD i8.toNat zSip) t22.1 trip2_1) fun t30 =>
      spec_FeedWindow_l1 N l1_1 trip2_1 t30.1 t6 t22.1 (IntKind.i64.wrap (i8 + (1 : Int)))
    else
      some (w3, ())
noncomputable def spec_FeedWindow (w0 : TWindow) (l1 : List TSip) (trip2 : Int) : Option (TWindow × Unit) :=
  spec_FeedWindow_l1 (spec_FeedWindow_l1_fuel l1 trip2 w0 ((0 : Int), ((0 : Int), ((0 : Int), ((0 : Int), ((0 : Int), ((0 : Int), ())))))) w0.2.2.2.2.2.1 (0 : Int)) l1 trip2 w0 ((0 : Int), ((0 : Int), ((0 : Int), ((0 : Int), ((0 : Int), ((0 : Int), ())))))) w0.2.2.2.2.2.1 (0 : Int)
@[reducible] def spec_LimitsOf_l1_p : List PE := [.val 1 (.slice 41 (tySip)) (.u false), .val 2 (.int .i64) (.u false), .box 3 25 (tyWindow) (.u false), .val 7 (.slice 3 (.int .i64)) (.u true), .val 8 (.int .i64) (.u false), .val 9 (.int .i64) (.u false)]
def spec_LimitsOf_l1_fuel (l1_1 : List TSip) (trip2_1 : Int) (w3 : TWindow) (out7 : List Int) (now8 : Int) (i9 : Int) : Nat := ((l1_1.length : Int) - i9).toNat + 1
noncomputable def spec_LimitsOf_l1 : Nat → List TSip → Int → TWindow → List Int → Int → Int → Option (List Int × Unit)
  | 0, _, _, _, _, _, _ => none
  | N + 1, l1_1, trip2_1, w3, out7, now8, i9 =>
    bif decide (i9 < (l1_1.length : Int)) then
      guardP (0 ≤ i9 ∧ i9 < l1_1.length) <|
      Option.bind (spec_l30Now now8 (l1_1.getD i9.toNat zSip)) fun t24 =>
      guardP (0 ≤ i9 ∧ i9 < l1_1.length) <|
      Option.bind (spec_l30Sip w3 (l1_1.getD i9.toNat zSip) t24.1 trip2_1) fun t32 =>
      guardP (out7.length + ([t32.1.2.2.1]).length ≤ capN) <|
      spec_LimitsOf_l1 N l1_1 trip2_1 t32.1 (out7 ++ ([t32.1.2.2.1])) t24.1 (IntKind.i64.wrap (i9 + (1 : Int)))
    else
      some (out7, ())
noncomputable def spec_LimitsOf (w0 : TWindow) (l1 : List TSip) (trip2 : Int) : Option (List Int × Unit) :=
  spec_LimitsOf_l1 (spec_LimitsOf_l1_fuel l1 trip2 w0 ([] : List Int) w0.2.2.2.2.2.1 (0 : Int)) l1 trip2 w0 ([] : List Int) w0.2.2.2.2.2.1 (0 : Int)
@[reducible] def laws_sameInts_l1_p : List PE := [.val 0 (.slice 3 (.int .i64)) (.u false), .val 1 (.slice 3 (.int .i64)) (.u false), .val 5 (.int .i64) (.u false)]
def laws_sameInts_l1_fuel (a0_1 : List Int) (b1_1 : List Int) (i5 : Int) : Nat := ((a0_1.length : Int) - i5).toNat + 1
noncomputable def laws_sameInts_l1 : Nat → List Int → List Int → Int → Option (Bool × Unit)
  | 0, _, _, _ => none
  | N + 1, a0_1, b1_1, i5 =>
    bif decide (i5 < (a0_1.length : Int)) then
      guardP (0 ≤ i5 ∧ i5 < a0_1.length) <|
      guardP (0 ≤ i5 ∧ i5 < b1_1.length) <|
      bif (a0_1.getD i5.toNat (0 : Int)) != (b1_1.getD i5.toNat (0 : Int)) then
        some (false, ())
      else
        laws_sameInts_l1 N a0_1 b1_1 (IntKind.i64.wrap (i5 + (1 : Int)))
    else
      some (true, ())
noncomputable def laws_sameInts (a0 : List Int) (b1 : List Int) : Option (Bool × Unit) :=
  bif (a0.length : Int) != (b1.length : Int) then
    some (false, ())
  else
    laws_sameInts_l1 (laws_sameInts_l1_fuel a0 b1 (0 : Int)) a0 b1 (0 : Int)
@[reducible] def spec_SizesOf_l1_p : List PE := [.val 1 (.slice 41 (tySip)) (.u false), .val 2 (.int .i64) (.u false), .box 3 25 (tyWindow) (.u false), .val 7 (.slice 3 (.int .i64)) (.u true), .val 8 (.int .i64) (.u false), .val 9 (.int .i64) (.u false)]
def spec_SizesOf_l1_fuel (l1_1 : List TSip) (trip2_1 : Int) (w3 : TWindow) (out7 : List Int) (now8 : Int) (i9 : Int) : Nat := ((l1_1.length : Int) - i9).toNat + 1
noncomputable def spec_SizesOf_l1 : Nat → List TSip → Int → TWindow → List Int → Int → Int → Option (List Int × Unit)
  | 0, _, _, _, _, _, _ => none
  | N + 1, l1_1, trip2_1, w3, out7, now8, i9 =>
    bif decide (i9 < (l1_1.length : Int)) then
      guardP (0 ≤ i9 ∧ i9 < l1_1.length) <|
      Option.bind (spec_l30Now now8 (l1_1.getD i9.toNat zSip)) fun t24 =>
      guardP (0 ≤ i9 ∧ i9 < l1_1.length) <|
      Option.bind (spec_l30Sip w3 (l1_1.getD i9.toNat zSip) t24.1 trip2_1) fun t32 =>
      guardP (out7.length + ([t32.1.1]).length ≤ capN) <|
      spec_SizesOf_l1 N l1_1 trip2_1 t32.1 (out7 ++ ([t32.1.1])) t24.1 (IntKind.i64.wrap (i9 + (1 : Int)))
    else
      some (out7, ())
noncomputable def spec_SizesOf (w0 : TWindow) (l1 : List TSip) (trip2 : Int) : Option (List Int × Unit) :=
  spec_SizesOf_l1 (spec_SizesOf_l1_fuel l1 trip2 w0 ([] : List Int) w0.2.2.2.2.2.1 (0 : Int)) l1 trip2 w0 ([] : List Int) w0.2.2.2.2.2.1 (0 : Int)
noncomputable def impl_one (holds0 : Bool) : Option (Int × Unit) :=
  bif holds0 then
    some ((1 : Int), ())
  else
    some ((0 : Int), ())
@[reducible] def impl_FramesNeeded_l1_p : List PE := [.val 7 (.int .i64) (.u false), .val 8 (.int .i64) (.u false), .val 16 (.slice 3 (.int .i64)) (.u true), .val 17 (.int .i64) (.u false), .val 18 (.int .i64) (.u false)]
def impl_FramesNeeded_l1_fuel (count7 : Int) (before8 : Int) (t16_1 : List Int) (t17_1 : Int) (t18 : Int) : Nat := (t17_1 - t18).toNat + 1
noncomputable def impl_FramesNeeded_l1 : Nat → Int → Int → List Int → Int → Int → Option (Int × Unit)
  | 0, _, _, _, _, _ => none
  | N + 1, count7, before8, t16_1, t17_1, t18 =>
    bif decide (t18 < t17_1) then
      guardP (0 ≤ t18 ∧ t18 < t16_1.length) <|
      Option.bind (impl_one ((t16_1.getD t18.toNat (0 : Int)) != before8)) fun t26 =>
      impl_FramesNeeded_l1 N (IntKind.i64.wrap (count7 + t26.1)) (t16_1.getD t18.toNat (0 : Int)) t16_1 t17_1 (IntKind.i64.wrap (t18 + (1 : Int)))
    else
      some (count7, ())
noncomputable def impl_FramesNeeded (w0 : TWindow) (l1 : List TSip) (trip2 : Int) : Option (Int × Unit) :=
  Option.bind (impl_LimitsOf w0 l1 trip2) fun t16 =>
  impl_FramesNeeded_l1 (impl_FramesNeeded_l1_fuel (0 : Int) w0.2.2.1 t16.1 (t16.1.length : Int) (0 : Int)) (0 : Int) w0.2.2.1 t16.1 (t16.1.length : Int) (0 : Int)
@[reducible] def spec_FramesNeeded_j1_p : List PE := [.val 7 (.int .i64) (.u false), .val 8 (.slice 3 (.int .i64)) (.u true), .val 10 (.int .i64) (.u false)]
noncomputable def spec_FramesNeeded_j1 (K1 : (Int × List Int × Int × Int × Unit) → Option (Int × Unit)) (n7_1 : Int) (limits8_1 : List Int) (i10_1 : Int) : Option (Int × Unit) :=
  guardP (0 ≤ i10_1 ∧ i10_1 < limits8_1.length) <|
  K1 (n7_1, limits8_1, limits8_1.getD i10_1.toNat (0 : Int), IntKind.i64.wrap (i10_1 + (1 : Int)), ())
@[reducible] def spec_FramesNeeded_l1_p : List PE := [.val 7 (.int .i64) (.u false), .val 8 (.slice 3 (.int .i64)) (.u true), .val 9 (.int .i64) (.u false), .val 10 (.int .i64) (.u false)]
def spec_FramesNeeded_l1_fuel (n7 : Int) (limits8 : List Int) (last9 : Int) (i10 : Int) : Nat := ((limits8.length : Int) - i10).toNat + 1
noncomputable def spec_FramesNeeded_l1 : Nat → Int → List Int → Int → Int → Option (Int × Unit)
  | 0, _, _, _, _ => none
  | N + 1, n7, limits8, last9, i10 =>
    bif decide (i10 < (limits8.length : Int)) then
      guardP (0 ≤ i10 ∧ i10 < limits8.length) <|
      bif (limits8.getD i10.toNat (0 : Int)) != last9 then
        spec_FramesNeeded_j1 (fun v => spec_FramesNeeded_l1 N v.1 v.2.1 v.2.2.1 v.2.2.2.1) (IntKind.i64.wrap (n7 + (1 : Int))) limits8 i10
      else
        spec_FramesNeeded_j1 (fun v => spec_FramesNeeded_l1 N v.1 v.2.1 v.2.2.1 v.2.2.2.1) n7 limits8 i10
    else
      some (n7, ())
noncomputable def spec_FramesNeeded (w0 : TWindow) (l1 : List TSip) (trip2 : Int) : Option (Int × Unit) :=
  Option.bind (spec_LimitsOf w0 l1 trip2) fun t14 =>
  spec_FramesNeeded_l1 (spec_FramesNeeded_l1_fuel (0 : Int) t14.1 w0.2.2.1 (0 : Int)) (0 : Int) t14.1 w0.2.2.1 (0 : Int)
@[reducible] def impl_IsRising_l1_p : List PE := [.val 0 (.slice 3 (.int .i64)) (.u false), .val 3 (.int .i64) (.u false)]
def impl_IsRising_l1_fuel (l0_1 : List Int) (i3 : Int) : Nat := ((l0_1.length : Int) - i3).toNat + 1
noncomputable def impl_IsRising_l1 : Nat → List Int → Int → Option (Bool × Unit)
  | 0, _, _ => none
  | N + 1, l0_1, i3 =>
    bif decide (i3 < (l0_1.length : Int)) then
      guardP (0 ≤ i3 ∧ i3 < l0_1.length) <|
      guardP (0 ≤ (IntKind.i64.wrap (i3 - (1 : Int))) ∧ (IntKind.i64.wrap (i3 - (1 : Int))) < l0_1.length) <|
      bif decide ((l0_1.getD i3.toNat (0 : Int)) < (l0_1.getD (IntKind.i64.wrap (i3 - (1 : Int))).toNat (0 : Int))) then
        some (false, ())
      else
        impl_IsRising_l1 N l0_1 (IntKind.i64.wrap (i3 + (1 : Int)))
    else
      some (true, ())
noncomputable def impl_IsRising (l0 : List Int) : Option (Bool × Unit) :=
  impl_IsRising_l1 (impl_IsRising_l1_fuel l0 (1 : Int)) l0 (1 : Int)
@[reducible] def spec_DrawIsRising_l1_p : List PE := [.val 4 (.slice 41 (tySip)) (.u true), .val 6 (.slice 3 (.int .i64)) (.u true), .val 7 (.int .i64) (.u false)]
def spec_DrawIsRising_l1_fuel (l4 : List TSip) (out6 : List Int) (i7 : Int) : Nat := ((l4.length : Int) - i7).toNat + 1
noncomputable def spec_DrawIsRising_l1 : Nat → List TSip → List Int → Int → Option (List Int × Unit)
  | 0, _, _, _ => none
  | N + 1, l4, out6, i7 =>
    bif decide (i7 < (l4.length : Int)) then
      guardP (0 ≤ i7 ∧ i7 < l4.length) <|
      guardP (out6.length + ([(l4.getD i7.toNat zSip).1]).length ≤ capN) <|
      spec_DrawIsRising_l1 N l4 (out6 ++ ([(l4.getD i7.toNat zSip).1])) (IntKind.i64.wrap (i7 + (1 : Int)))
    else
      some (out6, ())
noncomputable def spec_DrawIsRising (code0 : List Int) : Option (List Int × Unit) :=
  Option.bind (spec_l30Draw code0) fun t10 =>
  guardP ((2 : Int) ≠ 0) <|
  bif (Int.tmod (code0.length : Int) (2 : Int)) == (0 : Int) then
    Option.bind (spec_LimitsOf t10.1 t10.2.1 t10.2.2.1) fun t21 =>
    some (t21.1, ())
  else
    spec_DrawIsRising_l1 (spec_DrawIsRising_l1_fuel t10.2.1 ([] : List Int) (0 : Int)) t10.2.1 ([] : List Int) (0 : Int)
@[reducible] def spec_IsRising_l1_p : List PE := [.val 0 (.slice 3 (.int .i64)) (.u false), .val 3 (.int .i64) (.u false)]
def spec_IsRising_l1_fuel (l0_1 : List Int) (i3 : Int) : Nat := ((l0_1.length : Int) - i3).toNat + 1
noncomputable def spec_IsRising_l1 : Nat → List Int → Int → Option (Bool × Unit)
  | 0, _, _ => none
  | N + 1, l0_1, i3 =>
    bif decide (i3 < (l0_1.length : Int)) then
      guardP (0 ≤ i3 ∧ i3 < l0_1.length) <|
      guardP (0 ≤ (IntKind.i64.wrap (i3 - (1 : Int))) ∧ (IntKind.i64.wrap (i3 - (1 : Int))) < l0_1.length) <|
      bif decide ((l0_1.getD i3.toNat (0 : Int)) < (l0_1.getD (IntKind.i64.wrap (i3 - (1 : Int))).toNat (0 : Int))) then
        some (false, ())
      else
        spec_IsRising_l1 N l0_1 (IntKind.i64.wrap (i3 + (1 : Int)))
    else
      some (true, ())
noncomputable def spec_IsRising (l0 : List Int) : Option (Bool × Unit) :=
  spec_IsRising_l1 (spec_IsRising_l1_fuel l0 (1 : Int)) l0 (1 : Int)
noncomputable def laws_FnGrowths (code0 : List Int) : Option (Bool × Unit) :=
  Option.bind (laws_big code0) fun t11 =>
  bif t11.1 then
    some (true, ())
  else
    Option.bind (spec_DrawFeedWindow code0) fun t14 =>
    Option.bind (impl_FeedWindow t14.1 t14.2.1 t14.2.2.1) fun t21 =>
    Option.bind (impl_LimitsOf t14.1 t14.2.1 t14.2.2.1) fun t25 =>
    Option.bind (impl_SizesOf t14.1 t14.2.1 t14.2.2.1) fun t29 =>
    Option.bind (spec_FeedWindow t14.1 t14.2.1 t14.2.2.1) fun t34 =>
    Option.bind (bif (!(eqV (tyWindow) t21.1 t34.1)) then some (([] : List Int), ()) else (spec_LimitsOf t14.1 t14.2.1 t14.2.2.1)) fun t41 =>
    Option.bind (bif (!(eqV (tyWindow) t21.1 t34.1)) then some (false, ()) else (laws_sameInts t25.1 t41.1)) fun t42 =>
    let t44 : Bool := (!(eqV (tyWindow) t21.1 t34.1)) || (!t42.1)
    Option.bind (bif t44 then some (([] : List Int), ()) else (spec_SizesOf t14.1 t14.2.1 t14.2.2.1)) fun t50 =>
    Option.bind (bif t44 then some (false, ()) else (laws_sameInts t29.1 t50.1)) fun t51 =>
    Option.bind (bif (t44 || (!t51.1)) then some ((0 : Int), ()) else (impl_FramesNeeded t14.1 t14.2.1 t14.2.2.1)) fun t58 =>
    Option.bind (bif (t44 || (!t51.1)) then some ((0 : Int), ()) else (spec_FramesNeeded t14.1 t14.2.1 t14.2.2.1)) fun t62 =>
    bif (t44 || (!t51.1)) || (t58.1 != t62.1) then
      some (false, ())
    else
      Option.bind (spec_IsWindow t14.1) fun t66 =>
      Option.bind (bif t66.1 then (impl_IsRising t25.1) else some (false, ())) fun t69 =>
      Option.bind (bif (!t69.1) then some (false, ()) else (bif t66.1 then (impl_IsRising t29.1) else some (false, ()))) fun t73 =>
      let t82 : Bool := ((!t69.1) || (!t73.1)) || (decide (t21.1.1 > t21.1.2.1))
      let t91 : Int := IntKind.i64.wrap ((t25.1.length : Int) - (1 : Int))
      guardP ((t66.1 = true → (t82 = false → ((decide ((t25.1.length : Int) > (0 : Int))) = true → (0 ≤ t91 ∧ t91 < t25.1.length))))) <|
      let t98 : Bool := t82 || ((decide ((t25.1.length : Int) > (0 : Int))) && ((t25.1.getD t91.toNat (0 : Int)) != t21.1.2.2.1))
      Option.bind (bif t98 then some ((0 : Int), ()) else (bif t66.1 then (impl_FramesNeeded t14.1 t14.2.1 t14.2.2.1) else some ((0 : Int), ()))) fun t103 =>
      bif t66.1 && (t98 || (decide (t103.1 > (t14.2.1.length : Int)))) then
        some (false, ())
      else
        Option.bind (spec_DrawIsRising code0) fun t110 =>
        Option.bind (impl_IsRising t110.1) fun t112 =>
        Option.bind (spec_IsRising t110.1) fun t114 =>
        some (t112.1 == t114.1, ())
def tab : Tab := lookT [(3, .int .i64), (4, .bool), (5, .int .u8), (22, .slice 5 (.int .u8)), (25, tyWindow), (26, .slice 41 (tySip)), (30, .slice 3 (.int .i64)), (37, .slice 25 (tyWindow)), (41, tySip), (55, tyl1Cur), (58, .int .u64)]
theorem tok_3 : TOK Try.prog 3 (.int .i64) := ⟨by kernel_rfl, by kernel_rfl⟩
theorem tok_4 : TOK Try.prog 4 (.bool) := ⟨by kernel_rfl, by kernel_rfl⟩
theorem tok_5 : TOK Try.prog 5 (.int .u8) := ⟨by kernel_rfl, by kernel_rfl⟩
theorem tok_22 : TOK Try.prog 22 (.slice 5 (.int .u8)) := ⟨by kernel_rfl, by kernel_rfl⟩
theorem tok_25 : TOK Try.prog 25 (tyWindow) := ⟨by kernel_rfl, by kernel_rfl⟩
theorem tok_26 : TOK Try.prog 26 (.slice 41 (tySip)) := ⟨by kernel_rfl, by kernel_rfl⟩
theorem tok_30 : TOK Try.prog 30 (.slice 3 (.int .i64)) := ⟨by kernel_rfl, by kernel_rfl⟩
theorem tok_37 : TOK Try.prog 37 (.slice 25 (tyWindow)) := ⟨by kernel_rfl, by kernel_rfl⟩
theorem tok_41 : TOK Try.prog 41 (tySip) := ⟨by kernel_rfl, by kernel_rfl⟩
theorem tok_55 : TOK Try.prog 55 (tyl1Cur) := ⟨by kernel_rfl, by kernel_rfl⟩
theorem tok_58 : TOK Try.prog 58 (.int .u64) := ⟨by kernel_rfl, by kernel_rfl⟩
theorem tab_ok : tab.ok Try.prog := (tab_cons tok_3 (tab_cons tok_4 (tab_cons tok_5 (tab_cons tok_22 (tab_cons tok_25 (tab_cons tok_26 (tab_cons tok_30 (tab_cons tok_37 (tab_cons tok_41 (tab_cons tok_55 (tab_cons tok_58 tab_nil)))))))))))
abbrev glob : Glob := Glob.none
theorem eqo_25 : EqOK Try.prog 25 (tyWindow) := EqOK.of (by kernel_rfl) (by kernel_rfl) rfl (by decide)
def eqsL : List Nat := [25]
theorem eqs_ok : EqsL Try.prog tab eqsL := (eqs_cons eqo_25 rfl eqs_nil)
@[reducible] def cfg (ln : List Nat) (Γ : Env) (ΓL : EnvL) (ΓB : EnvB) : Cfg := { τ := tab, eq := fun e => eqsL.any (Nat.beq e), Γ := Γ, ΓL := ΓL, ΓB := ΓB, lent := ln }
theorem cfg_ok {ln : List Nat} {Γ : Env} {ΓL : EnvL} {ΓB : EnvB} (h : Γ.ok Try.prog glob) (hL : ΓL.ok Try.prog glob) (hB : ΓB.ok Try.prog glob) : (cfg ln Γ ΓL ΓB).ok Try.prog glob := ⟨tab_ok, eqs_ok, h, by kernel_rfl, hL, hB⟩
@[reducible] noncomputable def e_laws_big : FnE := { f := 4, args := [.slice 5 (.int .u8)], res := [.bool], F := fun xs => laws_big xs.1 }
theorem ok_laws_big : FnOK Try.prog glob e_laws_big := by
  refine FnOK.of (e := e_laws_big) (C := cfg [] [] [] []) (cfg_ok env_nil envL_nil envB_nil) Try.func4 (c := codeOf Try.f4) rfl Try.call4 (by decide)
    (.leaf) ?_ ?_
  · exact conds_leaf _ _
  · intro xs r h
    refine Eq.trans (Eq.symm ?_) h
    kernel_rfl
@[reducible] noncomputable def e_spec_l1New : FnB := { f := 25, args := [.sh (.slice 5 (.int .u8))], res := .newb 55 (tyl1Cur), F := fun xs => spec_l1New xs.1 }
theorem ok_spec_l1New : FnBOK Try.prog glob e_spec_l1New := by
  refine FnBOK.of (e := e_spec_l1New) (C := cfg [] [] [] []) (cfg_ok env_nil envL_nil envB_nil) rfl Try.func25 (c := codeOf Try.f25) rfl Try.call25 (by decide)
    ((.seq .leaf (.seq .leaf (.seq (.seq .leaf (.block (.loop spec_l1New_l1_p (fun N v => spec_l1New_l1 N v.1 v.2.1 v.2.2.1) (fun v => spec_l1New_l1_fuel v.1 v.2.1 v.2.2.1) (fun K1 => .leaf)))) .leaf)))) ?_ ?_
  · exact ⟨conds_leaf _ _, ⟨conds_leaf _ _, ⟨⟨conds_leaf _ _, ⟨fun _ => rfl, fun N => ⟨(fun v => by kernel_rfl), conds_leaf _ _⟩⟩⟩, conds_leaf _ _⟩⟩⟩
  · intro xs r h
    refine Eq.trans (Eq.symm ?_) h
    kernel_rfl
@[reducible] noncomputable def e_spec_l1Byte : FnB := { f := 38, args := [.bx 55 (tyl1Cur) false], res := .vals [.int .i64], F := fun xs => spec_l1Byte xs.1 }
theorem ok_spec_l1Byte : FnBOK Try.prog glob e_spec_l1Byte := by
  refine FnBOK.of (e := e_spec_l1Byte) (C := cfg [0] [] [] []) (cfg_ok env_nil envL_nil envB_nil) rfl Try.func38 (c := codeOf Try.f38) rfl Try.call38 (by decide)
    (.leaf) ?_ ?_
  · exact conds_leaf _ _
  · intro xs r h
    refine Eq.trans (Eq.symm ?_) h
    kernel_rfl
@[reducible] noncomputable def e_spec_l1Below : FnB := { f := 27, args := [.bx 55 (tyl1Cur) false, .sh (.int .i64)], res := .vals [.int .i64], F := fun xs => spec_l1Below xs.1 xs.2.1 }
theorem ok_spec_l1Below : FnBOK Try.prog glob e_spec_l1Below := by
  refine FnBOK.of (e := e_spec_l1Below) (C := cfg [0] [] [] [e_spec_l1Byte]) (cfg_ok env_nil envL_nil (envB_cons ok_spec_l1Byte envB_nil)) rfl Try.func27 (c := codeOf Try.f27) rfl Try.call27 (by decide)
    (.leaf) ?_ ?_
  · exact conds_leaf _ _
  · intro xs r h
    refine Eq.trans (Eq.symm ?_) h
    kernel_rfl
@[reducible] noncomputable def e_spec_l1In : FnE := { f := 24, args := [.int .i64, .int .i64, .int .i64], res := [.bool], F := fun xs => spec_l1In xs.1 xs.2.1 xs.2.2.1 }
theorem ok_spec_l1In : FnOK Try.prog glob e_spec_l1In := by
  refine FnOK.of (e := e_spec_l1In) (C := cfg [] [] [] []) (cfg_ok env_nil envL_nil envB_nil) Try.func24 (c := codeOf Try.f24) rfl Try.call24 (by decide)
    (.leaf) ?_ ?_
  · exact conds_leaf _ _
  · intro xs r h
    refine Eq.trans (Eq.symm ?_) h
    kernel_rfl
@[reducible] noncomputable def e_spec_NewWindow : FnE := { f := 37, args := [.int .i64, .int .i64], res := [tyWindow, .bool], F := fun xs => spec_NewWindow xs.1 xs.2.1 }
theorem ok_spec_NewWindow : FnOK Try.prog glob e_spec_NewWindow := by
  refine FnOK.of (e := e_spec_NewWindow) (C := cfg [] [e_spec_l1In] [] []) (cfg_ok (env_cons ok_spec_l1In env_nil) envL_nil envB_nil) Try.func37 (c := codeOf Try.f37) rfl Try.call37 (by decide)
    (.leaf) ?_ ?_
  · exact conds_leaf _ _
  · intro xs r h
    refine Eq.trans (Eq.symm ?_) h
    kernel_rfl
@[reducible] noncomputable def e_spec_IsWindow : FnE := { f := 15, args := [tyWindow], res := [.bool], F := fun xs => spec_IsWindow xs.1 }
theorem ok_spec_IsWindow : FnOK Try.prog glob e_spec_IsWindow := by
  refine FnOK.of (e := e_spec_IsWindow) (C := cfg [] [e_spec_l1In] [] []) (cfg_ok (env_cons ok_spec_l1In env_nil) envL_nil envB_nil) Try.func15 (c := codeOf Try.f15) rfl Try.call15 (by decide)
    (.leaf) ?_ ?_
  · exact conds_leaf _ _
  · intro xs r h
    refine Eq.trans (Eq.symm ?_) h
    kernel_rfl
@[reducible] noncomputable def e_spec_SeeBytes : FnE := { f := 34, args := [tyWindow, .int .i64], res := [tyWindow, .bool], F := fun xs => spec_SeeBytes xs.1 xs.2.1 }
theorem ok_spec_SeeBytes : FnOK Try.prog glob e_spec_SeeBytes := by
  refine FnOK.of (e := e_spec_SeeBytes) (C := cfg [] [e_spec_IsWindow] [] []) (cfg_ok (env_cons ok_spec_IsWindow env_nil) envL_nil envB_nil) Try.func34 (c := codeOf Try.f34) rfl Try.call34 (by decide)
    (.leaf) ?_ ?_
  · exact conds_leaf _ _
  · intro xs r h
    refine Eq.trans (Eq.symm ?_) h
    kernel_rfl
@[reducible] noncomputable def e_spec_ReadBytes : FnE := { f := 35, args := [tyWindow, .int .i64], res := [tyWindow, .bool], F := fun xs => spec_ReadBytes xs.1 xs.2.1 }
theorem ok_spec_ReadBytes : FnOK Try.prog glob e_spec_ReadBytes := by
  refine FnOK.of (e := e_spec_ReadBytes) (C := cfg [] [e_spec_IsWindow] [] []) (cfg_ok (env_cons ok_spec_IsWindow env_nil) envL_nil envB_nil) Try.func35 (c := codeOf Try.f35) rfl Try.call35 (by decide)
    (.leaf) ?_ ?_
  · exact conds_leaf _ _
  · intro xs r h
    refine Eq.trans (Eq.symm ?_) h
    kernel_rfl
@[reducible] noncomputable def e_spec_MustRaise : FnE := { f := 42, args := [tyWindow], res := [.bool], F := fun xs => spec_MustRaise xs.1 }
theorem ok_spec_MustRaise : FnOK Try.prog glob e_spec_MustRaise := by
  refine FnOK.of (e := e_spec_MustRaise) (C := cfg [] [e_spec_IsWindow] [] []) (cfg_ok (env_cons ok_spec_IsWindow env_nil) envL_nil envB_nil) Try.func42 (c := codeOf Try.f42) rfl Try.call42 (by decide)
    (.leaf) ?_ ?_
  · exact conds_leaf _ _
  · intro xs r h
    refine Eq.trans (Eq.symm ?_) h
    kernel_rfl
@[reducible] noncomputable def e_spec_RaiseWindow : FnE := { f := 36, args := [tyWindow, .int .i64, .int .i64], res := [tyWindow, .bool], F := fun xs => spec_RaiseWindow xs.1 xs.2.1 xs.2.2.1 }
theorem ok_spec_RaiseWindow : FnOK Try.prog glob e_spec_RaiseWindow := by
  refine FnOK.of (e := e_spec_RaiseWindow) (C := cfg [] [e_spec_MustRaise, e_spec_l1In] [] []) (cfg_ok (env_cons ok_spec_MustRaise (env_cons ok_spec_l1In env_nil)) envL_nil envB_nil) Try.func36 (c := codeOf Try.f36) rfl Try.call36 (by decide)
    ((.seq .leaf (.seq .leaf (.join spec_RaiseWindow_j1_p (fun v => spec_RaiseWindow_j1 v.1 v.2.1 v.2.2.1) .leaf .leaf)))) ?_ ?_
  · exact ⟨conds_leaf _ _, ⟨conds_leaf _ _, ⟨conds_leaf _ _, (fun v => by kernel_rfl), conds_leaf _ _⟩⟩⟩
  · intro xs r h
    refine Eq.trans (Eq.symm ?_) h
    kernel_rfl
@[reducible] noncomputable def e_spec_l1PickInt : FnB := { f := 28, args := [.bx 55 (tyl1Cur) false, .sh (.slice 3 (.int .i64))], res := .vals [.int .i64], F := fun xs => spec_l1PickInt xs.1 xs.2.1 }
theorem ok_spec_l1PickInt : FnBOK Try.prog glob e_spec_l1PickInt := by
  refine FnBOK.of (e := e_spec_l1PickInt) (C := cfg [0] [] [] [e_spec_l1Below]) (cfg_ok env_nil envL_nil (envB_cons ok_spec_l1Below envB_nil)) rfl Try.func28 (c := codeOf Try.f28) rfl Try.call28 (by decide)
    (.leaf) ?_ ?_
  · exact conds_leaf _ _
  · intro xs r h
    refine Eq.trans (Eq.symm ?_) h
    kernel_rfl
@[reducible] noncomputable def e_spec_l11Window : FnB := { f := 26, args := [.bx 55 (tyl1Cur) false], res := .vals [tyWindow], F := fun xs => spec_l11Window xs.1 }
theorem ok_spec_l11Window : FnBOK Try.prog glob e_spec_l11Window := by
  refine FnBOK.of (e := e_spec_l11Window) (C := cfg [0] [e_spec_NewWindow, e_spec_SeeBytes, e_spec_ReadBytes, e_spec_RaiseWindow] [] [e_spec_l1Below, e_spec_l1PickInt]) (cfg_ok (env_cons ok_spec_NewWindow (env_cons ok_spec_SeeBytes (env_cons ok_spec_ReadBytes (env_cons ok_spec_RaiseWindow env_nil)))) envL_nil (envB_cons ok_spec_l1Below (envB_cons ok_spec_l1PickInt envB_nil))) rfl Try.func26 (c := codeOf Try.f26) rfl Try.call26 (by decide)
    ((.seq .leaf (.seq .leaf (.seq .leaf (.seq (.seq .leaf (.block (.loop spec_l11Window_l1_p (fun N v => spec_l11Window_l1 N v.1 v.2.1 v.2.2.1 v.2.2.2.1) (fun v => spec_l11Window_l1_fuel v.1 v.2.1 v.2.2.1 v.2.2.2.1) (fun K1 => (.seq .leaf (.join spec_l11Window_j1_p (fun v => spec_l11Window_j1 K1 v.1 v.2.1 v.2.2.1 v.2.2.2.1) .leaf .leaf)))))) .leaf))))) ?_ ?_
  · exact ⟨conds_leaf _ _, ⟨conds_leaf _ _, ⟨conds_leaf _ _, ⟨⟨conds_leaf _ _, ⟨fun _ => rfl, fun N => ⟨(fun v => by kernel_rfl), ⟨conds_leaf _ _, ⟨conds_leaf _ _, (fun v => by kernel_rfl), conds_leaf _ _⟩⟩⟩⟩⟩, conds_leaf _ _⟩⟩⟩⟩
  · intro xs r h
    refine Eq.trans (Eq.symm ?_) h
    kernel_rfl
@[reducible] noncomputable def e_spec_l30Draw : FnE := { f := 19, args := [.slice 5 (.int .u8)], res := [tyWindow, .slice 41 (tySip), .int .i64], F := fun xs => spec_l30Draw xs.1 }
theorem ok_spec_l30Draw : FnOK Try.prog glob e_spec_l30Draw := by
  refine FnOK.of (e := e_spec_l30Draw) (C := cfg [] [] [] [e_spec_l1New, e_spec_l11Window, e_spec_l1Below, e_spec_l1PickInt]) (cfg_ok env_nil envL_nil (envB_cons ok_spec_l1New (envB_cons ok_spec_l11Window (envB_cons ok_spec_l1Below (envB_cons ok_spec_l1PickInt envB_nil))))) Try.func19 (c := codeOf Try.f19) rfl Try.call19 (by decide)
    ((.seq .leaf (.seq .leaf (.seq .leaf (.seq .leaf (.seq (.seq .leaf (.block (.loop spec_l30Draw_l1_p (fun N v => spec_l30Draw_l1 N v.1 v.2.1 v.2.2.1 v.2.2.2.1 v.2.2.2.2.1) (fun v => spec_l30Draw_l1_fuel v.1 v.2.1 v.2.2.1 v.2.2.2.1 v.2.2.2.2.1) (fun K1 => .leaf)))) .leaf)))))) ?_ ?_
  · exact ⟨conds_leaf _ _, ⟨conds_leaf _ _, ⟨conds_leaf _ _, ⟨conds_leaf _ _, ⟨⟨conds_leaf _ _, ⟨fun _ => rfl, fun N => ⟨(fun v => by kernel_rfl), conds_leaf _ _⟩⟩⟩, conds_leaf _ _⟩⟩⟩⟩⟩
  · intro xs r h
    refine Eq.trans (Eq.symm ?_) h
    kernel_rfl
@[reducible] noncomputable def e_spec_DrawFeedWindow : FnE := { f := 5, args := [.slice 5 (.int .u8)], res := [tyWindow, .slice 41 (tySip), .int .i64], F := fun xs => spec_DrawFeedWindow xs.1 }
theorem ok_spec_DrawFeedWindow : FnOK Try.prog glob e_spec_DrawFeedWindow := by
  refine FnOK.of (e := e_spec_DrawFeedWindow) (C := cfg [] [e_spec_l30Draw] [] []) (cfg_ok (env_cons ok_spec_l30Draw env_nil) envL_nil envB_nil) Try.func5 (c := codeOf Try.f5) rfl Try.call5 (by decide)
    (.leaf) ?_ ?_
  · exact conds_leaf _ _
  · intro xs r h
    refine Eq.trans (Eq.symm ?_) h
    kernel_rfl
@[reducible] noncomputable def e_impl_within : FnE := { f := 40, args := [.int .i64, .int .i64, .int .i64], res := [.bool], F := fun xs => impl_within xs.1 xs.2.1 xs.2.2.1 }
theorem ok_impl_within : FnOK Try.prog glob e_impl_within := by
  refine FnOK.of (e := e_impl_within) (C := cfg [] [] [] []) (cfg_ok env_nil envL_nil envB_nil) Try.func40 (c := codeOf Try.f40) rfl Try.call40 (by decide)
    (.leaf) ?_ ?_
  · exact conds_leaf _ _
  · intro xs r h
    refine Eq.trans (Eq.symm ?_) h
    kernel_rfl
@[reducible] noncomputable def e_impl_IsWindow : FnE := { f := 39, args := [tyWindow], res := [.bool], F := fun xs => impl_IsWindow xs.1 }
theorem ok_impl_IsWindow : FnOK Try.prog glob e_impl_IsWindow := by
  refine FnOK.of (e := e_impl_IsWindow) (C := cfg [] [e_impl_within] [] []) (cfg_ok (env_cons ok_impl_within env_nil) envL_nil envB_nil) Try.func39 (c := codeOf Try.f39) rfl Try.call39 (by decide)
    (.leaf) ?_ ?_
  · exact conds_leaf _ _
  · intro xs r h
    refine Eq.trans (Eq.symm ?_) h
    kernel_rfl
@[reducible] noncomputable def e_impl_LeftFor : FnE := { f := 29, args := [tyWindow], res := [.int .i64], F := fun xs => impl_LeftFor xs.1 }
theorem ok_impl_LeftFor : FnOK Try.prog glob e_impl_LeftFor := by
  refine FnOK.of (e := e_impl_LeftFor) (C := cfg [] [e_impl_IsWindow] [] []) (cfg_ok (env_cons ok_impl_IsWindow env_nil) envL_nil envB_nil) Try.func29 (c := codeOf Try.f29) rfl Try.call29 (by decide)
    (.leaf) ?_ ?_
  · exact conds_leaf _ _
  · intro xs r h
    refine Eq.trans (Eq.symm ?_) h
    kernel_rfl
@[reducible] noncomputable def e_impl_SeeBytes : FnE := { f := 30, args := [tyWindow, .int .i64], res := [tyWindow, .bool], F := fun xs => impl_SeeBytes xs.1 xs.2.1 }
theorem ok_impl_SeeBytes : FnOK Try.prog glob e_impl_SeeBytes := by
  refine FnOK.of (e := e_impl_SeeBytes) (C := cfg [] [e_impl_IsWindow, e_impl_within] [] []) (cfg_ok (env_cons ok_impl_IsWindow (env_cons ok_impl_within env_nil)) envL_nil envB_nil) Try.func30 (c := codeOf Try.f30) rfl Try.call30 (by decide)
    (.leaf) ?_ ?_
  · exact conds_leaf _ _
  · intro xs r h
    refine Eq.trans (Eq.symm ?_) h
    kernel_rfl
@[reducible] noncomputable def e_impl_ReadBytes : FnE := { f := 31, args := [tyWindow, .int .i64], res := [tyWindow, .bool], F := fun xs => impl_ReadBytes xs.1 xs.2.1 }
theorem ok_impl_ReadBytes : FnOK Try.prog glob e_impl_ReadBytes := by
  refine FnOK.of (e := e_impl_ReadBytes) (C := cfg [] [e_impl_IsWindow, e_impl_within] [] []) (cfg_ok (env_cons ok_impl_IsWindow (env_cons ok_impl_within env_nil)) envL_nil envB_nil) Try.func31 (c := codeOf Try.f31) rfl Try.call31 (by decide)
    (.leaf) ?_ ?_
  · exact conds_leaf _ _
  · intro xs r h
    refine Eq.trans (Eq.symm ?_) h
    kernel_rfl
@[reducible] noncomputable def e_impl_MustRaise : FnE := { f := 41, args := [tyWindow], res := [.bool], F := fun xs => impl_MustRaise xs.1 }
theorem ok_impl_MustRaise : FnOK Try.prog glob e_impl_MustRaise := by
  refine FnOK.of (e := e_impl_MustRaise) (C := cfg [] [e_impl_IsWindow] [] []) (cfg_ok (env_cons ok_impl_IsWindow env_nil) envL_nil envB_nil) Try.func41 (c := codeOf Try.f41) rfl Try.call41 (by decide)
    (.leaf) ?_ ?_
  · exact conds_leaf _ _
  · intro xs r h
    refine Eq.trans (Eq.symm ?_) h
    kernel_rfl
@[reducible] noncomputable def e_impl_RaiseWindow : FnE := { f := 32, args := [tyWindow, .int .i64, .int .i64], res := [tyWindow, .bool], F := fun xs => impl_RaiseWindow xs.1 xs.2.1 xs.2.2.1 }
theorem ok_impl_RaiseWindow : FnOK Try.prog glob e_impl_RaiseWindow := by
  refine FnOK.of (e := e_impl_RaiseWindow) (C := cfg [] [e_impl_MustRaise, e_impl_within] [] []) (cfg_ok (env_cons ok_impl_MustRaise (env_cons ok_impl_within env_nil)) envL_nil envB_nil) Try.func32 (c := codeOf Try.f32) rfl Try.call32 (by decide)
    ((.seq .leaf (.seq .leaf (.join impl_RaiseWindow_j1_p (fun v => impl_RaiseWindow_j1 v.1 v.2.1 v.2.2.1) .leaf .leaf)))) ?_ ?_
  · exact ⟨conds_leaf _ _, ⟨conds_leaf _ _, ⟨conds_leaf _ _, (fun v => by kernel_rfl), conds_leaf _ _⟩⟩⟩
  · intro xs r h
    refine Eq.trans (Eq.symm ?_) h
    kernel_rfl
@[reducible] noncomputable def e_impl_sips : FnE := { f := 20, args := [tyWindow, .slice 41 (tySip), .int .i64], res := [.slice 25 (tyWindow)], F := fun xs => impl_sips xs.1 xs.2.1 xs.2.2.1 }
theorem ok_impl_sips : FnOK Try.prog glob e_impl_sips := by
  refine FnOK.of (e := e_impl_sips) (C := cfg [] [e_impl_LeftFor, e_impl_SeeBytes, e_impl_ReadBytes, e_impl_RaiseWindow] [] []) (cfg_ok (env_cons ok_impl_LeftFor (env_cons ok_impl_SeeBytes (env_cons ok_impl_ReadBytes (env_cons ok_impl_RaiseWindow env_nil)))) envL_nil envB_nil) Try.func20 (c := codeOf Try.f20) rfl Try.call20 (by decide)
    ((.seq .leaf (.seq .leaf (.seq (.seq .leaf (.block (.loop impl_sips_l1_p (fun N v => impl_sips_l1 N v.1 v.2.1 v.2.2.1 v.2.2.2.1 v.2.2.2.2.1 v.2.2.2.2.2.1 v.2.2.2.2.2.2.1) (fun v => impl_sips_l1_fuel v.1 v.2.1 v.2.2.1 v.2.2.2.1 v.2.2.2.2.1 v.2.2.2.2.2.1 v.2.2.2.2.2.2.1) (fun K1 => .leaf)))) .leaf)))) ?_ ?_
  · exact ⟨conds_leaf _ _, ⟨conds_leaf _ _, ⟨⟨conds_leaf _ _, ⟨fun _ => rfl, fun N => ⟨(fun v => by kernel_rfl), conds_leaf _ _⟩⟩⟩, conds_leaf _ _⟩⟩⟩
  · intro xs r h
    refine Eq.trans (Eq.symm ?_) h
    kernel_rfl
@[reducible] noncomputable def e_impl_FeedWindow : FnE := { f := 6, args := [tyWindow, .slice 41 (tySip), .int .i64], res := [tyWindow], F := fun xs => impl_FeedWindow xs.1 xs.2.1 xs.2.2.1 }
theorem ok_impl_FeedWindow : FnOK Try.prog glob e_impl_FeedWindow := by
  refine FnOK.of (e := e_impl_FeedWindow) (C := cfg [] [e_impl_sips] [] []) (cfg_ok (env_cons ok_impl_sips env_nil) envL_nil envB_nil) Try.func6 (c := codeOf Try.f6) rfl Try.call6 (by decide)
    (.leaf) ?_ ?_
  · exact conds_leaf _ _
  · intro xs r h
    refine Eq.trans (Eq.symm ?_) h
    kernel_rfl
@[reducible] noncomputable def e_impl_LimitsOf : FnE := { f := 7, args := [tyWindow, .slice 41 (tySip), .int .i64], res := [.slice 3 (.int .i64)], F := fun xs => impl_LimitsOf xs.1 xs.2.1 xs.2.2.1 }
theorem ok_impl_LimitsOf : FnOK Try.prog glob e_impl_LimitsOf := by
  refine FnOK.of (e := e_impl_LimitsOf) (C := cfg [] [e_impl_sips] [] []) (cfg_ok (env_cons ok_impl_sips env_nil) envL_nil envB_nil) Try.func7 (c := codeOf Try.f7) rfl Try.call7 (by decide)
    ((.seq .leaf (.seq .leaf (.seq (.seq .leaf (.block (.loop impl_LimitsOf_l1_p (fun N v => impl_LimitsOf_l1 N v.1 v.2.1 v.2.2.1 v.2.2.2.1) (fun v => impl_LimitsOf_l1_fuel v.1 v.2.1 v.2.2.1 v.2.2.2.1) (fun K1 => .leaf)))) .leaf)))) ?_ ?_
  · exact ⟨conds_leaf _ _, ⟨conds_leaf _ _, ⟨⟨conds_leaf _ _, ⟨fun _ => rfl, fun N => ⟨(fun v => by kernel_rfl), conds_leaf _ _⟩⟩⟩, conds_leaf _ _⟩⟩⟩
  · intro xs r h
    refine Eq.trans (Eq.symm ?_) h
    kernel_rfl
@[reducible] noncomputable def e_impl_SizesOf : FnE := { f := 8, args := [tyWindow, .slice 41 (tySip), .int .i64], res := [.slice 3 (.int .i64)], F := fun xs => impl_SizesOf xs.1 xs.2.1 xs.2.2.1 }
theorem ok_impl_SizesOf : FnOK Try.prog glob e_impl_SizesOf := by
  refine FnOK.of (e := e_impl_SizesOf) (C := cfg [] [e_impl_sips] [] []) (cfg_ok (env_cons ok_impl_sips env_nil) envL_nil envB_nil) Try.func8 (c := codeOf Try.f8) rfl Try.call8 (by decide)
    ((.seq .leaf (.seq .leaf (.seq (.seq .leaf (.block (.loop impl_SizesOf_l1_p (fun N v => impl_SizesOf_l1 N v.1 v.2.1 v.2.2.1 v.2.2.2.1) (fun v => impl_SizesOf_l1_fuel v.1 v.2.1 v.2.2.1 v.2.2.2.1) (fun K1 => .leaf)))) .leaf)))) ?_ ?_
  · exact ⟨conds_leaf _ _, ⟨conds_leaf _ _, ⟨⟨conds_leaf _ _, ⟨fun _ => rfl, fun N => ⟨(fun v => by kernel_rfl), conds_leaf _ _⟩⟩⟩, conds_leaf _ _⟩⟩⟩
  · intro xs r h
    refine Eq.trans (Eq.symm ?_) h
    kernel_rfl
@[reducible] noncomputable def e_spec_l30Now : FnE := { f := 21, args := [.int .i64, tySip], res := [.int .i64], F := fun xs => spec_l30Now xs.1 xs.2.1 }
theorem ok_spec_l30Now : FnOK Try.prog glob e_spec_l30Now := by
  refine FnOK.of (e := e_spec_l30Now) (C := cfg [] [] [] []) (cfg_ok env_nil envL_nil envB_nil) Try.func21 (c := codeOf Try.f21) rfl Try.call21 (by decide)
    (.leaf) ?_ ?_
  · exact conds_leaf _ _
  · intro xs r h
    refine Eq.trans (Eq.symm ?_) h
    kernel_rfl
@[reducible] noncomputable def e_spec_LeftFor : FnE := { f := 33, args := [tyWindow], res := [.int .i64], F := fun xs => spec_LeftFor xs.1 }
theorem ok_spec_LeftFor : FnOK Try.prog glob e_spec_LeftFor := by
  refine FnOK.of (e := e_spec_LeftFor) (C := cfg [] [e_spec_IsWindow] [] []) (cfg_ok (env_cons ok_spec_IsWindow env_nil) envL_nil envB_nil) Try.func33 (c := codeOf Try.f33) rfl Try.call33 (by decide)
    (.leaf) ?_ ?_
  · exact conds_leaf _ _
  · intro xs r h
    refine Eq.trans (Eq.symm ?_) h
    kernel_rfl
@[reducible] noncomputable def e_spec_l30Sip : FnE := { f := 22, args := [tyWindow, tySip, .int .i64, .int .i64], res := [tyWindow], F := fun xs => spec_l30Sip xs.1 xs.2.1 xs.2.2.1 xs.2.2.2.1 }
theorem ok_spec_l30Sip : FnOK Try.prog glob e_spec_l30Sip := by
  refine FnOK.of (e := e_spec_l30Sip) (C := cfg [] [e_spec_LeftFor, e_spec_SeeBytes, e_spec_ReadBytes, e_spec_RaiseWindow] [] []) (cfg_ok (env_cons ok_spec_LeftFor (env_cons ok_spec_SeeBytes (env_cons ok_spec_ReadBytes (env_cons ok_spec_RaiseWindow env_nil)))) envL_nil envB_nil) Try.func22 (c := codeOf Try.f22) rfl Try.call22 (by decide)
    (.leaf) ?_ ?_
  · exact conds_leaf _ _
  · intro xs r h
    refine Eq.trans (Eq.symm ?_) h
    kernel_rfl
@[reducible] noncomputable def e_spec_FeedWindow : FnE := { f := 9, args := [tyWindow, .slice 41 (tySip), .int .i64], res := [tyWindow], F := fun xs => spec_FeedWindow xs.1 xs.2.1 xs.2.2.1 }
theorem ok_spec_FeedWindow : FnOK Try.prog glob e_spec_FeedWindow := by
  refine FnOK.of (e := e_spec_FeedWindow) (C := cfg [] [e_spec_l30Now, e_spec_l30Sip] [] []) (cfg_ok (env_cons ok_spec_l30Now (env_cons ok_spec_l30Sip env_nil)) envL_nil envB_nil) Try.func9 (c := codeOf Try.f9) rfl Try.call9 (by decide)
    ((.seq .leaf (.seq .leaf (.seq (.seq .leaf (.block (.loop spec_FeedWindow_l1_p (fun N v => spec_FeedWindow_l1 N v.1 v.2.1 v.2.2.1 v.2.2.2.1 v.2.2.2.2.1 v.2.2.2.2.2.1) (fun v => spec_FeedWindow_l1_fuel v.1 v.2.1 v.2.2.1 v.2.2.2.1 v.2.2.2.2.1 v.2.2.2.2.2.1) (fun K1 => .leaf)))) .leaf)))) ?_ ?_
  · exact ⟨conds_leaf _ _, ⟨conds_leaf _ _, ⟨⟨conds_leaf _ _, ⟨fun _ => rfl, fun N => ⟨(fun v => by kernel_rfl), conds_leaf _ _⟩⟩⟩, conds_leaf _ _⟩⟩⟩
  · intro xs r h
    refine Eq.trans (Eq.symm ?_) h
    kernel_rfl
@[reducible] noncomputable def e_spec_LimitsOf : FnE := { f := 11, args := [tyWindow, .slice 41 (tySip), .int .i64], res := [.slice 3 (.int .i64)], F := fun xs => spec_LimitsOf xs.1 xs.2.1 xs.2.2.1 }
theorem ok_spec_LimitsOf : FnOK Try.prog glob e_spec_LimitsOf := by
  refine FnOK.of (e := e_spec_LimitsOf) (C := cfg [] [e_spec_l30Now, e_spec_l30Sip] [] []) (cfg_ok (env_cons ok_spec_l30Now (env_cons ok_spec_l30Sip env_nil)) envL_nil envB_nil) Try.func11 (c := codeOf Try.f11) rfl Try.call11 (by decide)
    ((.seq .leaf (.seq .leaf (.seq .leaf (.seq (.seq .leaf (.block (.loop spec_LimitsOf_l1_p (fun N v => spec_LimitsOf_l1 N v.1 v.2.1 v.2.2.1 v.2.2.2.1 v.2.2.2.2.1 v.2.2.2.2.2.1) (fun v => spec_LimitsOf_l1_fuel v.1 v.2.1 v.2.2.1 v.2.2.2.1 v.2.2.2.2.1 v.2.2.2.2.2.1) (fun K1 => .leaf)))) .leaf))))) ?_ ?_
  · exact ⟨conds_leaf _ _, ⟨conds_leaf _ _, ⟨conds_leaf _ _, ⟨⟨conds_leaf _ _, ⟨fun _ => rfl, fun N => ⟨(fun v => by kernel_rfl), conds_leaf _ _⟩⟩⟩, conds_leaf _ _⟩⟩⟩⟩
  · intro xs r h
    refine Eq.trans (Eq.symm ?_) h
    kernel_rfl
@[reducible] noncomputable def e_laws_sameInts : FnE := { f := 10, args := [.slice 3 (.int .i64), .slice 3 (.int .i64)], res := [.bool], F := fun xs => laws_sameInts xs.1 xs.2.1 }
theorem ok_laws_sameInts : FnOK Try.prog glob e_laws_sameInts := by
  refine FnOK.of (e := e_laws_sameInts) (C := cfg [] [] [] []) (cfg_ok env_nil envL_nil envB_nil) Try.func10 (c := codeOf Try.f10) rfl Try.call10 (by decide)
    ((.seq .leaf (.seq .leaf (.seq (.seq .leaf (.block (.loop laws_sameInts_l1_p (fun N v => laws_sameInts_l1 N v.1 v.2.1 v.2.2.1) (fun v => laws_sameInts_l1_fuel v.1 v.2.1 v.2.2.1) (fun K1 => .leaf)))) .leaf)))) ?_ ?_
  · exact ⟨conds_leaf _ _, ⟨conds_leaf _ _, ⟨⟨conds_leaf _ _, ⟨fun _ => rfl, fun N => ⟨(fun v => by kernel_rfl), conds_leaf _ _⟩⟩⟩, conds_leaf _ _⟩⟩⟩
  · intro xs r h
    refine Eq.trans (Eq.symm ?_) h
    kernel_rfl
@[reducible] noncomputable def e_spec_SizesOf : FnE := { f := 12, args := [tyWindow, .slice 41 (tySip), .int .i64], res := [.slice 3 (.int .i64)], F := fun xs => spec_SizesOf xs.1 xs.2.1 xs.2.2.1 }
theorem ok_spec_SizesOf : FnOK Try.prog glob e_spec_SizesOf := by
  refine FnOK.of (e := e_spec_SizesOf) (C := cfg [] [e_spec_l30Now, e_spec_l30Sip] [] []) (cfg_ok (env_cons ok_spec_l30Now (env_cons ok_spec_l30Sip env_nil)) envL_nil envB_nil) Try.func12 (c := codeOf Try.f12) rfl Try.call12 (by decide)
    ((.seq .leaf (.seq .leaf (.seq .leaf (.seq (.seq .leaf (.block (.loop spec_SizesOf_l1_p (fun N v => spec_SizesOf_l1 N v.1 v.2.1 v.2.2.1 v.2.2.2.1 v.2.2.2.2.1 v.2.2.2.2.2.1) (fun v => spec_SizesOf_l1_fuel v.1 v.2.1 v.2.2.1 v.2.2.2.1 v.2.2.2.2.1 v.2.2.2.2.2.1) (fun K1 => .leaf)))) .leaf))))) ?_ ?_
  · exact ⟨conds_leaf _ _, ⟨conds_leaf _ _, ⟨conds_leaf _ _, ⟨⟨conds_leaf _ _, ⟨fun _ => rfl, fun N => ⟨(fun v => by kernel_rfl), conds_leaf _ _⟩⟩⟩, conds_leaf _ _⟩⟩⟩⟩
  · intro xs r h
    refine Eq.trans (Eq.symm ?_) h
    kernel_rfl
@[reducible] noncomputable def e_impl_one : FnE := { f := 23, args := [.bool], res := [.int .i64], F := fun xs => impl_one xs.1 }
theorem ok_impl_one : FnOK Try.prog glob e_impl_one := by
  refine FnOK.of (e := e_impl_one) (C := cfg [] [] [] []) (cfg_ok env_nil envL_nil envB_nil) Try.func23 (c := codeOf Try.f23) rfl Try.call23 (by decide)
    (.leaf) ?_ ?_
  · exact conds_leaf _ _
  · intro xs r h
    refine Eq.trans (Eq.symm ?_) h
    kernel_rfl
@[reducible] noncomputable def e_impl_FramesNeeded : FnE := { f := 13, args := [tyWindow, .slice 41 (tySip), .int .i64], res := [.int .i64], F := fun xs => impl_FramesNeeded xs.1 xs.2.1 xs.2.2.1 }
theorem ok_impl_FramesNeeded : FnOK Try.prog glob e_impl_FramesNeeded := by
  refine FnOK.of (e := e_impl_FramesNeeded) (C := cfg [] [e_impl_LimitsOf, e_impl_one] [] []) (cfg_ok (env_cons ok_impl_LimitsOf (env_cons ok_impl_one env_nil)) envL_nil envB_nil) Try.func13 (c := codeOf Try.f13) rfl Try.call13 (by decide)
    ((.seq .leaf (.seq .leaf (.seq (.seq .leaf (.block (.loop impl_FramesNeeded_l1_p (fun N v => impl_FramesNeeded_l1 N v.1 v.2.1 v.2.2.1 v.2.2.2.1 v.2.2.2.2.1) (fun v => impl_FramesNeeded_l1_fuel v.1 v.2.1 v.2.2.1 v.2.2.2.1 v.2.2.2.2.1) (fun K1 => .leaf)))) .leaf)))) ?_ ?_
  · exact ⟨conds_leaf _ _, ⟨conds_leaf _ _, ⟨⟨conds_leaf _ _, ⟨fun _ => rfl, fun N => ⟨(fun v => by kernel_rfl), conds_leaf _ _⟩⟩⟩, conds_leaf _ _⟩⟩⟩
  · intro xs r h
    refine Eq.trans (Eq.symm ?_) h
    kernel_rfl
@[reducible] noncomputable def e_spec_FramesNeeded : FnE := { f := 14, args := [tyWindow, .slice 41 (tySip), .int .i64], res := [.int .i64], F := fun xs => spec_FramesNeeded xs.1 xs.2.1 xs.2.2.1 }
theorem ok_spec_FramesNeeded : FnOK Try.prog glob e_spec_FramesNeeded := by
  refine FnOK.of (e := e_spec_FramesNeeded) (C := cfg [] [e_spec_LimitsOf] [] []) (cfg_ok (env_cons ok_spec_LimitsOf env_nil) envL_nil envB_nil) Try.func14 (c := codeOf Try.f14) rfl Try.call14 (by decide)
    ((.seq .leaf (.seq .leaf (.seq .leaf (.seq .leaf (.seq (.seq .leaf (.block (.loop spec_FramesNeeded_l1_p (fun N v => spec_FramesNeeded_l1 N v.1 v.2.1 v.2.2.1 v.2.2.2.1) (fun v => spec_FramesNeeded_l1_fuel v.1 v.2.1 v.2.2.1 v.2.2.2.1) (fun K1 => (.seq .leaf (.seq (.block (.join spec_FramesNeeded_j1_p (fun v => spec_FramesNeeded_j1 K1 v.1 v.2.1 v.2.2.1) .leaf .leaf)) .leaf)))))) .leaf)))))) ?_ ?_
  · exact ⟨conds_leaf _ _, ⟨conds_leaf _ _, ⟨conds_leaf _ _, ⟨conds_leaf _ _, ⟨⟨conds_leaf _ _, ⟨fun _ => rfl, fun N => ⟨(fun v => by kernel_rfl), ⟨conds_leaf _ _, ⟨⟨conds_leaf _ _, (fun v => by kernel_rfl), conds_leaf _ _⟩, conds_leaf _ _⟩⟩⟩⟩⟩, conds_leaf _ _⟩⟩⟩⟩⟩
  · intro xs r h
    refine Eq.trans (Eq.symm ?_) h
    kernel_rfl
@[reducible] noncomputable def e_impl_IsRising : FnE := { f := 16, args := [.slice 3 (.int .i64)], res := [.bool], F := fun xs => impl_IsRising xs.1 }
theorem ok_impl_IsRising : FnOK Try.prog glob e_impl_IsRising := by
  refine FnOK.of (e := e_impl_IsRising) (C := cfg [] [] [] []) (cfg_ok env_nil envL_nil envB_nil) Try.func16 (c := codeOf Try.f16) rfl Try.call16 (by decide)
    ((.seq .leaf (.seq (.seq .leaf (.block (.loop impl_IsRising_l1_p (fun N v => impl_IsRising_l1 N v.1 v.2.1) (fun v => impl_IsRising_l1_fuel v.1 v.2.1) (fun K1 => .leaf)))) .leaf))) ?_ ?_
  · exact ⟨conds_leaf _ _, ⟨⟨conds_leaf _ _, ⟨fun _ => rfl, fun N => ⟨(fun v => by kernel_rfl), conds_leaf _ _⟩⟩⟩, conds_leaf _ _⟩⟩
  · intro xs r h
    refine Eq.trans (Eq.symm ?_) h
    kernel_rfl
@[reducible] noncomputable def e_spec_DrawIsRising : FnE := { f := 17, args := [.slice 5 (.int .u8)], res := [.slice 3 (.int .i64)], F := fun xs => spec_DrawIsRising xs.1 }
theorem ok_spec_DrawIsRising : FnOK Try.prog glob e_spec_DrawIsRising := by
  refine FnOK.of (e := e_spec_DrawIsRising) (C := cfg [] [e_spec_l30Draw, e_spec_LimitsOf] [] []) (cfg_ok (env_cons ok_spec_l30Draw (env_cons ok_spec_LimitsOf env_nil)) envL_nil envB_nil) Try.func17 (c := codeOf Try.f17) rfl Try.call17 (by decide)
    ((.seq .leaf (.seq .leaf (.seq .leaf (.seq .leaf (.seq (.seq .leaf (.block (.loop spec_DrawIsRising_l1_p (fun N v => spec_DrawIsRising_l1 N v.1 v.2.1 v.2.2.1) (fun v => spec_DrawIsRising_l1_fuel v.1 v.2.1 v.2.2.1) (fun K1 => .leaf)))) .leaf)))))) ?_ ?_
  · exact ⟨conds_leaf _ _, ⟨conds_leaf _ _, ⟨conds_leaf _ _, ⟨conds_leaf _ _, ⟨⟨conds_leaf _ _, ⟨fun _ => rfl, fun N => ⟨(fun v => by kernel_rfl), conds_leaf _ _⟩⟩⟩, conds_leaf _ _⟩⟩⟩⟩⟩
  · intro xs r h
    refine Eq.trans (Eq.symm ?_) h
    kernel_rfl
@[reducible] noncomputable def e_spec_IsRising : FnE := { f := 18, args := [.slice 3 (.int .i64)], res := [.bool], F := fun xs => spec_IsRising xs.1 }
theorem ok_spec_IsRising : FnOK Try.prog glob e_spec_IsRising := by
  refine FnOK.of (e := e_spec_IsRising) (C := cfg [] [] [] []) (cfg_ok env_nil envL_nil envB_nil) Try.func18 (c := codeOf Try.f18) rfl Try.call18 (by decide)
    ((.seq .leaf (.seq (.seq .leaf (.block (.loop spec_IsRising_l1_p (fun N v => spec_IsRising_l1 N v.1 v.2.1) (fun v => spec_IsRising_l1_fuel v.1 v.2.1) (fun K1 => .leaf)))) .leaf))) ?_ ?_
  · exact ⟨conds_leaf _ _, ⟨⟨conds_leaf _ _, ⟨fun _ => rfl, fun N => ⟨(fun v => by kernel_rfl), conds_leaf _ _⟩⟩⟩, conds_leaf _ _⟩⟩
  · intro xs r h
    refine Eq.trans (Eq.symm ?_) h
    kernel_rfl
@[reducible] noncomputable def e_laws_FnGrowths : FnE := { f := 3, args := [.slice 5 (.int .u8)], res := [.bool], F := fun xs => laws_FnGrowths xs.1 }
theorem ok_laws_FnGrowths : FnOK Try.prog glob e_laws_FnGrowths := by
  refine FnOK.of (e := e_laws_FnGrowths) (C := cfg [] [e_laws_big, e_spec_DrawFeedWindow, e_impl_FeedWindow, e_impl_LimitsOf, e_impl_SizesOf, e_spec_FeedWindow, e_spec_LimitsOf, e_laws_sameInts, e_spec_SizesOf, e_impl_FramesNeeded, e_spec_FramesNeeded, e_spec_IsWindow, e_impl_IsRising, e_spec_DrawIsRising, e_spec_IsRising] [] []) (cfg_ok (env_cons ok_laws_big (env_cons ok_spec_DrawFeedWindow (env_cons ok_impl_FeedWindow (env_cons ok_impl_LimitsOf (env_cons ok_impl_SizesOf (env_cons ok_spec_FeedWindow (env_cons ok_spec_LimitsOf (env_cons ok_laws_sameInts (env_cons ok_spec_SizesOf (env_cons ok_impl_FramesNeeded (env_cons ok_spec_FramesNeeded (env_cons ok_spec_IsWindow (env_cons ok_impl_IsRising (env_cons ok_spec_DrawIsRising (env_cons ok_spec_IsRising env_nil))))))))))))))) envL_nil envB_nil) Try.func3 (c := codeOf Try.f3) rfl Try.call3 (by decide)
    (.leaf) ?_ ?_
  · exact conds_leaf _ _
  · intro xs r h
    refine Eq.trans (Eq.symm ?_) h
    kernel_rfl
end Go.Proofs.Ytifcipnimblkpab

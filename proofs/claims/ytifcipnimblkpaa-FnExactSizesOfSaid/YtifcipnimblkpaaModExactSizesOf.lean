/- FnExactSizesOf: what the functions that it reaches compute, as plain functions, and that they do so. No condition. -/
import Derived.Test.YtifcipnimblkpaaRows
import Derived.Test.YtifcipnimblkpaaAm4
namespace Go.Proofs.Ytifcipnimblkpaa
open Go.Am
set_option maxRecDepth 100000
set_option linter.unusedVariables false

@[reducible] def tySip : Ty := .pair (.int .i64) (.pair (.int .i64) (.unit))
@[reducible] def TSip : Type := Int × Int × Unit
def zSip : TSip := ((0 : Int), ((0 : Int), ()))
@[reducible] def tyWindow : Ty := .pair (.int .i64) (.pair (.int .i64) (.pair (.int .i64) (.pair (.int .i64) (tySip))))
@[reducible] def TWindow : Type := Int × Int × Int × Int × TSip
def zWindow : TWindow := ((0 : Int), ((0 : Int), ((0 : Int), ((0 : Int), ((0 : Int), ((0 : Int), ()))))))
noncomputable def laws_szSipS (a0 : List TSip) (left1 : Int) : Option (Int × Unit) :=
  let t8 : Int := IntKind.i64.wrap (left1 - (a0.length : Int))
  bif decide (t8 < (0 : Int)) then
    some ((-1 : Int), ())
  else
    some (t8, ())
noncomputable def laws_toWindow (a0 : TWindow) : Option (TWindow × Unit) :=
  some ((a0.1, (a0.2.1, (a0.2.2.1, (a0.2.2.2.1, (a0.2.2.2.2.1, (a0.2.2.2.2.2.1, ())))))), ())
noncomputable def laws_toSip (a0 : TSip) : Option (TSip × Unit) :=
  some ((a0.1, (a0.2.1, ())), ())
@[reducible] def laws_toSipS_l1_p : List PE := [.val 0 (.slice 79 (tySip)) (.u false), .val 3 (.slice 76 (tySip)) (.u true), .val 4 (.int .i64) (.u false)]
def laws_toSipS_l1_fuel (a0_1 : List TSip) (out3 : List TSip) (i4 : Int) : Nat := ((a0_1.length : Int) - i4).toNat + 1
noncomputable def laws_toSipS_l1 : Nat → List TSip → List TSip → Int → Option (List TSip × Unit)
  | 0, _, _, _ => none
  | N + 1, a0_1, out3, i4 =>
    bif decide (i4 < (a0_1.length : Int)) then
      guardP (0 ≤ i4 ∧ i4 < a0_1.length) <|
      Option.bind (laws_toSip (a0_1.getD i4.toNat zSip)) fun t20 =>
      guardP (0 ≤ i4 ∧ i4 < out3.length) <|
      laws_toSipS_l1 N a0_1 (out3.set i4.toNat t20.1) (IntKind.i64.wrap (i4 + (1 : Int)))
    else
      some (out3, ())
noncomputable def laws_toSipS (a0 : List TSip) : Option (List TSip × Unit) :=
  guardP (0 ≤ (a0.length : Int) ∧ (a0.length : Int) ≤ (a0.length : Int) ∧ (a0.length : Int) ≤ capN) <|
  let t7 : List TSip := List.replicate (a0.length : Int).toNat zSip
  laws_toSipS_l1 (laws_toSipS_l1_fuel a0 t7 (0 : Int)) a0 t7 (0 : Int)
noncomputable def spec_l30Now (now0 : Int) (s1 : TSip) : Option (Int × Unit) :=
  some (min (IntKind.i64.wrap (now0 + (max (0 : Int) (min s1.2.1 (1000 : Int))))) (1000000 : Int), ())
noncomputable def spec_l1In (x0 : Int) (low1 : Int) (high2 : Int) : Option (Bool × Unit) :=
  some ((decide (x0 ≥ low1)) && (decide (x0 ≤ high2)), ())
noncomputable def spec_IsWindow (w0 : TWindow) : Option (Bool × Unit) :=
  Option.bind (spec_l1In w0.2.1 (1 : Int) (4096 : Int)) fun t5 =>
  Option.bind (bif t5.1 then (spec_l1In w0.1 (1 : Int) w0.2.1) else some (false, ())) fun t11 =>
  Option.bind (bif (t5.1 && t11.1) then (spec_l1In w0.2.2.1 (1 : Int) (4611686018427387903 : Int)) else some (false, ())) fun t16 =>
  Option.bind (bif ((t5.1 && t11.1) && t16.1) then (spec_l1In w0.2.2.2.1 (0 : Int) w0.2.2.1) else some (false, ())) fun t23 =>
  let t24 : Bool := ((t5.1 && t11.1) && t16.1) && t23.1
  Option.bind (bif t24 then (spec_l1In w0.2.2.2.2.1 (0 : Int) w0.2.2.2.1) else some (false, ())) fun t30 =>
  let t41 : Bool := (t24 && t30.1) && (decide (w0.2.2.1 ≤ (IntKind.i64.wrap (w0.2.2.2.2.1 + w0.1))))
  Option.bind (bif t41 then (spec_l1In w0.2.2.2.2.2.1 (0 : Int) (1000000 : Int)) else some (false, ())) fun t45 =>
  some (t41 && t45.1, ())
noncomputable def spec_LeftFor (w0 : TWindow) : Option (Int × Unit) :=
  Option.bind (spec_IsWindow w0) fun t4 =>
  bif !t4.1 then
    some ((0 : Int), ())
  else
    some (IntKind.i64.wrap (w0.2.2.1 - w0.2.2.2.1), ())
noncomputable def spec_SeeBytes (w0 : TWindow) (n1 : Int) : Option (TWindow × Bool × Unit) :=
  Option.bind (spec_IsWindow w0) fun t7 =>
  bif ((!t7.1) || (decide (n1 < (0 : Int)))) || (decide (n1 > (IntKind.i64.wrap (w0.2.2.1 - w0.2.2.2.1)))) then
    some (w0, false, ())
  else
    some ((w0.1, (w0.2.1, (w0.2.2.1, (IntKind.i64.wrap (w0.2.2.2.1 + n1), w0.2.2.2.2)))), true, ())
noncomputable def spec_ReadBytes (w0 : TWindow) (n1 : Int) : Option (TWindow × Bool × Unit) :=
  Option.bind (spec_IsWindow w0) fun t7 =>
  bif ((!t7.1) || (decide (n1 < (0 : Int)))) || (decide (n1 > (IntKind.i64.wrap (w0.2.2.2.1 - w0.2.2.2.2.1)))) then
    some (w0, false, ())
  else
    some ((w0.1, (w0.2.1, (w0.2.2.1, (w0.2.2.2.1, (IntKind.i64.wrap (w0.2.2.2.2.1 + n1), w0.2.2.2.2.2))))), true, ())
noncomputable def spec_MustRaise (w0 : TWindow) : Option (Bool × Unit) :=
  Option.bind (spec_IsWindow w0) fun t4 =>
  let t9 : Bool := t4.1 && (decide (w0.2.2.1 < (4611686018427387903 : Int)))
  guardP ((t9 = true → ((2 : Int) ≠ 0))) <|
  some (t9 && (decide ((IntKind.i64.wrap ((IntKind.i64.wrap (w0.2.2.2.2.1 + w0.1)) - w0.2.2.1)) ≥ (IntKind.i64.wrap (Int.tdiv (IntKind.i64.wrap (w0.1 + (1 : Int))) (2 : Int))))), ())
@[reducible] def spec_RaiseWindow_j1_p : List PE := [.val 1 (.int .i64) (.u false), .box 3 37 (tyWindow) (.u false), .box 6 37 (tyWindow) (.u false)]
noncomputable def spec_RaiseWindow_j1 (now1_1 : Int) (w3 : TWindow) (t6 : TWindow) : Option (TWindow × Bool × Unit) :=
  some ((w3.1, (w3.2.1, (min (IntKind.i64.wrap (w3.2.2.2.2.1 + w3.1)) (4611686018427387903 : Int), (w3.2.2.2.1, (w3.2.2.2.2.1, (now1_1, w3.2.2.2.2.2.2)))))), true, ())
noncomputable def spec_RaiseWindow (w0 : TWindow) (now1 : Int) (trip2 : Int) : Option (TWindow × Bool × Unit) :=
  Option.bind (spec_MustRaise w0) fun t9 =>
  Option.bind (bif (!t9.1) then some (false, ()) else (spec_l1In now1 w0.2.2.2.2.2.1 (1000000 : Int))) fun t15 =>
  Option.bind (bif ((!t9.1) || (!t15.1)) then some (false, ()) else (spec_l1In trip2 (1 : Int) (1000 : Int))) fun t20 =>
  bif ((!t9.1) || (!t15.1)) || (!t20.1) then
    some (w0, false, ())
  else
    bif decide ((IntKind.i64.wrap (now1 - w0.2.2.2.2.2.1)) < (IntKind.i64.wrap ((2 : Int) * trip2))) then
      spec_RaiseWindow_j1 now1 (min (IntKind.i64.wrap ((2 : Int) * w0.1)) w0.2.1, w0.2) ((0 : Int), ((0 : Int), ((0 : Int), ((0 : Int), ((0 : Int), ((0 : Int), ()))))))
    else
      spec_RaiseWindow_j1 now1 w0 ((0 : Int), ((0 : Int), ((0 : Int), ((0 : Int), ((0 : Int), ((0 : Int), ()))))))
noncomputable def spec_l30Sip (w0 : TWindow) (s1 : TSip) (now2 : Int) (trip3 : Int) : Option (TWindow × Unit) :=
  Option.bind (spec_LeftFor w0) fun t13 =>
  Option.bind (spec_SeeBytes w0 (max (0 : Int) (min s1.1 t13.1))) fun t19 =>
  Option.bind (spec_ReadBytes t19.1 (max (0 : Int) (min s1.1 t13.1))) fun t25 =>
  Option.bind (spec_RaiseWindow t25.1 now2 trip3) fun t32 =>
  some (t32.1, ())
@[reducible] def spec_SizesOf_l1_p : List PE := [.val 1 (.slice 76 (tySip)) (.u false), .val 2 (.int .i64) (.u false), .box 3 37 (tyWindow) (.u false), .val 7 (.slice 3 (.int .i64)) (.u true), .val 8 (.int .i64) (.u false), .val 9 (.int .i64) (.u false)]
def spec_SizesOf_l1_fuel (l1_1 : List TSip) (trip2_1 : Int) (w3 : TWindow) (out7 : List Int) (now8 : Int) (i9 : Int) : Nat := ((l1_1.length : Int) - i9).toNat + 1
noncomputable def spec_SizesOf_l1 : Nat → List TSip → Int → TWindow → List Int → Int → Int → Option (List Int × Unit)
  | 0, _, _, _, _, _, _ => none
  | N + 1, l1_1, trip2_1, w3, out7, now8, i9 =>
    bif decide (i9 < (l1_1.length : Int)) then
      guardP (0 ≤ i9 ∧ i9 < l1_1.length) <|
      Option.bind (spec_l30Now now8 (l1_1.getD i9.toNat zSip)) fun t24 =>
      guardP (0 ≤ i9 ∧ i9 < l1_1.length) <|
      Option.bind (spec_l30Sip w3 (l1_1.getD i9.toNat zSip) t24.1 trip2_1) fun t32 =>
      guardP (out7.length + ([t32.1.1]).length ≤ capN) <|
      spec_SizesOf_l1 N l1_1 trip2_1 t32.1 (out7 ++ ([t32.1.1])) t24.1 (IntKind.i64.wrap (i9 + (1 : Int)))
    else
      some (out7, ())
noncomputable def spec_SizesOf (w0 : TWindow) (l1 : List TSip) (trip2 : Int) : Option (List Int × Unit) :=
  spec_SizesOf_l1 (spec_SizesOf_l1_fuel l1 trip2 w0 ([] : List Int) w0.2.2.2.2.2.1 (0 : Int)) l1 trip2 w0 ([] : List Int) w0.2.2.2.2.2.1 (0 : Int)
noncomputable def impl_within (n0 : Int) (low1 : Int) (high2 : Int) : Option (Bool × Unit) :=
  some ((decide (low1 ≤ n0)) && (decide (n0 ≤ high2)), ())
noncomputable def impl_IsWindow (w0 : TWindow) : Option (Bool × Unit) :=
  Option.bind (impl_within w0.2.1 (1 : Int) (4096 : Int)) fun t5 =>
  Option.bind (bif t5.1 then (impl_within w0.1 (1 : Int) w0.2.1) else some (false, ())) fun t11 =>
  Option.bind (bif (t5.1 && t11.1) then (impl_within w0.2.2.1 (1 : Int) (4611686018427387903 : Int)) else some (false, ())) fun t16 =>
  Option.bind (bif ((t5.1 && t11.1) && t16.1) then (impl_within w0.2.2.2.1 (0 : Int) w0.2.2.1) else some (false, ())) fun t23 =>
  let t24 : Bool := ((t5.1 && t11.1) && t16.1) && t23.1
  Option.bind (bif t24 then (impl_within w0.2.2.2.2.1 (0 : Int) w0.2.2.2.1) else some (false, ())) fun t30 =>
  let t41 : Bool := (t24 && t30.1) && (decide (w0.2.2.1 ≤ (IntKind.i64.wrap (w0.2.2.2.2.1 + w0.1))))
  Option.bind (bif t41 then (impl_within w0.2.2.2.2.2.1 (0 : Int) (1000000 : Int)) else some (false, ())) fun t45 =>
  some (t41 && t45.1, ())
noncomputable def impl_LeftFor (w0 : TWindow) : Option (Int × Unit) :=
  Option.bind (impl_IsWindow w0) fun t4 =>
  bif !t4.1 then
    some ((0 : Int), ())
  else
    some (IntKind.i64.wrap (w0.2.2.1 - w0.2.2.2.1), ())
noncomputable def impl_SeeBytes (w0 : TWindow) (n1 : Int) : Option (TWindow × Bool × Unit) :=
  Option.bind (impl_IsWindow w0) fun t7 =>
  Option.bind (bif (!t7.1) then some (false, ()) else (impl_within n1 (0 : Int) (IntKind.i64.wrap (w0.2.2.1 - w0.2.2.2.1)))) fun t16 =>
  bif (!t7.1) || (!t16.1) then
    some (w0, false, ())
  else
    some ((w0.1, (w0.2.1, (w0.2.2.1, (IntKind.i64.wrap (w0.2.2.2.1 + n1), w0.2.2.2.2)))), true, ())
noncomputable def impl_ReadBytes (w0 : TWindow) (n1 : Int) : Option (TWindow × Bool × Unit) :=
  Option.bind (impl_IsWindow w0) fun t7 =>
  Option.bind (bif (!t7.1) then some (false, ()) else (impl_within n1 (0 : Int) (IntKind.i64.wrap (w0.2.2.2.1 - w0.2.2.2.2.1)))) fun t16 =>
  bif (!t7.1) || (!t16.1) then
    some (w0, false, ())
  else
    some ((w0.1, (w0.2.1, (w0.2.2.1, (w0.2.2.2.1, (IntKind.i64.wrap (w0.2.2.2.2.1 + n1), w0.2.2.2.2.2))))), true, ())
noncomputable def impl_MustRaise (w0 : TWindow) : Option (Bool × Unit) :=
  Option.bind (impl_IsWindow w0) fun t4 =>
  let t9 : Bool := t4.1 && (decide (w0.2.2.1 < (4611686018427387903 : Int)))
  guardP ((t9 = true → ((2 : Int) ≠ 0))) <|
  some (t9 && (decide ((IntKind.i64.wrap ((IntKind.i64.wrap (w0.2.2.2.2.1 + w0.1)) - w0.2.2.1)) ≥ (IntKind.i64.wrap (Int.tdiv (IntKind.i64.wrap (w0.1 + (1 : Int))) (2 : Int))))), ())
@[reducible] def impl_RaiseWindow_j1_p : List PE := [.val 1 (.int .i64) (.u false), .box 3 37 (tyWindow) (.u false), .box 6 37 (tyWindow) (.u false)]
noncomputable def impl_RaiseWindow_j1 (now1_1 : Int) (w3 : TWindow) (t6 : TWindow) : Option (TWindow × Bool × Unit) :=
  some ((w3.1, (w3.2.1, (min (IntKind.i64.wrap (w3.2.2.2.2.1 + w3.1)) (4611686018427387903 : Int), (w3.2.2.2.1, (w3.2.2.2.2.1, (now1_1, w3.2.2.2.2.2.2)))))), true, ())
noncomputable def impl_RaiseWindow (w0 : TWindow) (now1 : Int) (trip2 : Int) : Option (TWindow × Bool × Unit) :=
  Option.bind (impl_MustRaise w0) fun t9 =>
  Option.bind (bif (!t9.1) then some (false, ()) else (impl_within now1 w0.2.2.2.2.2.1 (1000000 : Int))) fun t15 =>
  Option.bind (bif ((!t9.1) || (!t15.1)) then some (false, ()) else (impl_within trip2 (1 : Int) (1000 : Int))) fun t20 =>
  bif ((!t9.1) || (!t15.1)) || (!t20.1) then
    some (w0, false, ())
  else
    bif decide ((IntKind.i64.wrap (now1 - w0.2.2.2.2.2.1)) < (IntKind.i64.wrap ((2 : Int) * trip2))) then
      impl_RaiseWindow_j1 now1 (min (IntKind.i64.wrap ((2 : Int) * w0.1)) w0.2.1, w0.2) ((0 : Int), ((0 : Int), ((0 : Int), ((0 : Int), ((0 : Int), ((0 : Int), ()))))))
    else
      impl_RaiseWindow_j1 now1 w0 ((0 : Int), ((0 : Int), ((0 : Int), ((0 : Int), ((0 : Int), ((0 : Int), ()))))))
@[reducible] def impl_sips_l1_p : List PE := [.val 2 (.int .i64) (.u false), .box 3 37 (tyWindow) (.u false), .val 7 (.slice 37 (tyWindow)) (.u true), .val 8 (.int .i64) (.u false), .val 15 (.slice 76 (tySip)) (.u false), .val 16 (.int .i64) (.u false), .val 17 (.int .i64) (.u false)]
def impl_sips_l1_fuel (trip2_1 : Int) (w3 : TWindow) (out7 : List TWindow) (now8 : Int) (t15 : List TSip) (t16_1 : Int) (t17 : Int) : Nat := (t16_1 - t17).toNat + 1
noncomputable def impl_sips_l1 : Nat → Int → TWindow → List TWindow → Int → List TSip → Int → Int → Option (List TWindow × Unit)
  | 0, _, _, _, _, _, _, _ => none
  | N + 1, trip2_1, w3, out7, now8, t15, t16_1, t17 =>
    bif decide (t17 < t16_1) then
      guardP (0 ≤ t17 ∧ t17 < t15.length) <|
      let t27 : Int := min (IntKind.i64.wrap (now8 + (min (max (t15.getD t17.toNat zSip).2.1 (0 : Int)) (1000 : Int)))) (1000000 : Int)
      Option.bind (impl_LeftFor w3) fun t32 =>
      let t33 : Int := min (max (t15.getD t17.toNat zSip).1 (0 : Int)) t32.1
      Option.bind (impl_SeeBytes w3 t33) fun t37 =>
      Option.bind (impl_ReadBytes t37.1 t33) fun t43 =>
      Option.bind (impl_RaiseWindow t43.1 t27 trip2_1) fun t50 =>
      guardP (out7.length + ([t50.1]).length ≤ capN) <|
      impl_sips_l1 N trip2_1 t50.1 (out7 ++ ([t50.1])) t27 t15 t16_1 (IntKind.i64.wrap (t17 + (1 : Int)))
    else
      some (out7, ())
noncomputable def impl_sips (w0 : TWindow) (l1 : List TSip) (trip2 : Int) : Option (List TWindow × Unit) :=
  impl_sips_l1 (impl_sips_l1_fuel trip2 w0 ([] : List TWindow) w0.2.2.2.2.2.1 l1 (l1.length : Int) (0 : Int)) trip2 w0 ([] : List TWindow) w0.2.2.2.2.2.1 l1 (l1.length : Int) (0 : Int)
@[reducible] def impl_SizesOf_l1_p : List PE := [.val 7 (.slice 3 (.int .i64)) (.u true), .val 14 (.slice 37 (tyWindow)) (.u true), .val 15 (.int .i64) (.u false), .val 16 (.int .i64) (.u false)]
def impl_SizesOf_l1_fuel (out7 : List Int) (t14_1 : List TWindow) (t15_1 : Int) (t16 : Int) : Nat := (t15_1 - t16).toNat + 1
noncomputable def impl_SizesOf_l1 : Nat → List Int → List TWindow → Int → Int → Option (List Int × Unit)
  | 0, _, _, _, _ => none
  | N + 1, out7, t14_1, t15_1, t16 =>
    bif decide (t16 < t15_1) then
      guardP (0 ≤ t16 ∧ t16 < t14_1.length) <|
      guardP (out7.length + ([(t14_1.getD t16.toNat zWindow).1]).length ≤ capN) <|
      impl_SizesOf_l1 N (out7 ++ ([(t14_1.getD t16.toNat zWindow).1])) t14_1 t15_1 (IntKind.i64.wrap (t16 + (1 : Int)))
    else
      some (out7, ())
noncomputable def impl_SizesOf (w0 : TWindow) (l1 : List TSip) (trip2 : Int) : Option (List Int × Unit) :=
  Option.bind (impl_sips w0 l1 trip2) fun t14 =>
  impl_SizesOf_l1 (impl_SizesOf_l1_fuel ([] : List Int) t14.1 (t14.1.length : Int) (0 : Int)) ([] : List Int) t14.1 (t14.1.length : Int) (0 : Int)
@[reducible] def laws_eqIntS_l1_p : List PE := [.val 0 (.slice 3 (.int .i64)) (.u false), .val 1 (.slice 3 (.int .i64)) (.u false), .val 5 (.int .i64) (.u false)]
def laws_eqIntS_l1_fuel (a0_1 : List Int) (b1_1 : List Int) (i5 : Int) : Nat := ((a0_1.length : Int) - i5).toNat + 1
noncomputable def laws_eqIntS_l1 : Nat → List Int → List Int → Int → Option (Bool × Unit)
  | 0, _, _, _ => none
  | N + 1, a0_1, b1_1, i5 =>
    bif decide (i5 < (a0_1.length : Int)) then
      guardP (0 ≤ i5 ∧ i5 < a0_1.length) <|
      guardP (0 ≤ i5 ∧ i5 < b1_1.length) <|
      bif (a0_1.getD i5.toNat (0 : Int)) != (b1_1.getD i5.toNat (0 : Int)) then
        some (false, ())
      else
        laws_eqIntS_l1 N a0_1 b1_1 (IntKind.i64.wrap (i5 + (1 : Int)))
    else
      some (true, ())
noncomputable def laws_eqIntS (a0 : List Int) (b1 : List Int) : Option (Bool × Unit) :=
  bif (a0.length : Int) != (b1.length : Int) then
    some (false, ())
  else
    laws_eqIntS_l1 (laws_eqIntS_l1_fuel a0 b1 (0 : Int)) a0 b1 (0 : Int)
noncomputable def laws_eqSip (a0 : TSip) (b1 : TSip) : Option (Bool × Unit) :=
  bif a0.1 != b1.1 then
    some (false, ())
  else
    bif a0.2.1 != b1.2.1 then
      some (false, ())
    else
      some (true, ())
@[reducible] def laws_eqSipS_l1_p : List PE := [.val 0 (.slice 76 (tySip)) (.u false), .val 1 (.slice 76 (tySip)) (.u false), .val 5 (.int .i64) (.u false)]
def laws_eqSipS_l1_fuel (a0_1 : List TSip) (b1_1 : List TSip) (i5 : Int) : Nat := ((a0_1.length : Int) - i5).toNat + 1
noncomputable def laws_eqSipS_l1 : Nat → List TSip → List TSip → Int → Option (Bool × Unit)
  | 0, _, _, _ => none
  | N + 1, a0_1, b1_1, i5 =>
    bif decide (i5 < (a0_1.length : Int)) then
      guardP (0 ≤ i5 ∧ i5 < a0_1.length) <|
      guardP (0 ≤ i5 ∧ i5 < b1_1.length) <|
      Option.bind (laws_eqSip (a0_1.getD i5.toNat zSip) (b1_1.getD i5.toNat zSip)) fun t25 =>
      bif !t25.1 then
        some (false, ())
      else
        laws_eqSipS_l1 N a0_1 b1_1 (IntKind.i64.wrap (i5 + (1 : Int)))
    else
      some (true, ())
noncomputable def laws_eqSipS (a0 : List TSip) (b1 : List TSip) : Option (Bool × Unit) :=
  bif (a0.length : Int) != (b1.length : Int) then
    some (false, ())
  else
    laws_eqSipS_l1 (laws_eqSipS_l1_fuel a0 b1 (0 : Int)) a0 b1 (0 : Int)
@[reducible] def laws_markSipS_l1_p : List PE := [.val 0 (.slice 76 (tySip)) (.u true), .val 1 (.int .i64) (.u false), .val 5 (.int .i64) (.u false)]
def laws_markSipS_l1_fuel (a0_1 : List TSip) (k1_1 : Int) (i5 : Int) : Nat := ((a0_1.length : Int) - i5).toNat + 1
noncomputable def laws_markSipS_l1 : Nat → List TSip → Int → Int → Option ((Int × Unit) × List TSip)
  | 0, _, _, _ => none
  | N + 1, a0_1, k1_1, i5 =>
    bif decide (i5 < (a0_1.length : Int)) then
      guardP (0 ≤ i5 ∧ i5 < a0_1.length) <|
      let a0_2 : List TSip := a0_1.set i5.toNat (k1_1, (a0_1.getD i5.toNat zSip).2)
      guardP (0 ≤ i5 ∧ i5 < a0_2.length) <|
      laws_markSipS_l1 N (a0_2.set i5.toNat ((a0_2.getD i5.toNat zSip).1, (IntKind.i64.wrap (k1_1 + (1 : Int)), (a0_2.getD i5.toNat zSip).2.2))) (IntKind.i64.wrap ((IntKind.i64.wrap (k1_1 + (1 : Int))) + (1 : Int))) (IntKind.i64.wrap (i5 + (1 : Int)))
    else
      some ((k1_1, ()), a0_1)
noncomputable def laws_markSipS (a0 : List TSip) (k1 : Int) : Option ((Int × Unit) × List TSip) :=
  laws_markSipS_l1 (laws_markSipS_l1_fuel a0 k1 (0 : Int)) a0 k1 (0 : Int)
@[reducible] def laws_markIntS_l1_p : List PE := [.val 0 (.slice 3 (.int .i64)) (.u true), .val 1 (.int .i64) (.u false), .val 5 (.int .i64) (.u false)]
def laws_markIntS_l1_fuel (a0_1 : List Int) (k1_1 : Int) (i5 : Int) : Nat := ((a0_1.length : Int) - i5).toNat + 1
noncomputable def laws_markIntS_l1 : Nat → List Int → Int → Int → Option ((Int × Unit) × List Int)
  | 0, _, _, _ => none
  | N + 1, a0_1, k1_1, i5 =>
    bif decide (i5 < (a0_1.length : Int)) then
      guardP (0 ≤ i5 ∧ i5 < a0_1.length) <|
      laws_markIntS_l1 N (a0_1.set i5.toNat k1_1) (IntKind.i64.wrap (k1_1 + (1 : Int))) (IntKind.i64.wrap (i5 + (1 : Int)))
    else
      some ((k1_1, ()), a0_1)
noncomputable def laws_markIntS (a0 : List Int) (k1 : Int) : Option ((Int × Unit) × List Int) :=
  laws_markIntS_l1 (laws_markIntS_l1_fuel a0 k1 (0 : Int)) a0 k1 (0 : Int)
@[reducible] def laws_heldIntS_l1_p : List PE := [.val 0 (.slice 3 (.int .i64)) (.u false), .val 1 (.int .i64) (.u false), .val 5 (.int .i64) (.u false)]
def laws_heldIntS_l1_fuel (a0_1 : List Int) (k1_1 : Int) (i5 : Int) : Nat := ((a0_1.length : Int) - i5).toNat + 1
noncomputable def laws_heldIntS_l1 : Nat → List Int → Int → Int → Option (Int × Unit)
  | 0, _, _, _ => none
  | N + 1, a0_1, k1_1, i5 =>
    bif decide (i5 < (a0_1.length : Int)) then
      guardP (0 ≤ i5 ∧ i5 < a0_1.length) <|
      bif (a0_1.getD i5.toNat (0 : Int)) != k1_1 then
        some ((-1 : Int), ())
      else
        laws_heldIntS_l1 N a0_1 (IntKind.i64.wrap (k1_1 + (1 : Int))) (IntKind.i64.wrap (i5 + (1 : Int)))
    else
      some (k1_1, ())
noncomputable def laws_heldIntS (a0 : List Int) (k1 : Int) : Option (Int × Unit) :=
  laws_heldIntS_l1 (laws_heldIntS_l1_fuel a0 k1 (0 : Int)) a0 k1 (0 : Int)
noncomputable def laws_FnExactSizesOf (aW0 : TWindow) (aL1 : List TSip) (aTrip2 : Int) : Option (Bool × Unit) :=
  Option.bind (laws_szSipS aL1 (1048576 : Int)) fun t17 =>
  bif decide (t17.1 < (0 : Int)) then
    some (true, ())
  else
    Option.bind (laws_toWindow aW0) fun t21 =>
    Option.bind (laws_toSipS aL1) fun t23 =>
    Option.bind (spec_SizesOf t21.1 t23.1 aTrip2) fun t25 =>
    Option.bind (laws_toSipS aL1) fun t27 =>
    Option.bind (laws_toWindow aW0) fun t29 =>
    Option.bind (impl_SizesOf t29.1 t27.1 aTrip2) fun t32 =>
    Option.bind (laws_eqIntS t32.1 t25.1) fun t35 =>
    bif !t35.1 then
      some (false, ())
    else
      Option.bind (laws_toSipS aL1) fun t39 =>
      Option.bind (laws_eqSipS t27.1 t39.1) fun t40 =>
      bif !t40.1 then
        some (false, ())
      else
        Option.bind (laws_markSipS t27.1 (1 : Int)) fun t44 =>
        Option.bind (bif (decide (t44.1.1 < (0 : Int))) then some (false, ()) else (laws_eqIntS t32.1 t25.1)) fun t50 =>
        bif (decide (t44.1.1 < (0 : Int))) || (!t50.1) then
          some (false, ())
        else
          Option.bind (laws_markIntS t32.1 (1 : Int)) fun t55 =>
          Option.bind (laws_heldIntS t55.2 (1 : Int)) fun t58 =>
          bif decide (t58.1 < (0 : Int)) then
            some (false, ())
          else
            bif t58.1 != t55.1.1 then
              some (false, ())
            else
              Option.bind (laws_toWindow aW0) fun t65 =>
              Option.bind (laws_toSipS aL1) fun t67 =>
              Option.bind (impl_SizesOf t65.1 t67.1 aTrip2) fun t69 =>
              Option.bind (laws_eqIntS t69.1 t25.1) fun t72 =>
              bif !t72.1 then
                some (false, ())
              else
                Option.bind (laws_heldIntS t55.2 (1 : Int)) fun t76 =>
                bif decide (t76.1 < (0 : Int)) then
                  some (false, ())
                else
                  bif t76.1 != t55.1.1 then
                    some (false, ())
                  else
                    some (true, ())
def tab : Tab := lookT [(3, .int .i64), (4, .bool), (24, .slice 3 (.int .i64)), (34, tyWindow), (35, .slice 79 (tySip)), (37, tyWindow), (40, .slice 76 (tySip)), (76, tySip), (79, tySip), (80, .slice 37 (tyWindow))]
theorem tok_3 : TOK Try.prog 3 (.int .i64) := ⟨by kernel_rfl, by kernel_rfl⟩
theorem tok_4 : TOK Try.prog 4 (.bool) := ⟨by kernel_rfl, by kernel_rfl⟩
theorem tok_24 : TOK Try.prog 24 (.slice 3 (.int .i64)) := ⟨by kernel_rfl, by kernel_rfl⟩
theorem tok_34 : TOK Try.prog 34 (tyWindow) := ⟨by kernel_rfl, by kernel_rfl⟩
theorem tok_35 : TOK Try.prog 35 (.slice 79 (tySip)) := ⟨by kernel_rfl, by kernel_rfl⟩
theorem tok_37 : TOK Try.prog 37 (tyWindow) := ⟨by kernel_rfl, by kernel_rfl⟩
theorem tok_40 : TOK Try.prog 40 (.slice 76 (tySip)) := ⟨by kernel_rfl, by kernel_rfl⟩
theorem tok_76 : TOK Try.prog 76 (tySip) := ⟨by kernel_rfl, by kernel_rfl⟩
theorem tok_79 : TOK Try.prog 79 (tySip) := ⟨by kernel_rfl, by kernel_rfl⟩
theorem tok_80 : TOK Try.prog 80 (.slice 37 (tyWindow)) := ⟨by kernel_rfl, by kernel_rfl⟩
theorem tab_ok : tab.ok Try.prog := (tab_cons tok_3 (tab_cons tok_4 (tab_cons tok_24 (tab_cons tok_34 (tab_cons tok_35 (tab_cons tok_37 (tab_cons tok_40 (tab_cons tok_76 (tab_cons tok_79 (tab_cons tok_80 tab_nil))))))))))
abbrev glob : Glob := Glob.none
def eqsL : List Nat := []
theorem eqs_ok : EqsL Try.prog tab eqsL := eqs_nil
@[reducible] def cfg (Γ : Env) (ΓL : EnvL) : Cfg := { τ := tab, eq := fun e => eqsL.any (Nat.beq e), Γ := Γ, ΓL := ΓL }
@[reducible] def cfgL (Γ : Env) (ΓL : EnvL) : Cfg := { τ := tab, eq := fun e => eqsL.any (Nat.beq e), Γ := Γ, ΓL := ΓL, lent := some 0 }
theorem cfg_ok {Γ : Env} {ΓL : EnvL} (h : Γ.ok Try.prog glob) (hL : ΓL.ok Try.prog glob) : (cfg Γ ΓL).ok Try.prog glob := ⟨tab_ok, eqs_ok, h, by kernel_rfl, hL⟩
theorem cfgL_ok {Γ : Env} {ΓL : EnvL} (h : Γ.ok Try.prog glob) (hL : ΓL.ok Try.prog glob) : (cfgL Γ ΓL).ok Try.prog glob := ⟨tab_ok, eqs_ok, h, by kernel_rfl, hL⟩
@[reducible] noncomputable def e_laws_szSipS : FnE := { f := 18, args := [.slice 79 (tySip), .int .i64], res := [.int .i64], F := fun xs => laws_szSipS xs.1 xs.2.1 }
theorem ok_laws_szSipS : FnOK Try.prog glob e_laws_szSipS := by
  refine FnOK.of (e := e_laws_szSipS) (C := cfg [] []) (cfg_ok env_nil envL_nil) Try.func18 (c := codeOf Try.f18) rfl Try.call18 (by decide)
    (.leaf) ?_ ?_
  · exact conds_leaf _ _
  · intro xs r h
    refine Eq.trans (Eq.symm ?_) h
    kernel_rfl
@[reducible] noncomputable def e_laws_toWindow : FnE := { f := 20, args := [tyWindow], res := [tyWindow], F := fun xs => laws_toWindow xs.1 }
theorem ok_laws_toWindow : FnOK Try.prog glob e_laws_toWindow := by
  refine FnOK.of (e := e_laws_toWindow) (C := cfg [] []) (cfg_ok env_nil envL_nil) Try.func20 (c := codeOf Try.f20) rfl Try.call20 (by decide)
    (.leaf) ?_ ?_
  · exact conds_leaf _ _
  · intro xs r h
    refine Eq.trans (Eq.symm ?_) h
    kernel_rfl
@[reducible] noncomputable def e_laws_toSip : FnE := { f := 57, args := [tySip], res := [tySip], F := fun xs => laws_toSip xs.1 }
theorem ok_laws_toSip : FnOK Try.prog glob e_laws_toSip := by
  refine FnOK.of (e := e_laws_toSip) (C := cfg [] []) (cfg_ok env_nil envL_nil) Try.func57 (c := codeOf Try.f57) rfl Try.call57 (by decide)
    (.leaf) ?_ ?_
  · exact conds_leaf _ _
  · intro xs r h
    refine Eq.trans (Eq.symm ?_) h
    kernel_rfl
@[reducible] noncomputable def e_laws_toSipS : FnE := { f := 21, args := [.slice 79 (tySip)], res := [.slice 76 (tySip)], F := fun xs => laws_toSipS xs.1 }
theorem ok_laws_toSipS : FnOK Try.prog glob e_laws_toSipS := by
  refine FnOK.of (e := e_laws_toSipS) (C := cfg [e_laws_toSip] []) (cfg_ok (env_cons ok_laws_toSip env_nil) envL_nil) Try.func21 (c := codeOf Try.f21) rfl Try.call21 (by decide)
    ((.seq .leaf (.seq .leaf (.seq (.seq .leaf (.block (.loop laws_toSipS_l1_p (fun N v => laws_toSipS_l1 N v.1 v.2.1 v.2.2.1) (fun v => laws_toSipS_l1_fuel v.1 v.2.1 v.2.2.1) (fun K1 => .leaf)))) .leaf)))) ?_ ?_
  · exact ⟨conds_leaf _ _, ⟨conds_leaf _ _, ⟨⟨conds_leaf _ _, ⟨fun _ => rfl, fun N => ⟨(fun v => by kernel_rfl), conds_leaf _ _⟩⟩⟩, conds_leaf _ _⟩⟩⟩
  · intro xs r h
    refine Eq.trans (Eq.symm ?_) h
    kernel_rfl
@[reducible] noncomputable def e_spec_l30Now : FnE := { f := 55, args := [.int .i64, tySip], res := [.int .i64], F := fun xs => spec_l30Now xs.1 xs.2.1 }
theorem ok_spec_l30Now : FnOK Try.prog glob e_spec_l30Now := by
  refine FnOK.of (e := e_spec_l30Now) (C := cfg [] []) (cfg_ok env_nil envL_nil) Try.func55 (c := codeOf Try.f55) rfl Try.call55 (by decide)
    (.leaf) ?_ ?_
  · exact conds_leaf _ _
  · intro xs r h
    refine Eq.trans (Eq.symm ?_) h
    kernel_rfl
@[reducible] noncomputable def e_spec_l1In : FnE := { f := 80, args := [.int .i64, .int .i64, .int .i64], res := [.bool], F := fun xs => spec_l1In xs.1 xs.2.1 xs.2.2.1 }
theorem ok_spec_l1In : FnOK Try.prog glob e_spec_l1In := by
  refine FnOK.of (e := e_spec_l1In) (C := cfg [] []) (cfg_ok env_nil envL_nil) Try.func80 (c := codeOf Try.f80) rfl Try.call80 (by decide)
    (.leaf) ?_ ?_
  · exact conds_leaf _ _
  · intro xs r h
    refine Eq.trans (Eq.symm ?_) h
    kernel_rfl
@[reducible] noncomputable def e_spec_IsWindow : FnE := { f := 85, args := [tyWindow], res := [.bool], F := fun xs => spec_IsWindow xs.1 }
theorem ok_spec_IsWindow : FnOK Try.prog glob e_spec_IsWindow := by
  refine FnOK.of (e := e_spec_IsWindow) (C := cfg [e_spec_l1In] []) (cfg_ok (env_cons ok_spec_l1In env_nil) envL_nil) Try.func85 (c := codeOf Try.f85) rfl Try.call85 (by decide)
    (.leaf) ?_ ?_
  · exact conds_leaf _ _
  · intro xs r h
    refine Eq.trans (Eq.symm ?_) h
    kernel_rfl
@[reducible] noncomputable def e_spec_LeftFor : FnE := { f := 71, args := [tyWindow], res := [.int .i64], F := fun xs => spec_LeftFor xs.1 }
theorem ok_spec_LeftFor : FnOK Try.prog glob e_spec_LeftFor := by
  refine FnOK.of (e := e_spec_LeftFor) (C := cfg [e_spec_IsWindow] []) (cfg_ok (env_cons ok_spec_IsWindow env_nil) envL_nil) Try.func71 (c := codeOf Try.f71) rfl Try.call71 (by decide)
    (.leaf) ?_ ?_
  · exact conds_leaf _ _
  · intro xs r h
    refine Eq.trans (Eq.symm ?_) h
    kernel_rfl
@[reducible] noncomputable def e_spec_SeeBytes : FnE := { f := 72, args := [tyWindow, .int .i64], res := [tyWindow, .bool], F := fun xs => spec_SeeBytes xs.1 xs.2.1 }
theorem ok_spec_SeeBytes : FnOK Try.prog glob e_spec_SeeBytes := by
  refine FnOK.of (e := e_spec_SeeBytes) (C := cfg [e_spec_IsWindow] []) (cfg_ok (env_cons ok_spec_IsWindow env_nil) envL_nil) Try.func72 (c := codeOf Try.f72) rfl Try.call72 (by decide)
    (.leaf) ?_ ?_
  · exact conds_leaf _ _
  · intro xs r h
    refine Eq.trans (Eq.symm ?_) h
    kernel_rfl
@[reducible] noncomputable def e_spec_ReadBytes : FnE := { f := 73, args := [tyWindow, .int .i64], res := [tyWindow, .bool], F := fun xs => spec_ReadBytes xs.1 xs.2.1 }
theorem ok_spec_ReadBytes : FnOK Try.prog glob e_spec_ReadBytes := by
  refine FnOK.of (e := e_spec_ReadBytes) (C := cfg [e_spec_IsWindow] []) (cfg_ok (env_cons ok_spec_IsWindow env_nil) envL_nil) Try.func73 (c := codeOf Try.f73) rfl Try.call73 (by decide)
    (.leaf) ?_ ?_
  · exact conds_leaf _ _
  · intro xs r h
    refine Eq.trans (Eq.symm ?_) h
    kernel_rfl
@[reducible] noncomputable def e_spec_MustRaise : FnE := { f := 86, args := [tyWindow], res := [.bool], F := fun xs => spec_MustRaise xs.1 }
theorem ok_spec_MustRaise : FnOK Try.prog glob e_spec_MustRaise := by
  refine FnOK.of (e := e_spec_MustRaise) (C := cfg [e_spec_IsWindow] []) (cfg_ok (env_cons ok_spec_IsWindow env_nil) envL_nil) Try.func86 (c := codeOf Try.f86) rfl Try.call86 (by decide)
    (.leaf) ?_ ?_
  · exact conds_leaf _ _
  · intro xs r h
    refine Eq.trans (Eq.symm ?_) h
    kernel_rfl
@[reducible] noncomputable def e_spec_RaiseWindow : FnE := { f := 74, args := [tyWindow, .int .i64, .int .i64], res := [tyWindow, .bool], F := fun xs => spec_RaiseWindow xs.1 xs.2.1 xs.2.2.1 }
theorem ok_spec_RaiseWindow : FnOK Try.prog glob e_spec_RaiseWindow := by
  refine FnOK.of (e := e_spec_RaiseWindow) (C := cfg [e_spec_MustRaise, e_spec_l1In] []) (cfg_ok (env_cons ok_spec_MustRaise (env_cons ok_spec_l1In env_nil)) envL_nil) Try.func74 (c := codeOf Try.f74) rfl Try.call74 (by decide)
    ((.seq .leaf (.seq .leaf (.join spec_RaiseWindow_j1_p (fun v => spec_RaiseWindow_j1 v.1 v.2.1 v.2.2.1) .leaf .leaf)))) ?_ ?_
  · exact ⟨conds_leaf _ _, ⟨conds_leaf _ _, ⟨conds_leaf _ _, (fun v => by kernel_rfl), conds_leaf _ _⟩⟩⟩
  · intro xs r h
    refine Eq.trans (Eq.symm ?_) h
    kernel_rfl
@[reducible] noncomputable def e_spec_l30Sip : FnE := { f := 56, args := [tyWindow, tySip, .int .i64, .int .i64], res := [tyWindow], F := fun xs => spec_l30Sip xs.1 xs.2.1 xs.2.2.1 xs.2.2.2.1 }
theorem ok_spec_l30Sip : FnOK Try.prog glob e_spec_l30Sip := by
  refine FnOK.of (e := e_spec_l30Sip) (C := cfg [e_spec_LeftFor, e_spec_SeeBytes, e_spec_ReadBytes, e_spec_RaiseWindow] []) (cfg_ok (env_cons ok_spec_LeftFor (env_cons ok_spec_SeeBytes (env_cons ok_spec_ReadBytes (env_cons ok_spec_RaiseWindow env_nil)))) envL_nil) Try.func56 (c := codeOf Try.f56) rfl Try.call56 (by decide)
    (.leaf) ?_ ?_
  · exact conds_leaf _ _
  · intro xs r h
    refine Eq.trans (Eq.symm ?_) h
    kernel_rfl
@[reducible] noncomputable def e_spec_SizesOf : FnE := { f := 30, args := [tyWindow, .slice 76 (tySip), .int .i64], res := [.slice 3 (.int .i64)], F := fun xs => spec_SizesOf xs.1 xs.2.1 xs.2.2.1 }
theorem ok_spec_SizesOf : FnOK Try.prog glob e_spec_SizesOf := by
  refine FnOK.of (e := e_spec_SizesOf) (C := cfg [e_spec_l30Now, e_spec_l30Sip] []) (cfg_ok (env_cons ok_spec_l30Now (env_cons ok_spec_l30Sip env_nil)) envL_nil) Try.func30 (c := codeOf Try.f30) rfl Try.call30 (by decide)
    ((.seq .leaf (.seq .leaf (.seq .leaf (.seq (.seq .leaf (.block (.loop spec_SizesOf_l1_p (fun N v => spec_SizesOf_l1 N v.1 v.2.1 v.2.2.1 v.2.2.2.1 v.2.2.2.2.1 v.2.2.2.2.2.1) (fun v => spec_SizesOf_l1_fuel v.1 v.2.1 v.2.2.1 v.2.2.2.1 v.2.2.2.2.1 v.2.2.2.2.2.1) (fun K1 => .leaf)))) .leaf))))) ?_ ?_
  · exact ⟨conds_leaf _ _, ⟨conds_leaf _ _, ⟨conds_leaf _ _, ⟨⟨conds_leaf _ _, ⟨fun _ => rfl, fun N => ⟨(fun v => by kernel_rfl), conds_leaf _ _⟩⟩⟩, conds_leaf _ _⟩⟩⟩⟩
  · intro xs r h
    refine Eq.trans (Eq.symm ?_) h
    kernel_rfl
@[reducible] noncomputable def e_impl_within : FnE := { f := 79, args := [.int .i64, .int .i64, .int .i64], res := [.bool], F := fun xs => impl_within xs.1 xs.2.1 xs.2.2.1 }
theorem ok_impl_within : FnOK Try.prog glob e_impl_within := by
  refine FnOK.of (e := e_impl_within) (C := cfg [] []) (cfg_ok env_nil envL_nil) Try.func79 (c := codeOf Try.f79) rfl Try.call79 (by decide)
    (.leaf) ?_ ?_
  · exact conds_leaf _ _
  · intro xs r h
    refine Eq.trans (Eq.symm ?_) h
    kernel_rfl
@[reducible] noncomputable def e_impl_IsWindow : FnE := { f := 87, args := [tyWindow], res := [.bool], F := fun xs => impl_IsWindow xs.1 }
theorem ok_impl_IsWindow : FnOK Try.prog glob e_impl_IsWindow := by
  refine FnOK.of (e := e_impl_IsWindow) (C := cfg [e_impl_within] []) (cfg_ok (env_cons ok_impl_within env_nil) envL_nil) Try.func87 (c := codeOf Try.f87) rfl Try.call87 (by decide)
    (.leaf) ?_ ?_
  · exact conds_leaf _ _
  · intro xs r h
    refine Eq.trans (Eq.symm ?_) h
    kernel_rfl
@[reducible] noncomputable def e_impl_LeftFor : FnE := { f := 75, args := [tyWindow], res := [.int .i64], F := fun xs => impl_LeftFor xs.1 }
theorem ok_impl_LeftFor : FnOK Try.prog glob e_impl_LeftFor := by
  refine FnOK.of (e := e_impl_LeftFor) (C := cfg [e_impl_IsWindow] []) (cfg_ok (env_cons ok_impl_IsWindow env_nil) envL_nil) Try.func75 (c := codeOf Try.f75) rfl Try.call75 (by decide)
    (.leaf) ?_ ?_
  · exact conds_leaf _ _
  · intro xs r h
    refine Eq.trans (Eq.symm ?_) h
    kernel_rfl
@[reducible] noncomputable def e_impl_SeeBytes : FnE := { f := 76, args := [tyWindow, .int .i64], res := [tyWindow, .bool], F := fun xs => impl_SeeBytes xs.1 xs.2.1 }
theorem ok_impl_SeeBytes : FnOK Try.prog glob e_impl_SeeBytes := by
  refine FnOK.of (e := e_impl_SeeBytes) (C := cfg [e_impl_IsWindow, e_impl_within] []) (cfg_ok (env_cons ok_impl_IsWindow (env_cons ok_impl_within env_nil)) envL_nil) Try.func76 (c := codeOf Try.f76) rfl Try.call76 (by decide)
    (.leaf) ?_ ?_
  · exact conds_leaf _ _
  · intro xs r h
    refine Eq.trans (Eq.symm ?_) h
    kernel_rfl
@[reducible] noncomputable def e_impl_ReadBytes : FnE := { f := 77, args := [tyWindow, .int .i64], res := [tyWindow, .bool], F := fun xs => impl_ReadBytes xs.1 xs.2.1 }
theorem ok_impl_ReadBytes : FnOK Try.prog glob e_impl_ReadBytes := by
  refine FnOK.of (e := e_impl_ReadBytes) (C := cfg [e_impl_IsWindow, e_impl_within] []) (cfg_ok (env_cons ok_impl_IsWindow (env_cons ok_impl_within env_nil)) envL_nil) Try.func77 (c := codeOf Try.f77) rfl Try.call77 (by decide)
    (.leaf) ?_ ?_
  · exact conds_leaf _ _
  · intro xs r h
    refine Eq.trans (Eq.symm ?_) h
    kernel_rfl
@[reducible] noncomputable def e_impl_MustRaise : FnE := { f := 88, args := [tyWindow], res := [.bool], F := fun xs => impl_MustRaise xs.1 }
theorem ok_impl_MustRaise : FnOK Try.prog glob e_impl_MustRaise := by
  refine FnOK.of (e := e_impl_MustRaise) (C := cfg [e_impl_IsWindow] []) (cfg_ok (env_cons ok_impl_IsWindow env_nil) envL_nil) Try.func88 (c := codeOf Try.f88) rfl Try.call88 (by decide)
    (.leaf) ?_ ?_
  · exact conds_leaf _ _
  · intro xs r h
    refine Eq.trans (Eq.symm ?_) h
    kernel_rfl
@[reducible] noncomputable def e_impl_RaiseWindow : FnE := { f := 78, args := [tyWindow, .int .i64, .int .i64], res := [tyWindow, .bool], F := fun xs => impl_RaiseWindow xs.1 xs.2.1 xs.2.2.1 }
theorem ok_impl_RaiseWindow : FnOK Try.prog glob e_impl_RaiseWindow := by
  refine FnOK.of (e := e_impl_RaiseWindow) (C := cfg [e_impl_MustRaise, e_impl_within] []) (cfg_ok (env_cons ok_impl_MustRaise (env_cons ok_impl_within env_nil)) envL_nil) Try.func78 (c := codeOf Try.f78) rfl Try.call78 (by decide)
    ((.seq .leaf (.seq .leaf (.join impl_RaiseWindow_j1_p (fun v => impl_RaiseWindow_j1 v.1 v.2.1 v.2.2.1) .leaf .leaf)))) ?_ ?_
  · exact ⟨conds_leaf _ _, ⟨conds_leaf _ _, ⟨conds_leaf _ _, (fun v => by kernel_rfl), conds_leaf _ _⟩⟩⟩
  · intro xs r h
    refine Eq.trans (Eq.symm ?_) h
    kernel_rfl
@[reducible] noncomputable def e_impl_sips : FnE := { f := 58, args := [tyWindow, .slice 76 (tySip), .int .i64], res := [.slice 37 (tyWindow)], F := fun xs => impl_sips xs.1 xs.2.1 xs.2.2.1 }
theorem ok_impl_sips : FnOK Try.prog glob e_impl_sips := by
  refine FnOK.of (e := e_impl_sips) (C := cfg [e_impl_LeftFor, e_impl_SeeBytes, e_impl_ReadBytes, e_impl_RaiseWindow] []) (cfg_ok (env_cons ok_impl_LeftFor (env_cons ok_impl_SeeBytes (env_cons ok_impl_ReadBytes (env_cons ok_impl_RaiseWindow env_nil)))) envL_nil) Try.func58 (c := codeOf Try.f58) rfl Try.call58 (by decide)
    ((.seq .leaf (.seq .leaf (.seq (.seq .leaf (.block (.loop impl_sips_l1_p (fun N v => impl_sips_l1 N v.1 v.2.1 v.2.2.1 v.2.2.2.1 v.2.2.2.2.1 v.2.2.2.2.2.1 v.2.2.2.2.2.2.1) (fun v => impl_sips_l1_fuel v.1 v.2.1 v.2.2.1 v.2.2.2.1 v.2.2.2.2.1 v.2.2.2.2.2.1 v.2.2.2.2.2.2.1) (fun K1 => .leaf)))) .leaf)))) ?_ ?_
  · exact ⟨conds_leaf _ _, ⟨conds_leaf _ _, ⟨⟨conds_leaf _ _, ⟨fun _ => rfl, fun N => ⟨(fun v => by kernel_rfl), conds_leaf _ _⟩⟩⟩, conds_leaf _ _⟩⟩⟩
  · intro xs r h
    refine Eq.trans (Eq.symm ?_) h
    kernel_rfl
@[reducible] noncomputable def e_impl_SizesOf : FnE := { f := 31, args := [tyWindow, .slice 76 (tySip), .int .i64], res := [.slice 3 (.int .i64)], F := fun xs => impl_SizesOf xs.1 xs.2.1 xs.2.2.1 }
theorem ok_impl_SizesOf : FnOK Try.prog glob e_impl_SizesOf := by
  refine FnOK.of (e := e_impl_SizesOf) (C := cfg [e_impl_sips] []) (cfg_ok (env_cons ok_impl_sips env_nil) envL_nil) Try.func31 (c := codeOf Try.f31) rfl Try.call31 (by decide)
    ((.seq .leaf (.seq .leaf (.seq (.seq .leaf (.block (.loop impl_SizesOf_l1_p (fun N v => impl_SizesOf_l1 N v.1 v.2.1 v.2.2.1 v.2.2.2.1) (fun v => impl_SizesOf_l1_fuel v.1 v.2.1 v.2.2.1 v.2.2.2.1) (fun K1 => .leaf)))) .leaf)))) ?_ ?_
  · exact ⟨conds_leaf _ _, ⟨conds_leaf _ _, ⟨⟨conds_leaf _ _, ⟨fun _ => rfl, fun N => ⟨(fun v => by kernel_rfl), conds_leaf _ _⟩⟩⟩, conds_leaf _ _⟩⟩⟩
  · intro xs r h
    refine Eq.trans (Eq.symm ?_) h
    kernel_rfl
@[reducible] noncomputable def e_laws_eqIntS : FnE := { f := 13, args := [.slice 3 (.int .i64), .slice 3 (.int .i64)], res := [.bool], F := fun xs => laws_eqIntS xs.1 xs.2.1 }
theorem ok_laws_eqIntS : FnOK Try.prog glob e_laws_eqIntS := by
  refine FnOK.of (e := e_laws_eqIntS) (C := cfg [] []) (cfg_ok env_nil envL_nil) Try.func13 (c := codeOf Try.f13) rfl Try.call13 (by decide)
    ((.seq .leaf (.seq .leaf (.seq (.seq .leaf (.block (.loop laws_eqIntS_l1_p (fun N v => laws_eqIntS_l1 N v.1 v.2.1 v.2.2.1) (fun v => laws_eqIntS_l1_fuel v.1 v.2.1 v.2.2.1) (fun K1 => .leaf)))) .leaf)))) ?_ ?_
  · exact ⟨conds_leaf _ _, ⟨conds_leaf _ _, ⟨⟨conds_leaf _ _, ⟨fun _ => rfl, fun N => ⟨(fun v => by kernel_rfl), conds_leaf _ _⟩⟩⟩, conds_leaf _ _⟩⟩⟩
  · intro xs r h
    refine Eq.trans (Eq.symm ?_) h
    kernel_rfl
@[reducible] noncomputable def e_laws_eqSip : FnE := { f := 59, args := [tySip, tySip], res := [.bool], F := fun xs => laws_eqSip xs.1 xs.2.1 }
theorem ok_laws_eqSip : FnOK Try.prog glob e_laws_eqSip := by
  refine FnOK.of (e := e_laws_eqSip) (C := cfg [] []) (cfg_ok env_nil envL_nil) Try.func59 (c := codeOf Try.f59) rfl Try.call59 (by decide)
    (.leaf) ?_ ?_
  · exact conds_leaf _ _
  · intro xs r h
    refine Eq.trans (Eq.symm ?_) h
    kernel_rfl
@[reducible] noncomputable def e_laws_eqSipS : FnE := { f := 24, args := [.slice 76 (tySip), .slice 76 (tySip)], res := [.bool], F := fun xs => laws_eqSipS xs.1 xs.2.1 }
theorem ok_laws_eqSipS : FnOK Try.prog glob e_laws_eqSipS := by
  refine FnOK.of (e := e_laws_eqSipS) (C := cfg [e_laws_eqSip] []) (cfg_ok (env_cons ok_laws_eqSip env_nil) envL_nil) Try.func24 (c := codeOf Try.f24) rfl Try.call24 (by decide)
    ((.seq .leaf (.seq .leaf (.seq (.seq .leaf (.block (.loop laws_eqSipS_l1_p (fun N v => laws_eqSipS_l1 N v.1 v.2.1 v.2.2.1) (fun v => laws_eqSipS_l1_fuel v.1 v.2.1 v.2.2.1) (fun K1 => .leaf)))) .leaf)))) ?_ ?_
  · exact ⟨conds_leaf _ _, ⟨conds_leaf _ _, ⟨⟨conds_leaf _ _, ⟨fun _ => rfl, fun N => ⟨(fun v => by kernel_rfl), conds_leaf _ _⟩⟩⟩, conds_leaf _ _⟩⟩⟩
  · intro xs r h
    refine Eq.trans (Eq.symm ?_) h
    kernel_rfl
@[reducible] noncomputable def e_laws_markSipS : FnL := { f := 29, e := 76, t := tySip, args := [.int .i64], res := [.int .i64], F := fun l xs => laws_markSipS l xs.1 }
theorem ok_laws_markSipS : FnLOK Try.prog glob e_laws_markSipS := by
  refine FnLOK.of (e := e_laws_markSipS) (C := cfgL [] []) (cfgL_ok env_nil envL_nil) rfl rfl rfl Try.func29 (c := codeOf Try.f29) rfl Try.call29 (by decide)
    ((.seq .leaf (.seq (.seq .leaf (.block (.loop laws_markSipS_l1_p (fun N v => laws_markSipS_l1 N v.1 v.2.1 v.2.2.1) (fun v => laws_markSipS_l1_fuel v.1 v.2.1 v.2.2.1) (fun K1 => .leaf)))) .leaf))) ?_ ?_
  · exact ⟨conds_leaf _ _, ⟨⟨conds_leaf _ _, ⟨fun _ => rfl, fun N => ⟨(fun v => by kernel_rfl), conds_leaf _ _⟩⟩⟩, conds_leaf _ _⟩⟩
  · intro l xs r h
    refine Eq.trans (Eq.symm ?_) h
    kernel_rfl
@[reducible] noncomputable def e_laws_markIntS : FnL := { f := 16, e := 3, t := .int .i64, args := [.int .i64], res := [.int .i64], F := fun l xs => laws_markIntS l xs.1 }
theorem ok_laws_markIntS : FnLOK Try.prog glob e_laws_markIntS := by
  refine FnLOK.of (e := e_laws_markIntS) (C := cfgL [] []) (cfgL_ok env_nil envL_nil) rfl rfl rfl Try.func16 (c := codeOf Try.f16) rfl Try.call16 (by decide)
    ((.seq .leaf (.seq (.seq .leaf (.block (.loop laws_markIntS_l1_p (fun N v => laws_markIntS_l1 N v.1 v.2.1 v.2.2.1) (fun v => laws_markIntS_l1_fuel v.1 v.2.1 v.2.2.1) (fun K1 => .leaf)))) .leaf))) ?_ ?_
  · exact ⟨conds_leaf _ _, ⟨⟨conds_leaf _ _, ⟨fun _ => rfl, fun N => ⟨(fun v => by kernel_rfl), conds_leaf _ _⟩⟩⟩, conds_leaf _ _⟩⟩
  · intro l xs r h
    refine Eq.trans (Eq.symm ?_) h
    kernel_rfl
@[reducible] noncomputable def e_laws_heldIntS : FnE := { f := 17, args := [.slice 3 (.int .i64), .int .i64], res := [.int .i64], F := fun xs => laws_heldIntS xs.1 xs.2.1 }
theorem ok_laws_heldIntS : FnOK Try.prog glob e_laws_heldIntS := by
  refine FnOK.of (e := e_laws_heldIntS) (C := cfg [] []) (cfg_ok env_nil envL_nil) Try.func17 (c := codeOf Try.f17) rfl Try.call17 (by decide)
    ((.seq .leaf (.seq (.seq .leaf (.block (.loop laws_heldIntS_l1_p (fun N v => laws_heldIntS_l1 N v.1 v.2.1 v.2.2.1) (fun v => laws_heldIntS_l1_fuel v.1 v.2.1 v.2.2.1) (fun K1 => .leaf)))) .leaf))) ?_ ?_
  · exact ⟨conds_leaf _ _, ⟨⟨conds_leaf _ _, ⟨fun _ => rfl, fun N => ⟨(fun v => by kernel_rfl), conds_leaf _ _⟩⟩⟩, conds_leaf _ _⟩⟩
  · intro xs r h
    refine Eq.trans (Eq.symm ?_) h
    kernel_rfl
@[reducible] noncomputable def e_laws_FnExactSizesOf : FnE := { f := 7, args := [tyWindow, .slice 79 (tySip), .int .i64], res := [.bool], F := fun xs => laws_FnExactSizesOf xs.1 xs.2.1 xs.2.2.1 }
theorem ok_laws_FnExactSizesOf : FnOK Try.prog glob e_laws_FnExactSizesOf := by
  refine FnOK.of (e := e_laws_FnExactSizesOf) (C := cfg [e_laws_szSipS, e_laws_toWindow, e_laws_toSipS, e_spec_SizesOf, e_impl_SizesOf, e_laws_eqIntS, e_laws_eqSipS, e_laws_heldIntS] [e_laws_markSipS, e_laws_markIntS]) (cfg_ok (env_cons ok_laws_szSipS (env_cons ok_laws_toWindow (env_cons ok_laws_toSipS (env_cons ok_spec_SizesOf (env_cons ok_impl_SizesOf (env_cons ok_laws_eqIntS (env_cons ok_laws_eqSipS (env_cons ok_laws_heldIntS env_nil)))))))) (envL_cons ok_laws_markSipS (envL_cons ok_laws_markIntS envL_nil))) Try.func7 (c := codeOf Try.f7) rfl Try.call7 (by decide)
    (.leaf) ?_ ?_
  · exact conds_leaf _ _
  · intro xs r h
    refine Eq.trans (Eq.symm ?_) h
    kernel_rfl
end Go.Proofs.Ytifcipnimblkpaa

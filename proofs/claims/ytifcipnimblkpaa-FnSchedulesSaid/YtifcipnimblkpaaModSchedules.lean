/- FnSchedules: what the functions that it reaches compute, as plain functions, and that they do so. No condition. -/
import Derived.Test.YtifcipnimblkpaaRows
import Derived.Test.YtifcipnimblkpaaAm4
namespace Go.Proofs.Ytifcipnimblkpaa
open Go.Am
set_option maxRecDepth 100000
set_option linter.unusedVariables false

@[reducible] def tyPriority : Ty := .pair (.int .i64) (.pair (.bool) (.unit))
@[reducible] def TPriority : Type := Int × Bool × Unit
def zPriority : TPriority := ((0 : Int), (false, ()))
@[reducible] def tyl1Cur : Ty := .pair (.slice 5 (.int .u8)) (.pair (.int .i64) (.pair (.int .i64) (.unit)))
@[reducible] def Tl1Cur : Type := List Int × Int × Int × Unit
def zl1Cur : Tl1Cur := (([] : List Int), ((0 : Int), ((0 : Int), ())))
@[reducible] def tyCandidate : Ty := .pair (.int .i64) (.pair (tyPriority) (.unit))
@[reducible] def TCandidate : Type := Int × TPriority × Unit
def zCandidate : TCandidate := ((0 : Int), (((0 : Int), (false, ())), ()))
noncomputable def laws_big (code0 : List Int) : Option (Bool × Unit) :=
  some (decide ((code0.length : Int) > (1048576 : Int)), ())
@[reducible] def spec_l1New_l1_p : List PE := [.val 0 (.slice 5 (.int .u8)) (.u false), .val 3 (.int .i64) (.u false), .val 4 (.int .i64) (.u false)]
def spec_l1New_l1_fuel (code0_1 : List Int) (h3 : Int) (i4 : Int) : Nat := ((code0_1.length : Int) - i4).toNat + 1
noncomputable def spec_l1New_l1 : Nat → List Int → Int → Int → Option ((Tl1Cur) × (Unit))
  | 0, _, _, _ => none
  | N + 1, code0_1, h3, i4 =>
    bif (decide (i4 < (code0_1.length : Int))) && (decide (i4 < (4000 : Int))) then
      guardP (0 ≤ i4 ∧ i4 < code0_1.length) <|
      spec_l1New_l1 N code0_1 (bits .and .i64 (IntKind.i64.wrap ((IntKind.i64.wrap ((IntKind.i64.wrap (h3 * (131 : Int))) + (IntKind.i64.wrap (code0_1.getD i4.toNat (0 : Int))))) + (7 : Int))) (1073741823 : Int)) (IntKind.i64.wrap (i4 + (1 : Int)))
    else
      some ((code0_1, ((0 : Int), (h3, ()))), ())
noncomputable def spec_l1New (code0 : List Int) : Option ((Tl1Cur) × (Unit)) :=
  let t7 : Int := IntKind.i64.wrap ((10101 : Int) + (code0.length : Int))
  spec_l1New_l1 (spec_l1New_l1_fuel code0 t7 (0 : Int)) code0 t7 (0 : Int)
noncomputable def spec_l1Byte (c0 : Tl1Cur) : Option ((Int × Unit) × (Tl1Cur × Unit)) :=
  let t10 : Int := IntKind.i64.wrap ((IntKind.i64.wrap (c0.2.2.1 * (6364136223846793005 : Int))) + (1442695040888963407 : Int))
  guardP (0 ≤ (33 : Int)) <|
  guardP (0 ≤ (45 : Int)) <|
  let t24 : Int := bits .and .i64 (bits .xor .i64 (t10.fdiv (2 ^ (min (33 : Int).toNat IntKind.i64.bits))) (t10.fdiv (2 ^ (min (45 : Int).toNat IntKind.i64.bits)))) (255 : Int)
  bif decide (c0.2.1 < (c0.1.length : Int)) then
    guardP (0 ≤ c0.2.1 ∧ c0.2.1 < c0.1.length) <|
    some ((bits .and .i64 (IntKind.i64.wrap (t24 + (IntKind.i64.wrap (c0.1.getD c0.2.1.toNat (0 : Int))))) (255 : Int), ()), ((c0.1, (IntKind.i64.wrap (c0.2.1 + (1 : Int)), (t10, c0.2.2.2))), ()))
  else
    some ((t24, ()), ((c0.1, (c0.2.1, (t10, c0.2.2.2))), ()))
noncomputable def spec_l1Below (c0 : Tl1Cur) (n1 : Int) : Option ((Int × Unit) × (Tl1Cur × Unit)) :=
  bif decide (n1 ≤ (0 : Int)) then
    some (((0 : Int), ()), (c0, ()))
  else
    bif decide (n1 ≤ (256 : Int)) then
      Option.bind (spec_l1Byte c0) fun t14 =>
      guardP (n1 ≠ 0) <|
      some ((Int.tmod t14.1.1 n1, ()), (t14.2.1, ()))
    else
      Option.bind (spec_l1Byte c0) fun t18 =>
      Option.bind (spec_l1Byte t18.2.1) fun t20 =>
      Option.bind (spec_l1Byte t20.2.1) fun t22 =>
      Option.bind (spec_l1Byte t22.2.1) fun t24 =>
      guardP (n1 ≠ 0) <|
      some ((Int.tmod (IntKind.i64.wrap ((IntKind.i64.wrap ((IntKind.i64.wrap ((IntKind.i64.wrap (t18.1.1 * (16777216 : Int))) + (IntKind.i64.wrap (t20.1.1 * (65536 : Int))))) + (IntKind.i64.wrap (t22.1.1 * (256 : Int))))) + t24.1.1)) n1, ()), (t24.2.1, ()))
noncomputable def spec_l1PickInt (c0 : Tl1Cur) (list1 : List Int) : Option ((Int × Unit) × (Tl1Cur × Unit)) :=
  Option.bind (spec_l1Below c0 (list1.length : Int)) fun t9 =>
  guardP (0 ≤ t9.1.1 ∧ t9.1.1 < list1.length) <|
  some ((list1.getD t9.1.1.toNat (0 : Int), ()), (t9.2.1, ()))
noncomputable def spec_l1Once (c0 : Tl1Cur) (n1 : Int) : Option ((Bool × Unit) × (Tl1Cur × Unit)) :=
  Option.bind (spec_l1Below c0 n1) fun t7 =>
  some ((t7.1.1 == (0 : Int), ()), (t7.2.1, ()))
noncomputable def spec_l13Priority (c0 : Tl1Cur) : Option ((TPriority × Unit) × (Tl1Cur × Unit)) :=
  Option.bind (spec_l1PickInt c0 ([(0 : Int), (1 : Int), (3 : Int), (3 : Int), (3 : Int), (7 : Int)])) fun t6 =>
  Option.bind (spec_l1Once t6.2.1 (2 : Int)) fun t9 =>
  some (((t6.1.1, (t9.1.1, ())), ()), (t9.2.1, ()))
noncomputable def spec_l13Any (c0 : Tl1Cur) : Option ((TPriority × Unit) × (Tl1Cur × Unit)) :=
  Option.bind (spec_l13Priority c0) fun t5 =>
  Option.bind (spec_l1Once t5.2.1 (8 : Int)) fun t7 =>
  bif t7.1.1 then
    Option.bind (spec_l1PickInt t7.2.1 ([(-1 : Int), (8 : Int)])) fun t10 =>
    some (((t10.1.1, t5.1.1.2), ()), (t10.2.1, ()))
  else
    some ((t5.1.1, ()), (t7.2.1, ()))
@[reducible] def spec_l14List_l1_p : List PE := [.box 0 97 (tyl1Cur) (.u false), .val 3 (.slice 63 (tyCandidate)) (.u true), .val 4 (.int .i64) (.u false), .val 5 (.int .i64) (.u false)]
def spec_l14List_l1_fuel (c0_1 : Tl1Cur) (l3 : List TCandidate) (id4 : Int) (n5 : Int) : Nat := (n5 - (0 : Int)).toNat + 1
noncomputable def spec_l14List_l1 : Nat → Tl1Cur → List TCandidate → Int → Int → Option ((List TCandidate × Unit) × (Tl1Cur × Unit))
  | 0, _, _, _, _ => none
  | N + 1, c0_1, l3, id4, n5 =>
    bif decide (n5 > (0 : Int)) then
      Option.bind (spec_l1Below c0_1 (3 : Int)) fun t17 =>
      let t18 : Int := IntKind.i64.wrap ((IntKind.i64.wrap (id4 + (1 : Int))) + t17.1.1)
      Option.bind (spec_l13Priority t17.2.1) fun t20 =>
      guardP (l3.length + ([(t18, (t20.1.1, ()))]).length ≤ capN) <|
      spec_l14List_l1 N t20.2.1 (l3 ++ ([(t18, (t20.1.1, ()))])) t18 (IntKind.i64.wrap (n5 - (1 : Int)))
    else
      Option.bind (spec_l1Once c0_1 (14 : Int)) fun t28 =>
      bif t28.1.1 then
        Option.bind (spec_l1Below t28.2.1 (4 : Int)) fun t31 =>
        Option.bind (spec_l13Any t31.2.1) fun t33 =>
        guardP (l3.length + ([(t31.1.1, (t33.1.1, ()))]).length ≤ capN) <|
        some ((l3 ++ ([(t31.1.1, (t33.1.1, ()))]), ()), (t33.2.1, ()))
      else
        some ((l3, ()), (t28.2.1, ()))
noncomputable def spec_l14List (c0 : Tl1Cur) : Option ((List TCandidate × Unit) × (Tl1Cur × Unit)) :=
  Option.bind (spec_l1Below c0 (6 : Int)) fun t9 =>
  spec_l14List_l1 (spec_l14List_l1_fuel t9.2.1 ([] : List TCandidate) (0 : Int) t9.1.1) t9.2.1 ([] : List TCandidate) (0 : Int) t9.1.1
noncomputable def spec_DrawPlainNext (code0 : List Int) : Option (List TCandidate × Int × Unit) :=
  Option.bind (spec_l1New code0) fun t7 =>
  Option.bind (spec_l14List t7.1) fun t9 =>
  Option.bind (spec_l1Below t9.2.1 (16 : Int)) fun t12 =>
  some (t9.1.1, IntKind.i64.wrap (t12.1.1 - (1 : Int)), ())
noncomputable def spec_DrawNextStream (code0 : List Int) : Option (List TCandidate × Int × Unit) :=
  Option.bind (spec_DrawPlainNext code0) fun t8 =>
  some (t8.1, t8.2.1, ())
noncomputable def impl_within (n0 : Int) (low1 : Int) (high2 : Int) : Option (Bool × Unit) :=
  some ((decide (low1 ≤ n0)) && (decide (n0 ≤ high2)), ())
noncomputable def impl_isQuic (n0 : Int) : Option (Bool × Unit) :=
  Option.bind (impl_within n0 (0 : Int) (4611686018427387903 : Int)) fun t4 =>
  some (t4.1, ())
noncomputable def impl_IsPriority (p0 : TPriority) : Option (Bool × Unit) :=
  Option.bind (impl_within p0.1 (0 : Int) (7 : Int)) fun t5 =>
  some (t5.1, ())
@[reducible] def impl_AreCandidates_l1_p : List PE := [.val 0 (.slice 63 (tyCandidate)) (.u false), .val 5 (.slice 63 (tyCandidate)) (.u false), .val 6 (.int .i64) (.u false), .val 7 (.int .i64) (.u false)]
def impl_AreCandidates_l1_fuel (l0_1 : List TCandidate) (t5 : List TCandidate) (t6_1 : Int) (t7 : Int) : Nat := (t6_1 - t7).toNat + 1
noncomputable def impl_AreCandidates_l1 : Nat → List TCandidate → List TCandidate → Int → Int → Option (Bool × Unit)
  | 0, _, _, _, _ => none
  | N + 1, l0_1, t5, t6_1, t7 =>
    bif decide (t7 < t6_1) then
      guardP (0 ≤ t7 ∧ t7 < t5.length) <|
      Option.bind (impl_isQuic (t5.getD t7.toNat zCandidate).1) fun t14 =>
      Option.bind (bif (!t14.1) then some (false, ()) else (impl_IsPriority (t5.getD t7.toNat zCandidate).2.1)) fun t19 =>
      guardP ((((!t14.1) || (!t19.1)) = false → ((decide (t7 > (0 : Int))) = true → (0 ≤ (IntKind.i64.wrap (t7 - (1 : Int))) ∧ (IntKind.i64.wrap (t7 - (1 : Int))) < l0_1.length)))) <|
      bif ((!t14.1) || (!t19.1)) || ((decide (t7 > (0 : Int))) && (decide ((l0_1.getD (IntKind.i64.wrap (t7 - (1 : Int))).toNat zCandidate).1 ≥ (t5.getD t7.toNat zCandidate).1))) then
        some (false, ())
      else
        impl_AreCandidates_l1 N l0_1 t5 t6_1 (IntKind.i64.wrap (t7 + (1 : Int)))
    else
      some (true, ())
noncomputable def impl_AreCandidates (l0 : List TCandidate) : Option (Bool × Unit) :=
  impl_AreCandidates_l1 (impl_AreCandidates_l1_fuel l0 l0 (l0.length : Int) (0 : Int)) l0 l0 (l0.length : Int) (0 : Int)
@[reducible] def impl_urgent_l2_p : List PE := [.val 3 (.int .i64) (.u false), .val 4 (.slice 63 (tyCandidate)) (.u true), .val 22 (.slice 63 (tyCandidate)) (.u false), .val 23 (.int .i64) (.u false), .val 24 (.int .i64) (.u false)]
def impl_urgent_l2_fuel (least3_1 : Int) (out4_1 : List TCandidate) (t22 : List TCandidate) (t23_1 : Int) (t24 : Int) : Nat := (t23_1 - t24).toNat + 1
noncomputable def impl_urgent_l2 : Nat → Int → List TCandidate → List TCandidate → Int → Int → Option (List TCandidate × Unit)
  | 0, _, _, _, _, _ => none
  | N + 1, least3_1, out4_1, t22, t23_1, t24 =>
    bif decide (t24 < t23_1) then
      guardP (0 ≤ t24 ∧ t24 < t22.length) <|
      bif (t22.getD t24.toNat zCandidate).2.1.1 == least3_1 then
        guardP (out4_1.length + ([(t22.getD t24.toNat zCandidate)]).length ≤ capN) <|
        impl_urgent_l2 N least3_1 (out4_1 ++ ([(t22.getD t24.toNat zCandidate)])) t22 t23_1 (IntKind.i64.wrap (t24 + (1 : Int)))
      else
        impl_urgent_l2 N least3_1 out4_1 t22 t23_1 (IntKind.i64.wrap (t24 + (1 : Int)))
    else
      some (out4_1, ())
@[reducible] def impl_urgent_l1_p : List PE := [.val 0 (.slice 63 (tyCandidate)) (.u false), .val 3 (.int .i64) (.u false), .val 4 (.slice 63 (tyCandidate)) (.u true), .val 10 (.slice 63 (tyCandidate)) (.u false), .val 11 (.int .i64) (.u false), .val 12 (.int .i64) (.u false)]
def impl_urgent_l1_fuel (l0_1 : List TCandidate) (least3 : Int) (out4 : List TCandidate) (t10 : List TCandidate) (t11_1 : Int) (t12 : Int) : Nat := (t11_1 - t12).toNat + 1
noncomputable def impl_urgent_l1 : Nat → List TCandidate → Int → List TCandidate → List TCandidate → Int → Int → Option (List TCandidate × Unit)
  | 0, _, _, _, _, _, _ => none
  | N + 1, l0_1, least3, out4, t10, t11_1, t12 =>
    bif decide (t12 < t11_1) then
      guardP (0 ≤ t12 ∧ t12 < t10.length) <|
      impl_urgent_l1 N l0_1 (min least3 (t10.getD t12.toNat zCandidate).2.1.1) out4 t10 t11_1 (IntKind.i64.wrap (t12 + (1 : Int)))
    else
      impl_urgent_l2 (impl_urgent_l2_fuel least3 out4 l0_1 (l0_1.length : Int) (0 : Int)) least3 out4 l0_1 (l0_1.length : Int) (0 : Int)
noncomputable def impl_urgent (l0 : List TCandidate) : Option (List TCandidate × Unit) :=
  impl_urgent_l1 (impl_urgent_l1_fuel l0 (7 : Int) ([] : List TCandidate) l0 (l0.length : Int) (0 : Int)) l0 (7 : Int) ([] : List TCandidate) l0 (l0.length : Int) (0 : Int)
@[reducible] def impl_PlainNext_l1_p : List PE := [.val 0 (.slice 63 (tyCandidate)) (.u false), .val 1 (.int .i64) (.u false), .val 15 (.slice 63 (tyCandidate)) (.u false), .val 16 (.int .i64) (.u false), .val 17 (.int .i64) (.u false)]
def impl_PlainNext_l1_fuel (l0_1 : List TCandidate) (last1_1 : Int) (t15 : List TCandidate) (t16_1 : Int) (t17 : Int) : Nat := (t16_1 - t17).toNat + 1
noncomputable def impl_PlainNext_l1 : Nat → List TCandidate → Int → List TCandidate → Int → Int → Option (Int × Unit)
  | 0, _, _, _, _, _ => none
  | N + 1, l0_1, last1_1, t15, t16_1, t17 =>
    bif decide (t17 < t16_1) then
      guardP (0 ≤ t17 ∧ t17 < t15.length) <|
      bif decide ((t15.getD t17.toNat zCandidate).1 > last1_1) then
        some ((t15.getD t17.toNat zCandidate).1, ())
      else
        impl_PlainNext_l1 N l0_1 last1_1 t15 t16_1 (IntKind.i64.wrap (t17 + (1 : Int)))
    else
      guardP (0 ≤ (0 : Int) ∧ (0 : Int) < l0_1.length) <|
      some ((l0_1.getD (0 : Int).toNat zCandidate).1, ())
noncomputable def impl_PlainNext (l0 : List TCandidate) (last1 : Int) : Option (Int × Unit) :=
  Option.bind (bif ((l0.length : Int) == (0 : Int)) then some (false, ()) else (impl_AreCandidates l0)) fun t12 =>
  bif ((l0.length : Int) == (0 : Int)) || (!t12.1) then
    some ((-1 : Int), ())
  else
    impl_PlainNext_l1 (impl_PlainNext_l1_fuel l0 last1 l0 (l0.length : Int) (0 : Int)) l0 last1 l0 (l0.length : Int) (0 : Int)
@[reducible] def impl_NextStream_l1_p : List PE := [.val 1 (.int .i64) (.u false), .val 5 (.slice 63 (tyCandidate)) (.u true), .bor 18 5 [], .val 19 (.int .i64) (.u false), .val 20 (.int .i64) (.u false)]
def impl_NextStream_l1_fuel (last1_1 : Int) (first5 : List TCandidate) (t19_1 : Int) (t20 : Int) : Nat := (t19_1 - t20).toNat + 1
noncomputable def impl_NextStream_l1 : Nat → Int → List TCandidate → Int → Int → Option (Int × Unit)
  | 0, _, _, _, _ => none
  | N + 1, last1_1, first5, t19_1, t20 =>
    bif decide (t20 < t19_1) then
      guardP (0 ≤ t20 ∧ t20 < first5.length) <|
      bif !(first5.getD t20.toNat zCandidate).2.1.2.1 then
        some ((first5.getD t20.toNat zCandidate).1, ())
      else
        impl_NextStream_l1 N last1_1 first5 t19_1 (IntKind.i64.wrap (t20 + (1 : Int)))
    else
      Option.bind (impl_PlainNext first5 last1_1) fun t33 =>
      some (t33.1, ())
noncomputable def impl_NextStream (l0 : List TCandidate) (last1 : Int) : Option (Int × Unit) :=
  Option.bind (bif ((l0.length : Int) == (0 : Int)) then some (false, ()) else (impl_AreCandidates l0)) fun t13 =>
  bif ((l0.length : Int) == (0 : Int)) || (!t13.1) then
    some ((-1 : Int), ())
  else
    Option.bind (impl_urgent l0) fun t17 =>
    impl_NextStream_l1 (impl_NextStream_l1_fuel last1 t17.1 (t17.1.length : Int) (0 : Int)) last1 t17.1 (t17.1.length : Int) (0 : Int)
@[reducible] def impl_MostUrgent_l1_p : List PE := [.val 3 (.slice 3 (.int .i64)) (.u true), .val 12 (.slice 63 (tyCandidate)) (.u true), .val 13 (.int .i64) (.u false), .val 14 (.int .i64) (.u false)]
def impl_MostUrgent_l1_fuel (out3 : List Int) (t12_1 : List TCandidate) (t13_1 : Int) (t14 : Int) : Nat := (t13_1 - t14).toNat + 1
noncomputable def impl_MostUrgent_l1 : Nat → List Int → List TCandidate → Int → Int → Option (List Int × Unit)
  | 0, _, _, _, _ => none
  | N + 1, out3, t12_1, t13_1, t14 =>
    bif decide (t14 < t13_1) then
      guardP (0 ≤ t14 ∧ t14 < t12_1.length) <|
      guardP (out3.length + ([(t12_1.getD t14.toNat zCandidate).1]).length ≤ capN) <|
      impl_MostUrgent_l1 N (out3 ++ ([(t12_1.getD t14.toNat zCandidate).1])) t12_1 t13_1 (IntKind.i64.wrap (t14 + (1 : Int)))
    else
      some (out3, ())
noncomputable def impl_MostUrgent (l0 : List TCandidate) : Option (List Int × Unit) :=
  Option.bind (impl_AreCandidates l0) fun t8 =>
  bif !t8.1 then
    some (([] : List Int), ())
  else
    Option.bind (impl_urgent l0) fun t12 =>
    impl_MostUrgent_l1 (impl_MostUrgent_l1_fuel ([] : List Int) t12.1 (t12.1.length : Int) (0 : Int)) ([] : List Int) t12.1 (t12.1.length : Int) (0 : Int)
noncomputable def spec_l1In (x0 : Int) (low1 : Int) (high2 : Int) : Option (Bool × Unit) :=
  some ((decide (x0 ≥ low1)) && (decide (x0 ≤ high2)), ())
noncomputable def spec_l4Quic (n0 : Int) : Option (Bool × Unit) :=
  Option.bind (spec_l1In n0 (0 : Int) (4611686018427387903 : Int)) fun t4 =>
  some (t4.1, ())
noncomputable def spec_IsPriority (p0 : TPriority) : Option (Bool × Unit) :=
  Option.bind (spec_l1In p0.1 (0 : Int) (7 : Int)) fun t5 =>
  some (t5.1, ())
@[reducible] def spec_AreCandidates_l1_p : List PE := [.val 0 (.slice 63 (tyCandidate)) (.u false), .val 3 (.int .i64) (.u false)]
def spec_AreCandidates_l1_fuel (l0_1 : List TCandidate) (i3 : Int) : Nat := ((l0_1.length : Int) - i3).toNat + 1
noncomputable def spec_AreCandidates_l1 : Nat → List TCandidate → Int → Option (Bool × Unit)
  | 0, _, _ => none
  | N + 1, l0_1, i3 =>
    bif decide (i3 < (l0_1.length : Int)) then
      guardP (0 ≤ i3 ∧ i3 < l0_1.length) <|
      Option.bind (spec_l4Quic (l0_1.getD i3.toNat zCandidate).1) fun t15 =>
      guardP (((!t15.1) = false → (0 ≤ i3 ∧ i3 < l0_1.length))) <|
      Option.bind (bif (!t15.1) then some (false, ()) else (spec_IsPriority (l0_1.getD i3.toNat zCandidate).2.1)) fun t23 =>
      guardP ((((!t15.1) || (!t23.1)) = false → ((decide (i3 > (0 : Int))) = true → (0 ≤ i3 ∧ i3 < l0_1.length)))) <|
      guardP ((((!t15.1) || (!t23.1)) = false → ((decide (i3 > (0 : Int))) = true → (0 ≤ (IntKind.i64.wrap (i3 - (1 : Int))) ∧ (IntKind.i64.wrap (i3 - (1 : Int))) < l0_1.length)))) <|
      bif ((!t15.1) || (!t23.1)) || ((decide (i3 > (0 : Int))) && (decide ((l0_1.getD i3.toNat zCandidate).1 ≤ (l0_1.getD (IntKind.i64.wrap (i3 - (1 : Int))).toNat zCandidate).1))) then
        some (false, ())
      else
        spec_AreCandidates_l1 N l0_1 (IntKind.i64.wrap (i3 + (1 : Int)))
    else
      some (true, ())
noncomputable def spec_AreCandidates (l0 : List TCandidate) : Option (Bool × Unit) :=
  spec_AreCandidates_l1 (spec_AreCandidates_l1_fuel l0 (0 : Int)) l0 (0 : Int)
@[reducible] def spec_MostUrgent_j1_p : List PE := [.val 0 (.slice 63 (tyCandidate)) (.u false), .val 3 (.slice 3 (.int .i64)) (.u true), .val 4 (.int .i64) (.u false), .val 5 (.int .i64) (.u false)]
noncomputable def spec_MostUrgent_j1 (K1 : (List TCandidate × List Int × Int × Int × Unit) → Option (List Int × Unit)) (l0_2 : List TCandidate) (out3_1 : List Int) (best4_1 : Int) (i5_1 : Int) : Option (List Int × Unit) :=
  K1 (l0_2, out3_1, best4_1, IntKind.i64.wrap (i5_1 + (1 : Int)), ())
@[reducible] def spec_MostUrgent_j2_p : List PE := [.val 0 (.slice 63 (tyCandidate)) (.u false), .val 3 (.slice 3 (.int .i64)) (.u true), .val 4 (.int .i64) (.u false), .val 5 (.int .i64) (.u false)]
noncomputable def spec_MostUrgent_j2 (K1 : (List TCandidate × List Int × Int × Int × Unit) → Option (List Int × Unit)) (l0_3 : List TCandidate) (out3_2 : List Int) (best4_2 : Int) (i5_2 : Int) : Option (List Int × Unit) :=
  guardP (0 ≤ i5_2 ∧ i5_2 < l0_3.length) <|
  bif (l0_3.getD i5_2.toNat zCandidate).2.1.1 == best4_2 then
    guardP (0 ≤ i5_2 ∧ i5_2 < l0_3.length) <|
    guardP (out3_2.length + ([(l0_3.getD i5_2.toNat zCandidate).1]).length ≤ capN) <|
    spec_MostUrgent_j1 K1 l0_3 (out3_2 ++ ([(l0_3.getD i5_2.toNat zCandidate).1])) best4_2 i5_2
  else
    spec_MostUrgent_j1 K1 l0_3 out3_2 best4_2 i5_2
@[reducible] def spec_MostUrgent_l1_p : List PE := [.val 0 (.slice 63 (tyCandidate)) (.u false), .val 3 (.slice 3 (.int .i64)) (.u true), .val 4 (.int .i64) (.u false), .val 5 (.int .i64) (.u false)]
def spec_MostUrgent_l1_fuel (l0_1 : List TCandidate) (out3 : List Int) (best4 : Int) (i5 : Int) : Nat := ((l0_1.length : Int) - i5).toNat + 1
noncomputable def spec_MostUrgent_l1 : Nat → List TCandidate → List Int → Int → Int → Option (List Int × Unit)
  | 0, _, _, _, _ => none
  | N + 1, l0_1, out3, best4, i5 =>
    Option.bind (bif (decide (i5 < (l0_1.length : Int))) then (spec_AreCandidates l0_1) else some (false, ())) fun t13 =>
    bif (decide (i5 < (l0_1.length : Int))) && t13.1 then
      guardP (0 ≤ i5 ∧ i5 < l0_1.length) <|
      bif decide ((l0_1.getD i5.toNat zCandidate).2.1.1 < best4) then
        guardP (0 ≤ i5 ∧ i5 < l0_1.length) <|
        spec_MostUrgent_j2 (fun v => spec_MostUrgent_l1 N v.1 v.2.1 v.2.2.1 v.2.2.2.1) l0_1 ([] : List Int) (l0_1.getD i5.toNat zCandidate).2.1.1 i5
      else
        spec_MostUrgent_j2 (fun v => spec_MostUrgent_l1 N v.1 v.2.1 v.2.2.1 v.2.2.2.1) l0_1 out3 best4 i5
    else
      some (out3, ())
noncomputable def spec_MostUrgent (l0 : List TCandidate) : Option (List Int × Unit) :=
  spec_MostUrgent_l1 (spec_MostUrgent_l1_fuel l0 ([] : List Int) (8 : Int) (0 : Int)) l0 ([] : List Int) (8 : Int) (0 : Int)
@[reducible] def spec_l14After_l1_p : List PE := [.val 0 (.slice 3 (.int .i64)) (.u false), .val 1 (.int .i64) (.u false), .val 5 (.int .i64) (.u false)]
def spec_l14After_l1_fuel (l0_1 : List Int) (last1_1 : Int) (i5 : Int) : Nat := ((l0_1.length : Int) - i5).toNat + 1
noncomputable def spec_l14After_l1 : Nat → List Int → Int → Int → Option (Int × Unit)
  | 0, _, _, _ => none
  | N + 1, l0_1, last1_1, i5 =>
    bif decide (i5 < (l0_1.length : Int)) then
      guardP (0 ≤ i5 ∧ i5 < l0_1.length) <|
      bif decide ((l0_1.getD i5.toNat (0 : Int)) > last1_1) then
        guardP (0 ≤ i5 ∧ i5 < l0_1.length) <|
        some (l0_1.getD i5.toNat (0 : Int), ())
      else
        spec_l14After_l1 N l0_1 last1_1 (IntKind.i64.wrap (i5 + (1 : Int)))
    else
      bif (l0_1.length : Int) == (0 : Int) then
        some ((-1 : Int), ())
      else
        guardP (0 ≤ (0 : Int) ∧ (0 : Int) < l0_1.length) <|
        some (l0_1.getD (0 : Int).toNat (0 : Int), ())
noncomputable def spec_l14After (l0 : List Int) (last1 : Int) : Option (Int × Unit) :=
  spec_l14After_l1 (spec_l14After_l1_fuel l0 last1 (0 : Int)) l0 last1 (0 : Int)
@[reducible] def spec_NextStream_j1_p : List PE := [.val 0 (.slice 63 (tyCandidate)) (.u false), .val 1 (.int .i64) (.u false), .val 5 (.slice 3 (.int .i64)) (.u true), .val 6 (.slice 3 (.int .i64)) (.u true), .val 7 (.int .i64) (.u false), .val 8 (.int .i64) (.u false)]
noncomputable def spec_NextStream_j1 (K1 : (List TCandidate × Int × List Int × List Int × Int × Unit) → Option (Int × Unit)) (K2 : (List TCandidate × Int × List Int × List Int × Int × Int × Unit) → Option (Int × Unit)) (l0_3 : List TCandidate) (last1_3 : Int) (m5_2 : List Int) (some6_2 : List Int) (i7_2 : Int) (k8_1 : Int) : Option (Int × Unit) :=
  K2 (l0_3, last1_3, m5_2, some6_2, i7_2, IntKind.i64.wrap (k8_1 + (1 : Int)), ())
@[reducible] def spec_NextStream_l2_p : List PE := [.val 0 (.slice 63 (tyCandidate)) (.u false), .val 1 (.int .i64) (.u false), .val 5 (.slice 3 (.int .i64)) (.u true), .val 6 (.slice 3 (.int .i64)) (.u true), .val 7 (.int .i64) (.u false), .val 8 (.int .i64) (.u false)]
def spec_NextStream_l2_fuel (l0_2 : List TCandidate) (last1_2 : Int) (m5_1 : List Int) (some6_1 : List Int) (i7_1 : Int) (k8 : Int) : Nat := ((m5_1.length : Int) - k8).toNat + 1
noncomputable def spec_NextStream_l2 (K1 : (List TCandidate × Int × List Int × List Int × Int × Unit) → Option (Int × Unit)) : Nat → List TCandidate → Int → List Int → List Int → Int → Int → Option (Int × Unit)
  | 0, _, _, _, _, _, _ => none
  | N + 1, l0_2, last1_2, m5_1, some6_1, i7_1, k8 =>
    bif decide (k8 < (m5_1.length : Int)) then
      guardP (0 ≤ k8 ∧ k8 < m5_1.length) <|
      guardP (0 ≤ i7_1 ∧ i7_1 < l0_2.length) <|
      let t33 : Bool := (m5_1.getD k8.toNat (0 : Int)) == (l0_2.getD i7_1.toNat zCandidate).1
      guardP ((t33 = true → (0 ≤ i7_1 ∧ i7_1 < l0_2.length))) <|
      bif t33 && (!(l0_2.getD i7_1.toNat zCandidate).2.1.2.1) then
        guardP (0 ≤ i7_1 ∧ i7_1 < l0_2.length) <|
        some ((l0_2.getD i7_1.toNat zCandidate).1, ())
      else
        guardP (0 ≤ k8 ∧ k8 < m5_1.length) <|
        guardP (0 ≤ i7_1 ∧ i7_1 < l0_2.length) <|
        bif (m5_1.getD k8.toNat (0 : Int)) == (l0_2.getD i7_1.toNat zCandidate).1 then
          guardP (0 ≤ i7_1 ∧ i7_1 < l0_2.length) <|
          guardP (some6_1.length + ([(l0_2.getD i7_1.toNat zCandidate).1]).length ≤ capN) <|
          spec_NextStream_j1 K1 (fun v => spec_NextStream_l2 K1 N v.1 v.2.1 v.2.2.1 v.2.2.2.1 v.2.2.2.2.1 v.2.2.2.2.2.1) l0_2 last1_2 m5_1 (some6_1 ++ ([(l0_2.getD i7_1.toNat zCandidate).1])) i7_1 k8
        else
          spec_NextStream_j1 K1 (fun v => spec_NextStream_l2 K1 N v.1 v.2.1 v.2.2.1 v.2.2.2.1 v.2.2.2.2.1 v.2.2.2.2.2.1) l0_2 last1_2 m5_1 some6_1 i7_1 k8
    else
      K1 (l0_2, last1_2, m5_1, some6_1, IntKind.i64.wrap (i7_1 + (1 : Int)), ())
@[reducible] def spec_NextStream_l1_p : List PE := [.val 0 (.slice 63 (tyCandidate)) (.u false), .val 1 (.int .i64) (.u false), .val 5 (.slice 3 (.int .i64)) (.u true), .val 6 (.slice 3 (.int .i64)) (.u true), .val 7 (.int .i64) (.u false)]
def spec_NextStream_l1_fuel (l0_1 : List TCandidate) (last1_1 : Int) (m5 : List Int) (some6 : List Int) (i7 : Int) : Nat := ((l0_1.length : Int) - i7).toNat + 1
noncomputable def spec_NextStream_l1 : Nat → List TCandidate → Int → List Int → List Int → Int → Option (Int × Unit)
  | 0, _, _, _, _, _ => none
  | N + 1, l0_1, last1_1, m5, some6, i7 =>
    bif decide (i7 < (l0_1.length : Int)) then
      spec_NextStream_l2 (fun v => spec_NextStream_l1 N v.1 v.2.1 v.2.2.1 v.2.2.2.1 v.2.2.2.2.1) (spec_NextStream_l2_fuel l0_1 last1_1 m5 some6 i7 (0 : Int)) l0_1 last1_1 m5 some6 i7 (0 : Int)
    else
      Option.bind (spec_l14After some6 last1_1) fun t68 =>
      some (t68.1, ())
noncomputable def spec_NextStream (l0 : List TCandidate) (last1 : Int) : Option (Int × Unit) :=
  Option.bind (spec_MostUrgent l0) fun t10 =>
  spec_NextStream_l1 (spec_NextStream_l1_fuel l0 last1 t10.1 ([] : List Int) (0 : Int)) l0 last1 t10.1 ([] : List Int) (0 : Int)
@[reducible] def laws_sameInts_l1_p : List PE := [.val 0 (.slice 3 (.int .i64)) (.u false), .val 1 (.slice 3 (.int .i64)) (.u false), .val 5 (.int .i64) (.u false)]
def laws_sameInts_l1_fuel (a0_1 : List Int) (b1_1 : List Int) (i5 : Int) : Nat := ((a0_1.length : Int) - i5).toNat + 1
noncomputable def laws_sameInts_l1 : Nat → List Int → List Int → Int → Option (Bool × Unit)
  | 0, _, _, _ => none
  | N + 1, a0_1, b1_1, i5 =>
    bif decide (i5 < (a0_1.length : Int)) then
      guardP (0 ≤ i5 ∧ i5 < a0_1.length) <|
      guardP (0 ≤ i5 ∧ i5 < b1_1.length) <|
      bif (a0_1.getD i5.toNat (0 : Int)) != (b1_1.getD i5.toNat (0 : Int)) then
        some (false, ())
      else
        laws_sameInts_l1 N a0_1 b1_1 (IntKind.i64.wrap (i5 + (1 : Int)))
    else
      some (true, ())
noncomputable def laws_sameInts (a0 : List Int) (b1 : List Int) : Option (Bool × Unit) :=
  bif (a0.length : Int) != (b1.length : Int) then
    some (false, ())
  else
    laws_sameInts_l1 (laws_sameInts_l1_fuel a0 b1 (0 : Int)) a0 b1 (0 : Int)
@[reducible] def spec_PlainNext_l1_p : List PE := [.val 0 (.slice 63 (tyCandidate)) (.u false), .val 1 (.int .i64) (.u false), .val 5 (.slice 3 (.int .i64)) (.u true), .val 6 (.int .i64) (.u false)]
def spec_PlainNext_l1_fuel (l0_1 : List TCandidate) (last1_1 : Int) (ids5 : List Int) (i6 : Int) : Nat := ((l0_1.length : Int) - i6).toNat + 1
noncomputable def spec_PlainNext_l1 : Nat → List TCandidate → Int → List Int → Int → Option (Int × Unit)
  | 0, _, _, _, _ => none
  | N + 1, l0_1, last1_1, ids5, i6 =>
    Option.bind (bif (decide (i6 < (l0_1.length : Int))) then (spec_AreCandidates l0_1) else some (false, ())) fun t14 =>
    bif (decide (i6 < (l0_1.length : Int))) && t14.1 then
      guardP (0 ≤ i6 ∧ i6 < l0_1.length) <|
      guardP (ids5.length + ([(l0_1.getD i6.toNat zCandidate).1]).length ≤ capN) <|
      spec_PlainNext_l1 N l0_1 last1_1 (ids5 ++ ([(l0_1.getD i6.toNat zCandidate).1])) (IntKind.i64.wrap (i6 + (1 : Int)))
    else
      Option.bind (spec_l14After ids5 last1_1) fun t28 =>
      some (t28.1, ())
noncomputable def spec_PlainNext (l0 : List TCandidate) (last1 : Int) : Option (Int × Unit) :=
  spec_PlainNext_l1 (spec_PlainNext_l1_fuel l0 last1 ([] : List Int) (0 : Int)) l0 last1 ([] : List Int) (0 : Int)
@[reducible] def laws_has_l1_p : List PE := [.val 0 (.slice 3 (.int .i64)) (.u false), .val 1 (.int .i64) (.u false), .val 5 (.int .i64) (.u false)]
def laws_has_l1_fuel (l0_1 : List Int) (x1_1 : Int) (i5 : Int) : Nat := ((l0_1.length : Int) - i5).toNat + 1
noncomputable def laws_has_l1 : Nat → List Int → Int → Int → Option (Bool × Unit)
  | 0, _, _, _ => none
  | N + 1, l0_1, x1_1, i5 =>
    bif decide (i5 < (l0_1.length : Int)) then
      guardP (0 ≤ i5 ∧ i5 < l0_1.length) <|
      bif (l0_1.getD i5.toNat (0 : Int)) == x1_1 then
        some (true, ())
      else
        laws_has_l1 N l0_1 x1_1 (IntKind.i64.wrap (i5 + (1 : Int)))
    else
      some (false, ())
noncomputable def laws_has (l0 : List Int) (x1 : Int) : Option (Bool × Unit) :=
  laws_has_l1 (laws_has_l1_fuel l0 x1 (0 : Int)) l0 x1 (0 : Int)
noncomputable def spec_DrawServeOrder (code0 : List Int) : Option (List TCandidate × Int × Int × Unit) :=
  Option.bind (spec_l1New code0) fun t9 =>
  Option.bind (spec_l14List t9.1) fun t11 =>
  Option.bind (spec_l1Below t11.2.1 (12 : Int)) fun t13 =>
  Option.bind (spec_l1Below t13.2.1 (14 : Int)) fun t18 =>
  some (t11.1.1, IntKind.i64.wrap (t13.1.1 - (1 : Int)), IntKind.i64.wrap (t18.1.1 - (1 : Int)), ())
@[reducible] def impl_ServeOrder_l1_p : List PE := [.val 0 (.slice 63 (tyCandidate)) (.u false), .val 1 (.int .i64) (.u false), .val 2 (.int .i64) (.u false), .val 7 (.slice 3 (.int .i64)) (.u true)]
def impl_ServeOrder_l1_fuel (l0_1 : List TCandidate) (last1_1 : Int) (n2_1 : Int) (out7 : List Int) : Nat := ((min n2_1 (100 : Int)) - (out7.length : Int)).toNat + 1
noncomputable def impl_ServeOrder_l1 : Nat → List TCandidate → Int → Int → List Int → Option (List Int × Unit)
  | 0, _, _, _, _ => none
  | N + 1, l0_1, last1_1, n2_1, out7 =>
    bif decide ((out7.length : Int) < (min n2_1 (100 : Int))) then
      Option.bind (impl_NextStream l0_1 last1_1) fun t25 =>
      guardP (out7.length + ([t25.1]).length ≤ capN) <|
      impl_ServeOrder_l1 N l0_1 t25.1 n2_1 (out7 ++ ([t25.1]))
    else
      some (out7, ())
noncomputable def impl_ServeOrder (l0 : List TCandidate) (last1 : Int) (n2 : Int) : Option (List Int × Unit) :=
  Option.bind (bif ((l0.length : Int) == (0 : Int)) then some (false, ()) else (impl_AreCandidates l0)) fun t14 =>
  bif ((l0.length : Int) == (0 : Int)) || (!t14.1) then
    some (([] : List Int), ())
  else
    impl_ServeOrder_l1 (impl_ServeOrder_l1_fuel l0 last1 n2 ([] : List Int)) l0 last1 n2 ([] : List Int)
@[reducible] def spec_ServeOrder_l1_p : List PE := [.val 0 (.slice 63 (tyCandidate)) (.u false), .val 1 (.int .i64) (.u false), .val 2 (.int .i64) (.u false), .val 7 (.slice 3 (.int .i64)) (.u true), .val 8 (.int .i64) (.u false)]
def spec_ServeOrder_l1_fuel (l0_1 : List TCandidate) (last1_1 : Int) (n2_1 : Int) (out7 : List Int) (i8 : Int) : Nat := (n2_1 - i8).toNat + 1
noncomputable def spec_ServeOrder_l1 : Nat → List TCandidate → Int → Int → List Int → Int → Option (List Int × Unit)
  | 0, _, _, _, _, _ => none
  | N + 1, l0_1, last1_1, n2_1, out7, i8 =>
    let t21 : Bool := ((decide (i8 < n2_1)) && (decide (i8 < (100 : Int)))) && (decide ((l0_1.length : Int) > (0 : Int)))
    Option.bind (bif t21 then (spec_AreCandidates l0_1) else some (false, ())) fun t24 =>
    bif t21 && t24.1 then
      Option.bind (spec_NextStream l0_1 last1_1) fun t30 =>
      guardP (out7.length + ([t30.1]).length ≤ capN) <|
      spec_ServeOrder_l1 N l0_1 t30.1 n2_1 (out7 ++ ([t30.1])) (IntKind.i64.wrap (i8 + (1 : Int)))
    else
      some (out7, ())
noncomputable def spec_ServeOrder (l0 : List TCandidate) (last1 : Int) (n2 : Int) : Option (List Int × Unit) :=
  spec_ServeOrder_l1 (spec_ServeOrder_l1_fuel l0 last1 n2 ([] : List Int) (0 : Int)) l0 last1 n2 ([] : List Int) (0 : Int)
@[reducible] def spec_TurnsOf_j1_p : List PE := [.val 0 (.slice 3 (.int .i64)) (.u false), .val 1 (.int .i64) (.u false), .val 5 (.int .i64) (.u false), .val 6 (.int .i64) (.u false)]
noncomputable def spec_TurnsOf_j1 (K1 : (List Int × Int × Int × Int × Unit) → Option (Int × Unit)) (order0_2 : List Int) (id1_2 : Int) (n5_1 : Int) (i6_1 : Int) : Option (Int × Unit) :=
  K1 (order0_2, id1_2, n5_1, IntKind.i64.wrap (i6_1 + (1 : Int)), ())
@[reducible] def spec_TurnsOf_l1_p : List PE := [.val 0 (.slice 3 (.int .i64)) (.u false), .val 1 (.int .i64) (.u false), .val 5 (.int .i64) (.u false), .val 6 (.int .i64) (.u false)]
def spec_TurnsOf_l1_fuel (order0_1 : List Int) (id1_1 : Int) (n5 : Int) (i6 : Int) : Nat := ((order0_1.length : Int) - i6).toNat + 1
noncomputable def spec_TurnsOf_l1 : Nat → List Int → Int → Int → Int → Option (Int × Unit)
  | 0, _, _, _, _ => none
  | N + 1, order0_1, id1_1, n5, i6 =>
    bif decide (i6 < (order0_1.length : Int)) then
      guardP (0 ≤ i6 ∧ i6 < order0_1.length) <|
      bif (order0_1.getD i6.toNat (0 : Int)) == id1_1 then
        spec_TurnsOf_j1 (fun v => spec_TurnsOf_l1 N v.1 v.2.1 v.2.2.1 v.2.2.2.1) order0_1 id1_1 (IntKind.i64.wrap (n5 + (1 : Int))) i6
      else
        spec_TurnsOf_j1 (fun v => spec_TurnsOf_l1 N v.1 v.2.1 v.2.2.1 v.2.2.2.1) order0_1 id1_1 n5 i6
    else
      some (n5, ())
noncomputable def spec_TurnsOf (order0 : List Int) (id1 : Int) : Option (Int × Unit) :=
  spec_TurnsOf_l1 (spec_TurnsOf_l1_fuel order0 id1 (0 : Int) (0 : Int)) order0 id1 (0 : Int) (0 : Int)
@[reducible] def spec_SpreadOf_j1_p : List PE := [.val 0 (.slice 3 (.int .i64)) (.u false), .val 1 (.slice 3 (.int .i64)) (.u false), .val 5 (.int .i64) (.u false), .val 6 (.int .i64) (.u false), .val 7 (.int .i64) (.u false), .val 8 (.int .i64) (.u false)]
noncomputable def spec_SpreadOf_j1 (K1 : (List Int × List Int × Int × Int × Int × Unit) → Option (Int × Unit)) (order0_2 : List Int) (ids1_2 : List Int) (low5_1 : Int) (high6_1 : Int) (i7_1 : Int) (n8 : Int) : Option (Int × Unit) :=
  K1 (order0_2, ids1_2, low5_1, max high6_1 n8, IntKind.i64.wrap (i7_1 + (1 : Int)), ())
@[reducible] def spec_SpreadOf_l1_p : List PE := [.val 0 (.slice 3 (.int .i64)) (.u false), .val 1 (.slice 3 (.int .i64)) (.u false), .val 5 (.int .i64) (.u false), .val 6 (.int .i64) (.u false), .val 7 (.int .i64) (.u false)]
def spec_SpreadOf_l1_fuel (order0_1 : List Int) (ids1_1 : List Int) (low5 : Int) (high6 : Int) (i7 : Int) : Nat := ((ids1_1.length : Int) - i7).toNat + 1
noncomputable def spec_SpreadOf_l1 : Nat → List Int → List Int → Int → Int → Int → Option (Int × Unit)
  | 0, _, _, _, _, _ => none
  | N + 1, order0_1, ids1_1, low5, high6, i7 =>
    bif decide (i7 < (ids1_1.length : Int)) then
      guardP (0 ≤ i7 ∧ i7 < ids1_1.length) <|
      Option.bind (spec_TurnsOf order0_1 (ids1_1.getD i7.toNat (0 : Int))) fun t20 =>
      bif (i7 == (0 : Int)) || (decide (t20.1 < low5)) then
        spec_SpreadOf_j1 (fun v => spec_SpreadOf_l1 N v.1 v.2.1 v.2.2.1 v.2.2.2.1 v.2.2.2.2.1) order0_1 ids1_1 t20.1 high6 i7 t20.1
      else
        spec_SpreadOf_j1 (fun v => spec_SpreadOf_l1 N v.1 v.2.1 v.2.2.1 v.2.2.2.1 v.2.2.2.2.1) order0_1 ids1_1 low5 high6 i7 t20.1
    else
      some (IntKind.i64.wrap (high6 - low5), ())
noncomputable def spec_SpreadOf (order0 : List Int) (ids1 : List Int) : Option (Int × Unit) :=
  spec_SpreadOf_l1 (spec_SpreadOf_l1_fuel order0 ids1 (0 : Int) (0 : Int) (0 : Int)) order0 ids1 (0 : Int) (0 : Int) (0 : Int)
noncomputable def spec_DrawTurnsOf (code0 : List Int) : Option (List Int × Int × Unit) :=
  Option.bind (spec_DrawServeOrder code0) fun t9 =>
  Option.bind (spec_ServeOrder t9.1 t9.2.1 t9.2.2.1) fun t16 =>
  guardP ((9 : Int) ≠ 0) <|
  some (t16.1, Int.tmod (code0.length : Int) (9 : Int), ())
noncomputable def impl_one (holds0 : Bool) : Option (Int × Unit) :=
  bif holds0 then
    some ((1 : Int), ())
  else
    some ((0 : Int), ())
@[reducible] def impl_TurnsOf_l1_p : List PE := [.val 1 (.int .i64) (.u false), .val 5 (.int .i64) (.u false), .val 8 (.slice 3 (.int .i64)) (.u false), .val 9 (.int .i64) (.u false), .val 10 (.int .i64) (.u false)]
def impl_TurnsOf_l1_fuel (id1_1 : Int) (count5 : Int) (t8 : List Int) (t9_1 : Int) (t10 : Int) : Nat := (t9_1 - t10).toNat + 1
noncomputable def impl_TurnsOf_l1 : Nat → Int → Int → List Int → Int → Int → Option (Int × Unit)
  | 0, _, _, _, _, _ => none
  | N + 1, id1_1, count5, t8, t9_1, t10 =>
    bif decide (t10 < t9_1) then
      guardP (0 ≤ t10 ∧ t10 < t8.length) <|
      Option.bind (impl_one ((t8.getD t10.toNat (0 : Int)) == id1_1)) fun t18 =>
      impl_TurnsOf_l1 N id1_1 (IntKind.i64.wrap (count5 + t18.1)) t8 t9_1 (IntKind.i64.wrap (t10 + (1 : Int)))
    else
      some (count5, ())
noncomputable def impl_TurnsOf (order0 : List Int) (id1 : Int) : Option (Int × Unit) :=
  impl_TurnsOf_l1 (impl_TurnsOf_l1_fuel id1 (0 : Int) order0 (order0.length : Int) (0 : Int)) id1 (0 : Int) order0 (order0.length : Int) (0 : Int)
@[reducible] def laws_FnSchedules_j1_p : List PE := [.val 0 (.slice 5 (.int .u8)) (.u false), .val 7 (.slice 63 (tyCandidate)) (.u true), .val 10 (.slice 3 (.int .i64)) (.u true), .val 11 (.slice 3 (.int .i64)) (.u true), .val 12 (.bool) (.u false), .val 13 (.slice 3 (.int .i64)) (.u true), .val 14 (.int .i64) (.u false)]
noncomputable def laws_FnSchedules_j1 (K1 : (List Int × List TCandidate × List Int × List Int × Bool × List Int × Int × Unit) → Option (Bool × Unit)) (code0_2 : List Int) (c7_1 : List TCandidate) (order10_1 : List Int) (share11_1 : List Int) (alone12_1 : Bool) (u13_1 : List Int) (i14_1 : Int) : Option (Bool × Unit) :=
  K1 (code0_2, c7_1, order10_1, share11_1, alone12_1, u13_1, IntKind.i64.wrap (i14_1 + (1 : Int)), ())
@[reducible] def laws_FnSchedules_l1_p : List PE := [.val 0 (.slice 5 (.int .u8)) (.u false), .val 7 (.slice 63 (tyCandidate)) (.u true), .val 10 (.slice 3 (.int .i64)) (.u true), .val 11 (.slice 3 (.int .i64)) (.u true), .val 12 (.bool) (.u false), .val 13 (.slice 3 (.int .i64)) (.u true), .val 14 (.int .i64) (.u false)]
def laws_FnSchedules_l1_fuel (code0_1 : List Int) (c7 : List TCandidate) (order10 : List Int) (share11 : List Int) (alone12 : Bool) (u13 : List Int) (i14 : Int) : Nat := ((c7.length : Int) - i14).toNat + 1
noncomputable def laws_FnSchedules_l1 : Nat → List Int → List TCandidate → List Int → List Int → Bool → List Int → Int → Option (Bool × Unit)
  | 0, _, _, _, _, _, _, _ => none
  | N + 1, code0_1, c7, order10, share11, alone12, u13, i14 =>
    bif decide (i14 < (c7.length : Int)) then
      guardP (0 ≤ i14 ∧ i14 < c7.length) <|
      Option.bind (laws_has u13 (c7.getD i14.toNat zCandidate).1) fun t109 =>
      guardP ((t109.1 = true → (0 ≤ i14 ∧ i14 < c7.length))) <|
      bif t109.1 && (c7.getD i14.toNat zCandidate).2.1.2.1 then
        guardP (0 ≤ i14 ∧ i14 < c7.length) <|
        guardP (share11.length + ([(c7.getD i14.toNat zCandidate).1]).length ≤ capN) <|
        laws_FnSchedules_j1 (fun v => laws_FnSchedules_l1 N v.1 v.2.1 v.2.2.1 v.2.2.2.1 v.2.2.2.2.1 v.2.2.2.2.2.1 v.2.2.2.2.2.2.1) code0_1 c7 order10 (share11 ++ ([(c7.getD i14.toNat zCandidate).1])) alone12 u13 i14
      else
        guardP (0 ≤ i14 ∧ i14 < c7.length) <|
        Option.bind (laws_has u13 (c7.getD i14.toNat zCandidate).1) fun t132 =>
        bif t132.1 then
          laws_FnSchedules_j1 (fun v => laws_FnSchedules_l1 N v.1 v.2.1 v.2.2.1 v.2.2.2.1 v.2.2.2.2.1 v.2.2.2.2.2.1 v.2.2.2.2.2.2.1) code0_1 c7 order10 share11 true u13 i14
        else
          laws_FnSchedules_j1 (fun v => laws_FnSchedules_l1 N v.1 v.2.1 v.2.2.1 v.2.2.2.1 v.2.2.2.2.1 v.2.2.2.2.2.1 v.2.2.2.2.2.2.1) code0_1 c7 order10 share11 alone12 u13 i14
    else
      Option.bind (bif (!alone12) then (spec_SpreadOf order10 share11) else some ((0 : Int), ())) fun t138 =>
      bif (!alone12) && (decide (t138.1 > (1 : Int))) then
        some (false, ())
      else
        Option.bind (spec_DrawTurnsOf code0_1) fun t143 =>
        Option.bind (impl_TurnsOf t143.1 t143.2.1) fun t148 =>
        Option.bind (spec_TurnsOf t143.1 t143.2.1) fun t151 =>
        let t160 : Bool := (!alone12) || ((order10.length : Int) == (0 : Int))
        guardP (((t148.1 == t151.1) = true → (t160 = false → (0 ≤ (0 : Int) ∧ (0 : Int) < order10.length)))) <|
        Option.bind (bif t160 then some ((0 : Int), ()) else (bif (t148.1 == t151.1) then (impl_TurnsOf order10 (order10.getD (0 : Int).toNat (0 : Int))) else some ((0 : Int), ()))) fun t166 =>
        some ((t148.1 == t151.1) && (t160 || (t166.1 == (order10.length : Int))), ())
noncomputable def laws_FnSchedules (code0 : List Int) : Option (Bool × Unit) :=
  Option.bind (laws_big code0) fun t18 =>
  bif t18.1 then
    some (true, ())
  else
    Option.bind (spec_DrawNextStream code0) fun t21 =>
    Option.bind (impl_NextStream t21.1 t21.2.1) fun t26 =>
    Option.bind (impl_MostUrgent t21.1) fun t28 =>
    Option.bind (spec_NextStream t21.1 t21.2.1) fun t32 =>
    Option.bind (bif (t26.1 != t32.1) then some (([] : List Int), ()) else (spec_MostUrgent t21.1)) fun t37 =>
    Option.bind (bif (t26.1 != t32.1) then some (false, ()) else (laws_sameInts t28.1 t37.1)) fun t38 =>
    Option.bind (bif ((t26.1 != t32.1) || (!t38.1)) then some ((0 : Int), ()) else (impl_PlainNext t21.1 t21.2.1)) fun t44 =>
    Option.bind (bif ((t26.1 != t32.1) || (!t38.1)) then some ((0 : Int), ()) else (spec_PlainNext t21.1 t21.2.1)) fun t47 =>
    let t49 : Bool := ((t26.1 != t32.1) || (!t38.1)) || (t44.1 != t47.1)
    Option.bind (bif t49 then some (false, ()) else (impl_AreCandidates t21.1)) fun t52 =>
    Option.bind (bif t49 then some (false, ()) else (spec_AreCandidates t21.1)) fun t54 =>
    bif t49 || (!(t52.1 == t54.1)) then
      some (false, ())
    else
      Option.bind (spec_AreCandidates t21.1) fun t58 =>
      let t66 : Bool := t58.1 && (!((decide (t26.1 ≥ (0 : Int))) == (decide ((t21.1.length : Int) > (0 : Int)))))
      Option.bind (bif (decide (t26.1 ≥ (0 : Int))) then (bif t66 then some (false, ()) else (laws_has t28.1 t26.1)) else some (false, ())) fun t73 =>
      bif t66 || ((decide (t26.1 ≥ (0 : Int))) && (!t73.1)) then
        some (false, ())
      else
        Option.bind (spec_DrawServeOrder code0) fun t79 =>
        Option.bind (impl_ServeOrder t79.1 t79.2.1 t79.2.2.1) fun t86 =>
        Option.bind (spec_ServeOrder t79.1 t79.2.1 t79.2.2.1) fun t91 =>
        Option.bind (laws_sameInts t86.1 t91.1) fun t92 =>
        bif !t92.1 then
          some (false, ())
        else
          Option.bind (spec_MostUrgent t79.1) fun t96 =>
          laws_FnSchedules_l1 (laws_FnSchedules_l1_fuel code0 t79.1 t86.1 ([] : List Int) false t96.1 (0 : Int)) code0 t79.1 t86.1 ([] : List Int) false t96.1 (0 : Int)
def tab : Tab := lookT [(3, .int .i64), (4, .bool), (5, .int .u8), (24, .slice 3 (.int .i64)), (48, .slice 5 (.int .u8)), (50, .slice 63 (tyCandidate)), (61, tyPriority), (63, tyCandidate), (97, tyl1Cur), (103, .int .u64)]
theorem tok_3 : TOK Try.prog 3 (.int .i64) := ⟨by kernel_rfl, by kernel_rfl⟩
theorem tok_4 : TOK Try.prog 4 (.bool) := ⟨by kernel_rfl, by kernel_rfl⟩
theorem tok_5 : TOK Try.prog 5 (.int .u8) := ⟨by kernel_rfl, by kernel_rfl⟩
theorem tok_24 : TOK Try.prog 24 (.slice 3 (.int .i64)) := ⟨by kernel_rfl, by kernel_rfl⟩
theorem tok_48 : TOK Try.prog 48 (.slice 5 (.int .u8)) := ⟨by kernel_rfl, by kernel_rfl⟩
theorem tok_50 : TOK Try.prog 50 (.slice 63 (tyCandidate)) := ⟨by kernel_rfl, by kernel_rfl⟩
theorem tok_61 : TOK Try.prog 61 (tyPriority) := ⟨by kernel_rfl, by kernel_rfl⟩
theorem tok_63 : TOK Try.prog 63 (tyCandidate) := ⟨by kernel_rfl, by kernel_rfl⟩
theorem tok_97 : TOK Try.prog 97 (tyl1Cur) := ⟨by kernel_rfl, by kernel_rfl⟩
theorem tok_103 : TOK Try.prog 103 (.int .u64) := ⟨by kernel_rfl, by kernel_rfl⟩
theorem tab_ok : tab.ok Try.prog := (tab_cons tok_3 (tab_cons tok_4 (tab_cons tok_5 (tab_cons tok_24 (tab_cons tok_48 (tab_cons tok_50 (tab_cons tok_61 (tab_cons tok_63 (tab_cons tok_97 (tab_cons tok_103 tab_nil))))))))))
abbrev glob : Glob := Glob.none
def eqsL : List Nat := []
theorem eqs_ok : EqsL Try.prog tab eqsL := eqs_nil
@[reducible] def cfg (ln : List Nat) (Γ : Env) (ΓL : EnvL) (ΓB : EnvB) : Cfg := { τ := tab, eq := fun e => eqsL.any (Nat.beq e), Γ := Γ, ΓL := ΓL, ΓB := ΓB, lent := ln }
theorem cfg_ok {ln : List Nat} {Γ : Env} {ΓL : EnvL} {ΓB : EnvB} (h : Γ.ok Try.prog glob) (hL : ΓL.ok Try.prog glob) (hB : ΓB.ok Try.prog glob) : (cfg ln Γ ΓL ΓB).ok Try.prog glob := ⟨tab_ok, eqs_ok, h, by kernel_rfl, hL, hB⟩
@[reducible] noncomputable def e_laws_big : FnE := { f := 32, args := [.slice 5 (.int .u8)], res := [.bool], F := fun xs => laws_big xs.1 }
theorem ok_laws_big : FnOK Try.prog glob e_laws_big := by
  refine FnOK.of (e := e_laws_big) (C := cfg [] [] [] []) (cfg_ok env_nil envL_nil envB_nil) Try.func32 (c := codeOf Try.f32) rfl Try.call32 (by decide)
    (.leaf) ?_ ?_
  · exact conds_leaf _ _
  · intro xs r h
    refine Eq.trans (Eq.symm ?_) h
    kernel_rfl
@[reducible] noncomputable def e_spec_l1New : FnB := { f := 68, args := [.sh (.slice 5 (.int .u8))], res := .newb 97 (tyl1Cur), F := fun xs => spec_l1New xs.1 }
theorem ok_spec_l1New : FnBOK Try.prog glob e_spec_l1New := by
  refine FnBOK.of (e := e_spec_l1New) (C := cfg [] [] [] []) (cfg_ok env_nil envL_nil envB_nil) rfl Try.func68 (c := codeOf Try.f68) rfl Try.call68 (by decide)
    ((.seq .leaf (.seq .leaf (.seq (.seq .leaf (.block (.loop spec_l1New_l1_p (fun N v => spec_l1New_l1 N v.1 v.2.1 v.2.2.1) (fun v => spec_l1New_l1_fuel v.1 v.2.1 v.2.2.1) (fun K1 => .leaf)))) .leaf)))) ?_ ?_
  · exact ⟨conds_leaf _ _, ⟨conds_leaf _ _, ⟨⟨conds_leaf _ _, ⟨fun _ => rfl, fun N => ⟨(fun v => by kernel_rfl), conds_leaf _ _⟩⟩⟩, conds_leaf _ _⟩⟩⟩
  · intro xs r h
    refine Eq.trans (Eq.symm ?_) h
    kernel_rfl
@[reducible] noncomputable def e_spec_l1Byte : FnB := { f := 84, args := [.bx 97 (tyl1Cur) false], res := .vals [.int .i64], F := fun xs => spec_l1Byte xs.1 }
theorem ok_spec_l1Byte : FnBOK Try.prog glob e_spec_l1Byte := by
  refine FnBOK.of (e := e_spec_l1Byte) (C := cfg [0] [] [] []) (cfg_ok env_nil envL_nil envB_nil) rfl Try.func84 (c := codeOf Try.f84) rfl Try.call84 (by decide)
    (.leaf) ?_ ?_
  · exact conds_leaf _ _
  · intro xs r h
    refine Eq.trans (Eq.symm ?_) h
    kernel_rfl
@[reducible] noncomputable def e_spec_l1Below : FnB := { f := 70, args := [.bx 97 (tyl1Cur) false, .sh (.int .i64)], res := .vals [.int .i64], F := fun xs => spec_l1Below xs.1 xs.2.1 }
theorem ok_spec_l1Below : FnBOK Try.prog glob e_spec_l1Below := by
  refine FnBOK.of (e := e_spec_l1Below) (C := cfg [0] [] [] [e_spec_l1Byte]) (cfg_ok env_nil envL_nil (envB_cons ok_spec_l1Byte envB_nil)) rfl Try.func70 (c := codeOf Try.f70) rfl Try.call70 (by decide)
    (.leaf) ?_ ?_
  · exact conds_leaf _ _
  · intro xs r h
    refine Eq.trans (Eq.symm ?_) h
    kernel_rfl
@[reducible] noncomputable def e_spec_l1PickInt : FnB := { f := 89, args := [.bx 97 (tyl1Cur) false, .sh (.slice 3 (.int .i64))], res := .vals [.int .i64], F := fun xs => spec_l1PickInt xs.1 xs.2.1 }
theorem ok_spec_l1PickInt : FnBOK Try.prog glob e_spec_l1PickInt := by
  refine FnBOK.of (e := e_spec_l1PickInt) (C := cfg [0] [] [] [e_spec_l1Below]) (cfg_ok env_nil envL_nil (envB_cons ok_spec_l1Below envB_nil)) rfl Try.func89 (c := codeOf Try.f89) rfl Try.call89 (by decide)
    (.leaf) ?_ ?_
  · exact conds_leaf _ _
  · intro xs r h
    refine Eq.trans (Eq.symm ?_) h
    kernel_rfl
@[reducible] noncomputable def e_spec_l1Once : FnB := { f := 82, args := [.bx 97 (tyl1Cur) false, .sh (.int .i64)], res := .vals [.bool], F := fun xs => spec_l1Once xs.1 xs.2.1 }
theorem ok_spec_l1Once : FnBOK Try.prog glob e_spec_l1Once := by
  refine FnBOK.of (e := e_spec_l1Once) (C := cfg [0] [] [] [e_spec_l1Below]) (cfg_ok env_nil envL_nil (envB_cons ok_spec_l1Below envB_nil)) rfl Try.func82 (c := codeOf Try.f82) rfl Try.call82 (by decide)
    (.leaf) ?_ ?_
  · exact conds_leaf _ _
  · intro xs r h
    refine Eq.trans (Eq.symm ?_) h
    kernel_rfl
@[reducible] noncomputable def e_spec_l13Priority : FnB := { f := 81, args := [.bx 97 (tyl1Cur) false], res := .vals [tyPriority], F := fun xs => spec_l13Priority xs.1 }
theorem ok_spec_l13Priority : FnBOK Try.prog glob e_spec_l13Priority := by
  refine FnBOK.of (e := e_spec_l13Priority) (C := cfg [0] [] [] [e_spec_l1PickInt, e_spec_l1Once]) (cfg_ok env_nil envL_nil (envB_cons ok_spec_l1PickInt (envB_cons ok_spec_l1Once envB_nil))) rfl Try.func81 (c := codeOf Try.f81) rfl Try.call81 (by decide)
    (.leaf) ?_ ?_
  · exact conds_leaf _ _
  · intro xs r h
    refine Eq.trans (Eq.symm ?_) h
    kernel_rfl
@[reducible] noncomputable def e_spec_l13Any : FnB := { f := 83, args := [.bx 97 (tyl1Cur) false], res := .vals [tyPriority], F := fun xs => spec_l13Any xs.1 }
theorem ok_spec_l13Any : FnBOK Try.prog glob e_spec_l13Any := by
  refine FnBOK.of (e := e_spec_l13Any) (C := cfg [0] [] [] [e_spec_l13Priority, e_spec_l1Once, e_spec_l1PickInt]) (cfg_ok env_nil envL_nil (envB_cons ok_spec_l13Priority (envB_cons ok_spec_l1Once (envB_cons ok_spec_l1PickInt envB_nil)))) rfl Try.func83 (c := codeOf Try.f83) rfl Try.call83 (by decide)
    (.leaf) ?_ ?_
  · exact conds_leaf _ _
  · intro xs r h
    refine Eq.trans (Eq.symm ?_) h
    kernel_rfl
@[reducible] noncomputable def e_spec_l14List : FnB := { f := 69, args := [.bx 97 (tyl1Cur) false], res := .vals [.slice 63 (tyCandidate)], F := fun xs => spec_l14List xs.1 }
theorem ok_spec_l14List : FnBOK Try.prog glob e_spec_l14List := by
  refine FnBOK.of (e := e_spec_l14List) (C := cfg [0] [] [] [e_spec_l1Below, e_spec_l13Priority, e_spec_l1Once, e_spec_l13Any]) (cfg_ok env_nil envL_nil (envB_cons ok_spec_l1Below (envB_cons ok_spec_l13Priority (envB_cons ok_spec_l1Once (envB_cons ok_spec_l13Any envB_nil))))) rfl Try.func69 (c := codeOf Try.f69) rfl Try.call69 (by decide)
    ((.seq .leaf (.seq .leaf (.seq .leaf (.seq (.seq .leaf (.block (.loop spec_l14List_l1_p (fun N v => spec_l14List_l1 N v.1 v.2.1 v.2.2.1 v.2.2.2.1) (fun v => spec_l14List_l1_fuel v.1 v.2.1 v.2.2.1 v.2.2.2.1) (fun K1 => .leaf)))) .leaf))))) ?_ ?_
  · exact ⟨conds_leaf _ _, ⟨conds_leaf _ _, ⟨conds_leaf _ _, ⟨⟨conds_leaf _ _, ⟨fun _ => rfl, fun N => ⟨(fun v => by kernel_rfl), conds_leaf _ _⟩⟩⟩, conds_leaf _ _⟩⟩⟩⟩
  · intro xs r h
    refine Eq.trans (Eq.symm ?_) h
    kernel_rfl
@[reducible] noncomputable def e_spec_DrawPlainNext : FnE := { f := 61, args := [.slice 5 (.int .u8)], res := [.slice 63 (tyCandidate), .int .i64], F := fun xs => spec_DrawPlainNext xs.1 }
theorem ok_spec_DrawPlainNext : FnOK Try.prog glob e_spec_DrawPlainNext := by
  refine FnOK.of (e := e_spec_DrawPlainNext) (C := cfg [] [] [] [e_spec_l1New, e_spec_l14List, e_spec_l1Below]) (cfg_ok env_nil envL_nil (envB_cons ok_spec_l1New (envB_cons ok_spec_l14List (envB_cons ok_spec_l1Below envB_nil)))) Try.func61 (c := codeOf Try.f61) rfl Try.call61 (by decide)
    (.leaf) ?_ ?_
  · exact conds_leaf _ _
  · intro xs r h
    refine Eq.trans (Eq.symm ?_) h
    kernel_rfl
@[reducible] noncomputable def e_spec_DrawNextStream : FnE := { f := 33, args := [.slice 5 (.int .u8)], res := [.slice 63 (tyCandidate), .int .i64], F := fun xs => spec_DrawNextStream xs.1 }
theorem ok_spec_DrawNextStream : FnOK Try.prog glob e_spec_DrawNextStream := by
  refine FnOK.of (e := e_spec_DrawNextStream) (C := cfg [] [e_spec_DrawPlainNext] [] []) (cfg_ok (env_cons ok_spec_DrawPlainNext env_nil) envL_nil envB_nil) Try.func33 (c := codeOf Try.f33) rfl Try.call33 (by decide)
    (.leaf) ?_ ?_
  · exact conds_leaf _ _
  · intro xs r h
    refine Eq.trans (Eq.symm ?_) h
    kernel_rfl
@[reducible] noncomputable def e_impl_within : FnE := { f := 79, args := [.int .i64, .int .i64, .int .i64], res := [.bool], F := fun xs => impl_within xs.1 xs.2.1 xs.2.2.1 }
theorem ok_impl_within : FnOK Try.prog glob e_impl_within := by
  refine FnOK.of (e := e_impl_within) (C := cfg [] [] [] []) (cfg_ok env_nil envL_nil envB_nil) Try.func79 (c := codeOf Try.f79) rfl Try.call79 (by decide)
    (.leaf) ?_ ?_
  · exact conds_leaf _ _
  · intro xs r h
    refine Eq.trans (Eq.symm ?_) h
    kernel_rfl
@[reducible] noncomputable def e_impl_isQuic : FnE := { f := 64, args := [.int .i64], res := [.bool], F := fun xs => impl_isQuic xs.1 }
theorem ok_impl_isQuic : FnOK Try.prog glob e_impl_isQuic := by
  refine FnOK.of (e := e_impl_isQuic) (C := cfg [] [e_impl_within] [] []) (cfg_ok (env_cons ok_impl_within env_nil) envL_nil envB_nil) Try.func64 (c := codeOf Try.f64) rfl Try.call64 (by decide)
    (.leaf) ?_ ?_
  · exact conds_leaf _ _
  · intro xs r h
    refine Eq.trans (Eq.symm ?_) h
    kernel_rfl
@[reducible] noncomputable def e_impl_IsPriority : FnE := { f := 65, args := [tyPriority], res := [.bool], F := fun xs => impl_IsPriority xs.1 }
theorem ok_impl_IsPriority : FnOK Try.prog glob e_impl_IsPriority := by
  refine FnOK.of (e := e_impl_IsPriority) (C := cfg [] [e_impl_within] [] []) (cfg_ok (env_cons ok_impl_within env_nil) envL_nil envB_nil) Try.func65 (c := codeOf Try.f65) rfl Try.call65 (by decide)
    (.leaf) ?_ ?_
  · exact conds_leaf _ _
  · intro xs r h
    refine Eq.trans (Eq.symm ?_) h
    kernel_rfl
@[reducible] noncomputable def e_impl_AreCandidates : FnE := { f := 41, args := [.slice 63 (tyCandidate)], res := [.bool], F := fun xs => impl_AreCandidates xs.1 }
theorem ok_impl_AreCandidates : FnOK Try.prog glob e_impl_AreCandidates := by
  refine FnOK.of (e := e_impl_AreCandidates) (C := cfg [] [e_impl_isQuic, e_impl_IsPriority] [] []) (cfg_ok (env_cons ok_impl_isQuic (env_cons ok_impl_IsPriority env_nil)) envL_nil envB_nil) Try.func41 (c := codeOf Try.f41) rfl Try.call41 (by decide)
    ((.seq .leaf (.seq (.seq .leaf (.block (.loop impl_AreCandidates_l1_p (fun N v => impl_AreCandidates_l1 N v.1 v.2.1 v.2.2.1 v.2.2.2.1) (fun v => impl_AreCandidates_l1_fuel v.1 v.2.1 v.2.2.1 v.2.2.2.1) (fun K1 => .leaf)))) .leaf))) ?_ ?_
  · exact ⟨conds_leaf _ _, ⟨⟨conds_leaf _ _, ⟨fun _ => rfl, fun N => ⟨(fun v => by kernel_rfl), conds_leaf _ _⟩⟩⟩, conds_leaf _ _⟩⟩
  · intro xs r h
    refine Eq.trans (Eq.symm ?_) h
    kernel_rfl
@[reducible] noncomputable def e_impl_urgent : FnE := { f := 62, args := [.slice 63 (tyCandidate)], res := [.slice 63 (tyCandidate)], F := fun xs => impl_urgent xs.1 }
theorem ok_impl_urgent : FnOK Try.prog glob e_impl_urgent := by
  refine FnOK.of (e := e_impl_urgent) (C := cfg [] [] [] []) (cfg_ok env_nil envL_nil envB_nil) Try.func62 (c := codeOf Try.f62) rfl Try.call62 (by decide)
    ((.seq .leaf (.seq .leaf (.seq (.seq .leaf (.block (.loop impl_urgent_l1_p (fun N v => impl_urgent_l1 N v.1 v.2.1 v.2.2.1 v.2.2.2.1 v.2.2.2.2.1 v.2.2.2.2.2.1) (fun v => impl_urgent_l1_fuel v.1 v.2.1 v.2.2.1 v.2.2.2.1 v.2.2.2.2.1 v.2.2.2.2.2.1) (fun K1 => .leaf)))) (.seq (.seq .leaf (.block (.loop impl_urgent_l2_p (fun N v => impl_urgent_l2 N v.1 v.2.1 v.2.2.1 v.2.2.2.1 v.2.2.2.2.1) (fun v => impl_urgent_l2_fuel v.1 v.2.1 v.2.2.1 v.2.2.2.1 v.2.2.2.2.1) (fun K2 => .leaf)))) .leaf))))) ?_ ?_
  · exact ⟨conds_leaf _ _, ⟨conds_leaf _ _, ⟨⟨conds_leaf _ _, ⟨fun _ => rfl, fun N => ⟨(fun v => by kernel_rfl), conds_leaf _ _⟩⟩⟩, ⟨⟨conds_leaf _ _, ⟨fun _ => rfl, fun N => ⟨(fun v => by kernel_rfl), conds_leaf _ _⟩⟩⟩, conds_leaf _ _⟩⟩⟩⟩
  · intro xs r h
    refine Eq.trans (Eq.symm ?_) h
    kernel_rfl
@[reducible] noncomputable def e_impl_PlainNext : FnE := { f := 39, args := [.slice 63 (tyCandidate), .int .i64], res := [.int .i64], F := fun xs => impl_PlainNext xs.1 xs.2.1 }
theorem ok_impl_PlainNext : FnOK Try.prog glob e_impl_PlainNext := by
  refine FnOK.of (e := e_impl_PlainNext) (C := cfg [] [e_impl_AreCandidates] [] []) (cfg_ok (env_cons ok_impl_AreCandidates env_nil) envL_nil envB_nil) Try.func39 (c := codeOf Try.f39) rfl Try.call39 (by decide)
    ((.seq .leaf (.seq .leaf (.seq (.seq .leaf (.block (.loop impl_PlainNext_l1_p (fun N v => impl_PlainNext_l1 N v.1 v.2.1 v.2.2.1 v.2.2.2.1 v.2.2.2.2.1) (fun v => impl_PlainNext_l1_fuel v.1 v.2.1 v.2.2.1 v.2.2.2.1 v.2.2.2.2.1) (fun K1 => .leaf)))) .leaf)))) ?_ ?_
  · exact ⟨conds_leaf _ _, ⟨conds_leaf _ _, ⟨⟨conds_leaf _ _, ⟨fun _ => rfl, fun N => ⟨(fun v => by kernel_rfl), conds_leaf _ _⟩⟩⟩, conds_leaf _ _⟩⟩⟩
  · intro xs r h
    refine Eq.trans (Eq.symm ?_) h
    kernel_rfl
@[reducible] noncomputable def e_impl_NextStream : FnE := { f := 34, args := [.slice 63 (tyCandidate), .int .i64], res := [.int .i64], F := fun xs => impl_NextStream xs.1 xs.2.1 }
theorem ok_impl_NextStream : FnOK Try.prog glob e_impl_NextStream := by
  refine FnOK.of (e := e_impl_NextStream) (C := cfg [] [e_impl_AreCandidates, e_impl_urgent, e_impl_PlainNext] [] []) (cfg_ok (env_cons ok_impl_AreCandidates (env_cons ok_impl_urgent (env_cons ok_impl_PlainNext env_nil))) envL_nil envB_nil) Try.func34 (c := codeOf Try.f34) rfl Try.call34 (by decide)
    ((.seq .leaf (.seq .leaf (.seq .leaf (.seq (.seq .leaf (.block (.loop impl_NextStream_l1_p (fun N v => impl_NextStream_l1 N v.1 v.2.1 v.2.2.1 v.2.2.2.1) (fun v => impl_NextStream_l1_fuel v.1 v.2.1 v.2.2.1 v.2.2.2.1) (fun K1 => .leaf)))) .leaf))))) ?_ ?_
  · exact ⟨conds_leaf _ _, ⟨conds_leaf _ _, ⟨conds_leaf _ _, ⟨⟨conds_leaf _ _, ⟨fun _ => rfl, fun N => ⟨(fun v => by kernel_rfl), conds_leaf _ _⟩⟩⟩, conds_leaf _ _⟩⟩⟩⟩
  · intro xs r h
    refine Eq.trans (Eq.symm ?_) h
    kernel_rfl
@[reducible] noncomputable def e_impl_MostUrgent : FnE := { f := 35, args := [.slice 63 (tyCandidate)], res := [.slice 3 (.int .i64)], F := fun xs => impl_MostUrgent xs.1 }
theorem ok_impl_MostUrgent : FnOK Try.prog glob e_impl_MostUrgent := by
  refine FnOK.of (e := e_impl_MostUrgent) (C := cfg [] [e_impl_AreCandidates, e_impl_urgent] [] []) (cfg_ok (env_cons ok_impl_AreCandidates (env_cons ok_impl_urgent env_nil)) envL_nil envB_nil) Try.func35 (c := codeOf Try.f35) rfl Try.call35 (by decide)
    ((.seq .leaf (.seq .leaf (.seq .leaf (.seq (.seq .leaf (.block (.loop impl_MostUrgent_l1_p (fun N v => impl_MostUrgent_l1 N v.1 v.2.1 v.2.2.1 v.2.2.2.1) (fun v => impl_MostUrgent_l1_fuel v.1 v.2.1 v.2.2.1 v.2.2.2.1) (fun K1 => .leaf)))) .leaf))))) ?_ ?_
  · exact ⟨conds_leaf _ _, ⟨conds_leaf _ _, ⟨conds_leaf _ _, ⟨⟨conds_leaf _ _, ⟨fun _ => rfl, fun N => ⟨(fun v => by kernel_rfl), conds_leaf _ _⟩⟩⟩, conds_leaf _ _⟩⟩⟩⟩
  · intro xs r h
    refine Eq.trans (Eq.symm ?_) h
    kernel_rfl
@[reducible] noncomputable def e_spec_l1In : FnE := { f := 80, args := [.int .i64, .int .i64, .int .i64], res := [.bool], F := fun xs => spec_l1In xs.1 xs.2.1 xs.2.2.1 }
theorem ok_spec_l1In : FnOK Try.prog glob e_spec_l1In := by
  refine FnOK.of (e := e_spec_l1In) (C := cfg [] [] [] []) (cfg_ok env_nil envL_nil envB_nil) Try.func80 (c := codeOf Try.f80) rfl Try.call80 (by decide)
    (.leaf) ?_ ?_
  · exact conds_leaf _ _
  · intro xs r h
    refine Eq.trans (Eq.symm ?_) h
    kernel_rfl
@[reducible] noncomputable def e_spec_l4Quic : FnE := { f := 66, args := [.int .i64], res := [.bool], F := fun xs => spec_l4Quic xs.1 }
theorem ok_spec_l4Quic : FnOK Try.prog glob e_spec_l4Quic := by
  refine FnOK.of (e := e_spec_l4Quic) (C := cfg [] [e_spec_l1In] [] []) (cfg_ok (env_cons ok_spec_l1In env_nil) envL_nil envB_nil) Try.func66 (c := codeOf Try.f66) rfl Try.call66 (by decide)
    (.leaf) ?_ ?_
  · exact conds_leaf _ _
  · intro xs r h
    refine Eq.trans (Eq.symm ?_) h
    kernel_rfl
@[reducible] noncomputable def e_spec_IsPriority : FnE := { f := 67, args := [tyPriority], res := [.bool], F := fun xs => spec_IsPriority xs.1 }
theorem ok_spec_IsPriority : FnOK Try.prog glob e_spec_IsPriority := by
  refine FnOK.of (e := e_spec_IsPriority) (C := cfg [] [e_spec_l1In] [] []) (cfg_ok (env_cons ok_spec_l1In env_nil) envL_nil envB_nil) Try.func67 (c := codeOf Try.f67) rfl Try.call67 (by decide)
    (.leaf) ?_ ?_
  · exact conds_leaf _ _
  · intro xs r h
    refine Eq.trans (Eq.symm ?_) h
    kernel_rfl
@[reducible] noncomputable def e_spec_AreCandidates : FnE := { f := 42, args := [.slice 63 (tyCandidate)], res := [.bool], F := fun xs => spec_AreCandidates xs.1 }
theorem ok_spec_AreCandidates : FnOK Try.prog glob e_spec_AreCandidates := by
  refine FnOK.of (e := e_spec_AreCandidates) (C := cfg [] [e_spec_l4Quic, e_spec_IsPriority] [] []) (cfg_ok (env_cons ok_spec_l4Quic (env_cons ok_spec_IsPriority env_nil)) envL_nil envB_nil) Try.func42 (c := codeOf Try.f42) rfl Try.call42 (by decide)
    ((.seq .leaf (.seq (.seq .leaf (.block (.loop spec_AreCandidates_l1_p (fun N v => spec_AreCandidates_l1 N v.1 v.2.1) (fun v => spec_AreCandidates_l1_fuel v.1 v.2.1) (fun K1 => .leaf)))) .leaf))) ?_ ?_
  · exact ⟨conds_leaf _ _, ⟨⟨conds_leaf _ _, ⟨fun _ => rfl, fun N => ⟨(fun v => by kernel_rfl), conds_leaf _ _⟩⟩⟩, conds_leaf _ _⟩⟩
  · intro xs r h
    refine Eq.trans (Eq.symm ?_) h
    kernel_rfl
@[reducible] noncomputable def e_spec_MostUrgent : FnE := { f := 38, args := [.slice 63 (tyCandidate)], res := [.slice 3 (.int .i64)], F := fun xs => spec_MostUrgent xs.1 }
theorem ok_spec_MostUrgent : FnOK Try.prog glob e_spec_MostUrgent := by
  refine FnOK.of (e := e_spec_MostUrgent) (C := cfg [] [e_spec_AreCandidates] [] []) (cfg_ok (env_cons ok_spec_AreCandidates env_nil) envL_nil envB_nil) Try.func38 (c := codeOf Try.f38) rfl Try.call38 (by decide)
    ((.seq .leaf (.seq .leaf (.seq .leaf (.seq (.seq .leaf (.block (.loop spec_MostUrgent_l1_p (fun N v => spec_MostUrgent_l1 N v.1 v.2.1 v.2.2.1 v.2.2.2.1) (fun v => spec_MostUrgent_l1_fuel v.1 v.2.1 v.2.2.1 v.2.2.2.1) (fun K1 => (.seq .leaf (.join spec_MostUrgent_j1_p (fun v => spec_MostUrgent_j1 K1 v.1 v.2.1 v.2.2.1 v.2.2.2.1) (.block (.join spec_MostUrgent_j2_p (fun v => spec_MostUrgent_j2 K1 v.1 v.2.1 v.2.2.1 v.2.2.2.1) .leaf .leaf)) .leaf)))))) .leaf))))) ?_ ?_
  · exact ⟨conds_leaf _ _, ⟨conds_leaf _ _, ⟨conds_leaf _ _, ⟨⟨conds_leaf _ _, ⟨fun _ => rfl, fun N => ⟨(fun v => by kernel_rfl), ⟨conds_leaf _ _, ⟨⟨conds_leaf _ _, (fun v => by kernel_rfl), conds_leaf _ _⟩, (fun v => by kernel_rfl), conds_leaf _ _⟩⟩⟩⟩⟩, conds_leaf _ _⟩⟩⟩⟩
  · intro xs r h
    refine Eq.trans (Eq.symm ?_) h
    kernel_rfl
@[reducible] noncomputable def e_spec_l14After : FnE := { f := 63, args := [.slice 3 (.int .i64), .int .i64], res := [.int .i64], F := fun xs => spec_l14After xs.1 xs.2.1 }
theorem ok_spec_l14After : FnOK Try.prog glob e_spec_l14After := by
  refine FnOK.of (e := e_spec_l14After) (C := cfg [] [] [] []) (cfg_ok env_nil envL_nil envB_nil) Try.func63 (c := codeOf Try.f63) rfl Try.call63 (by decide)
    ((.seq .leaf (.seq (.seq .leaf (.block (.loop spec_l14After_l1_p (fun N v => spec_l14After_l1 N v.1 v.2.1 v.2.2.1) (fun v => spec_l14After_l1_fuel v.1 v.2.1 v.2.2.1) (fun K1 => .leaf)))) .leaf))) ?_ ?_
  · exact ⟨conds_leaf _ _, ⟨⟨conds_leaf _ _, ⟨fun _ => rfl, fun N => ⟨(fun v => by kernel_rfl), conds_leaf _ _⟩⟩⟩, conds_leaf _ _⟩⟩
  · intro xs r h
    refine Eq.trans (Eq.symm ?_) h
    kernel_rfl
@[reducible] noncomputable def e_spec_NextStream : FnE := { f := 36, args := [.slice 63 (tyCandidate), .int .i64], res := [.int .i64], F := fun xs => spec_NextStream xs.1 xs.2.1 }
theorem ok_spec_NextStream : FnOK Try.prog glob e_spec_NextStream := by
  refine FnOK.of (e := e_spec_NextStream) (C := cfg [] [e_spec_MostUrgent, e_spec_l14After] [] []) (cfg_ok (env_cons ok_spec_MostUrgent (env_cons ok_spec_l14After env_nil)) envL_nil envB_nil) Try.func36 (c := codeOf Try.f36) rfl Try.call36 (by decide)
    ((.seq .leaf (.seq .leaf (.seq .leaf (.seq (.seq .leaf (.block (.loop spec_NextStream_l1_p (fun N v => spec_NextStream_l1 N v.1 v.2.1 v.2.2.1 v.2.2.2.1 v.2.2.2.2.1) (fun v => spec_NextStream_l1_fuel v.1 v.2.1 v.2.2.1 v.2.2.2.1 v.2.2.2.2.1) (fun K1 => (.seq .leaf (.seq (.block (.seq .leaf (.block (.loop spec_NextStream_l2_p (fun N v => spec_NextStream_l2 K1 N v.1 v.2.1 v.2.2.1 v.2.2.2.1 v.2.2.2.2.1 v.2.2.2.2.2.1) (fun v => spec_NextStream_l2_fuel v.1 v.2.1 v.2.2.1 v.2.2.2.1 v.2.2.2.2.1 v.2.2.2.2.2.1) (fun K2 => (.seq .leaf (.join spec_NextStream_j1_p (fun v => spec_NextStream_j1 K1 K2 v.1 v.2.1 v.2.2.1 v.2.2.2.1 v.2.2.2.2.1 v.2.2.2.2.2.1) .leaf .leaf))))))) .leaf)))))) .leaf))))) ?_ ?_
  · exact ⟨conds_leaf _ _, ⟨conds_leaf _ _, ⟨conds_leaf _ _, ⟨⟨conds_leaf _ _, ⟨fun _ => rfl, fun N => ⟨(fun v => by kernel_rfl), ⟨conds_leaf _ _, ⟨⟨conds_leaf _ _, ⟨fun _ => rfl, fun N => ⟨(fun v => by kernel_rfl), ⟨conds_leaf _ _, ⟨conds_leaf _ _, (fun v => by kernel_rfl), conds_leaf _ _⟩⟩⟩⟩⟩, conds_leaf _ _⟩⟩⟩⟩⟩, conds_leaf _ _⟩⟩⟩⟩
  · intro xs r h
    refine Eq.trans (Eq.symm ?_) h
    kernel_rfl
@[reducible] noncomputable def e_laws_sameInts : FnE := { f := 37, args := [.slice 3 (.int .i64), .slice 3 (.int .i64)], res := [.bool], F := fun xs => laws_sameInts xs.1 xs.2.1 }
theorem ok_laws_sameInts : FnOK Try.prog glob e_laws_sameInts := by
  refine FnOK.of (e := e_laws_sameInts) (C := cfg [] [] [] []) (cfg_ok env_nil envL_nil envB_nil) Try.func37 (c := codeOf Try.f37) rfl Try.call37 (by decide)
    ((.seq .leaf (.seq .leaf (.seq (.seq .leaf (.block (.loop laws_sameInts_l1_p (fun N v => laws_sameInts_l1 N v.1 v.2.1 v.2.2.1) (fun v => laws_sameInts_l1_fuel v.1 v.2.1 v.2.2.1) (fun K1 => .leaf)))) .leaf)))) ?_ ?_
  · exact ⟨conds_leaf _ _, ⟨conds_leaf _ _, ⟨⟨conds_leaf _ _, ⟨fun _ => rfl, fun N => ⟨(fun v => by kernel_rfl), conds_leaf _ _⟩⟩⟩, conds_leaf _ _⟩⟩⟩
  · intro xs r h
    refine Eq.trans (Eq.symm ?_) h
    kernel_rfl
@[reducible] noncomputable def e_spec_PlainNext : FnE := { f := 40, args := [.slice 63 (tyCandidate), .int .i64], res := [.int .i64], F := fun xs => spec_PlainNext xs.1 xs.2.1 }
theorem ok_spec_PlainNext : FnOK Try.prog glob e_spec_PlainNext := by
  refine FnOK.of (e := e_spec_PlainNext) (C := cfg [] [e_spec_AreCandidates, e_spec_l14After] [] []) (cfg_ok (env_cons ok_spec_AreCandidates (env_cons ok_spec_l14After env_nil)) envL_nil envB_nil) Try.func40 (c := codeOf Try.f40) rfl Try.call40 (by decide)
    ((.seq .leaf (.seq .leaf (.seq (.seq .leaf (.block (.loop spec_PlainNext_l1_p (fun N v => spec_PlainNext_l1 N v.1 v.2.1 v.2.2.1 v.2.2.2.1) (fun v => spec_PlainNext_l1_fuel v.1 v.2.1 v.2.2.1 v.2.2.2.1) (fun K1 => .leaf)))) .leaf)))) ?_ ?_
  · exact ⟨conds_leaf _ _, ⟨conds_leaf _ _, ⟨⟨conds_leaf _ _, ⟨fun _ => rfl, fun N => ⟨(fun v => by kernel_rfl), conds_leaf _ _⟩⟩⟩, conds_leaf _ _⟩⟩⟩
  · intro xs r h
    refine Eq.trans (Eq.symm ?_) h
    kernel_rfl
@[reducible] noncomputable def e_laws_has : FnE := { f := 43, args := [.slice 3 (.int .i64), .int .i64], res := [.bool], F := fun xs => laws_has xs.1 xs.2.1 }
theorem ok_laws_has : FnOK Try.prog glob e_laws_has := by
  refine FnOK.of (e := e_laws_has) (C := cfg [] [] [] []) (cfg_ok env_nil envL_nil envB_nil) Try.func43 (c := codeOf Try.f43) rfl Try.call43 (by decide)
    ((.seq .leaf (.seq (.seq .leaf (.block (.loop laws_has_l1_p (fun N v => laws_has_l1 N v.1 v.2.1 v.2.2.1) (fun v => laws_has_l1_fuel v.1 v.2.1 v.2.2.1) (fun K1 => .leaf)))) .leaf))) ?_ ?_
  · exact ⟨conds_leaf _ _, ⟨⟨conds_leaf _ _, ⟨fun _ => rfl, fun N => ⟨(fun v => by kernel_rfl), conds_leaf _ _⟩⟩⟩, conds_leaf _ _⟩⟩
  · intro xs r h
    refine Eq.trans (Eq.symm ?_) h
    kernel_rfl
@[reducible] noncomputable def e_spec_DrawServeOrder : FnE := { f := 44, args := [.slice 5 (.int .u8)], res := [.slice 63 (tyCandidate), .int .i64, .int .i64], F := fun xs => spec_DrawServeOrder xs.1 }
theorem ok_spec_DrawServeOrder : FnOK Try.prog glob e_spec_DrawServeOrder := by
  refine FnOK.of (e := e_spec_DrawServeOrder) (C := cfg [] [] [] [e_spec_l1New, e_spec_l14List, e_spec_l1Below]) (cfg_ok env_nil envL_nil (envB_cons ok_spec_l1New (envB_cons ok_spec_l14List (envB_cons ok_spec_l1Below envB_nil)))) Try.func44 (c := codeOf Try.f44) rfl Try.call44 (by decide)
    (.leaf) ?_ ?_
  · exact conds_leaf _ _
  · intro xs r h
    refine Eq.trans (Eq.symm ?_) h
    kernel_rfl
@[reducible] noncomputable def e_impl_ServeOrder : FnE := { f := 45, args := [.slice 63 (tyCandidate), .int .i64, .int .i64], res := [.slice 3 (.int .i64)], F := fun xs => impl_ServeOrder xs.1 xs.2.1 xs.2.2.1 }
theorem ok_impl_ServeOrder : FnOK Try.prog glob e_impl_ServeOrder := by
  refine FnOK.of (e := e_impl_ServeOrder) (C := cfg [] [e_impl_AreCandidates, e_impl_NextStream] [] []) (cfg_ok (env_cons ok_impl_AreCandidates (env_cons ok_impl_NextStream env_nil)) envL_nil envB_nil) Try.func45 (c := codeOf Try.f45) rfl Try.call45 (by decide)
    ((.seq .leaf (.seq .leaf (.seq .leaf (.seq (.block (.loop impl_ServeOrder_l1_p (fun N v => impl_ServeOrder_l1 N v.1 v.2.1 v.2.2.1 v.2.2.2.1) (fun v => impl_ServeOrder_l1_fuel v.1 v.2.1 v.2.2.1 v.2.2.2.1) (fun K1 => .leaf))) .leaf))))) ?_ ?_
  · exact ⟨conds_leaf _ _, ⟨conds_leaf _ _, ⟨conds_leaf _ _, ⟨⟨fun _ => rfl, fun N => ⟨(fun v => by kernel_rfl), conds_leaf _ _⟩⟩, conds_leaf _ _⟩⟩⟩⟩
  · intro xs r h
    refine Eq.trans (Eq.symm ?_) h
    kernel_rfl
@[reducible] noncomputable def e_spec_ServeOrder : FnE := { f := 46, args := [.slice 63 (tyCandidate), .int .i64, .int .i64], res := [.slice 3 (.int .i64)], F := fun xs => spec_ServeOrder xs.1 xs.2.1 xs.2.2.1 }
theorem ok_spec_ServeOrder : FnOK Try.prog glob e_spec_ServeOrder := by
  refine FnOK.of (e := e_spec_ServeOrder) (C := cfg [] [e_spec_AreCandidates, e_spec_NextStream] [] []) (cfg_ok (env_cons ok_spec_AreCandidates (env_cons ok_spec_NextStream env_nil)) envL_nil envB_nil) Try.func46 (c := codeOf Try.f46) rfl Try.call46 (by decide)
    ((.seq .leaf (.seq .leaf (.seq (.seq .leaf (.block (.loop spec_ServeOrder_l1_p (fun N v => spec_ServeOrder_l1 N v.1 v.2.1 v.2.2.1 v.2.2.2.1 v.2.2.2.2.1) (fun v => spec_ServeOrder_l1_fuel v.1 v.2.1 v.2.2.1 v.2.2.2.1 v.2.2.2.2.1) (fun K1 => .leaf)))) .leaf)))) ?_ ?_
  · exact ⟨conds_leaf _ _, ⟨conds_leaf _ _, ⟨⟨conds_leaf _ _, ⟨fun _ => rfl, fun N => ⟨(fun v => by kernel_rfl), conds_leaf _ _⟩⟩⟩, conds_leaf _ _⟩⟩⟩
  · intro xs r h
    refine Eq.trans (Eq.symm ?_) h
    kernel_rfl
@[reducible] noncomputable def e_spec_TurnsOf : FnE := { f := 50, args := [.slice 3 (.int .i64), .int .i64], res := [.int .i64], F := fun xs => spec_TurnsOf xs.1 xs.2.1 }
theorem ok_spec_TurnsOf : FnOK Try.prog glob e_spec_TurnsOf := by
  refine FnOK.of (e := e_spec_TurnsOf) (C := cfg [] [] [] []) (cfg_ok env_nil envL_nil envB_nil) Try.func50 (c := codeOf Try.f50) rfl Try.call50 (by decide)
    ((.seq .leaf (.seq .leaf (.seq (.seq .leaf (.block (.loop spec_TurnsOf_l1_p (fun N v => spec_TurnsOf_l1 N v.1 v.2.1 v.2.2.1 v.2.2.2.1) (fun v => spec_TurnsOf_l1_fuel v.1 v.2.1 v.2.2.1 v.2.2.2.1) (fun K1 => (.seq .leaf (.join spec_TurnsOf_j1_p (fun v => spec_TurnsOf_j1 K1 v.1 v.2.1 v.2.2.1 v.2.2.2.1) .leaf .leaf)))))) .leaf)))) ?_ ?_
  · exact ⟨conds_leaf _ _, ⟨conds_leaf _ _, ⟨⟨conds_leaf _ _, ⟨fun _ => rfl, fun N => ⟨(fun v => by kernel_rfl), ⟨conds_leaf _ _, ⟨conds_leaf _ _, (fun v => by kernel_rfl), conds_leaf _ _⟩⟩⟩⟩⟩, conds_leaf _ _⟩⟩⟩
  · intro xs r h
    refine Eq.trans (Eq.symm ?_) h
    kernel_rfl
@[reducible] noncomputable def e_spec_SpreadOf : FnE := { f := 47, args := [.slice 3 (.int .i64), .slice 3 (.int .i64)], res := [.int .i64], F := fun xs => spec_SpreadOf xs.1 xs.2.1 }
theorem ok_spec_SpreadOf : FnOK Try.prog glob e_spec_SpreadOf := by
  refine FnOK.of (e := e_spec_SpreadOf) (C := cfg [] [e_spec_TurnsOf] [] []) (cfg_ok (env_cons ok_spec_TurnsOf env_nil) envL_nil envB_nil) Try.func47 (c := codeOf Try.f47) rfl Try.call47 (by decide)
    ((.seq .leaf (.seq .leaf (.seq .leaf (.seq (.seq .leaf (.block (.loop spec_SpreadOf_l1_p (fun N v => spec_SpreadOf_l1 N v.1 v.2.1 v.2.2.1 v.2.2.2.1 v.2.2.2.2.1) (fun v => spec_SpreadOf_l1_fuel v.1 v.2.1 v.2.2.1 v.2.2.2.1 v.2.2.2.2.1) (fun K1 => (.seq .leaf (.seq (.block (.seq .leaf (.join spec_SpreadOf_j1_p (fun v => spec_SpreadOf_j1 K1 v.1 v.2.1 v.2.2.1 v.2.2.2.1 v.2.2.2.2.1 v.2.2.2.2.2.1) .leaf .leaf))) .leaf)))))) .leaf))))) ?_ ?_
  · exact ⟨conds_leaf _ _, ⟨conds_leaf _ _, ⟨conds_leaf _ _, ⟨⟨conds_leaf _ _, ⟨fun _ => rfl, fun N => ⟨(fun v => by kernel_rfl), ⟨conds_leaf _ _, ⟨⟨conds_leaf _ _, ⟨conds_leaf _ _, (fun v => by kernel_rfl), conds_leaf _ _⟩⟩, conds_leaf _ _⟩⟩⟩⟩⟩, conds_leaf _ _⟩⟩⟩⟩
  · intro xs r h
    refine Eq.trans (Eq.symm ?_) h
    kernel_rfl
@[reducible] noncomputable def e_spec_DrawTurnsOf : FnE := { f := 48, args := [.slice 5 (.int .u8)], res := [.slice 3 (.int .i64), .int .i64], F := fun xs => spec_DrawTurnsOf xs.1 }
theorem ok_spec_DrawTurnsOf : FnOK Try.prog glob e_spec_DrawTurnsOf := by
  refine FnOK.of (e := e_spec_DrawTurnsOf) (C := cfg [] [e_spec_DrawServeOrder, e_spec_ServeOrder] [] []) (cfg_ok (env_cons ok_spec_DrawServeOrder (env_cons ok_spec_ServeOrder env_nil)) envL_nil envB_nil) Try.func48 (c := codeOf Try.f48) rfl Try.call48 (by decide)
    (.leaf) ?_ ?_
  · exact conds_leaf _ _
  · intro xs r h
    refine Eq.trans (Eq.symm ?_) h
    kernel_rfl
@[reducible] noncomputable def e_impl_one : FnE := { f := 60, args := [.bool], res := [.int .i64], F := fun xs => impl_one xs.1 }
theorem ok_impl_one : FnOK Try.prog glob e_impl_one := by
  refine FnOK.of (e := e_impl_one) (C := cfg [] [] [] []) (cfg_ok env_nil envL_nil envB_nil) Try.func60 (c := codeOf Try.f60) rfl Try.call60 (by decide)
    (.leaf) ?_ ?_
  · exact conds_leaf _ _
  · intro xs r h
    refine Eq.trans (Eq.symm ?_) h
    kernel_rfl
@[reducible] noncomputable def e_impl_TurnsOf : FnE := { f := 49, args := [.slice 3 (.int .i64), .int .i64], res := [.int .i64], F := fun xs => impl_TurnsOf xs.1 xs.2.1 }
theorem ok_impl_TurnsOf : FnOK Try.prog glob e_impl_TurnsOf := by
  refine FnOK.of (e := e_impl_TurnsOf) (C := cfg [] [e_impl_one] [] []) (cfg_ok (env_cons ok_impl_one env_nil) envL_nil envB_nil) Try.func49 (c := codeOf Try.f49) rfl Try.call49 (by decide)
    ((.seq .leaf (.seq .leaf (.seq (.seq .leaf (.block (.loop impl_TurnsOf_l1_p (fun N v => impl_TurnsOf_l1 N v.1 v.2.1 v.2.2.1 v.2.2.2.1 v.2.2.2.2.1) (fun v => impl_TurnsOf_l1_fuel v.1 v.2.1 v.2.2.1 v.2.2.2.1 v.2.2.2.2.1) (fun K1 => .leaf)))) .leaf)))) ?_ ?_
  · exact ⟨conds_leaf _ _, ⟨conds_leaf _ _, ⟨⟨conds_leaf _ _, ⟨fun _ => rfl, fun N => ⟨(fun v => by kernel_rfl), conds_leaf _ _⟩⟩⟩, conds_leaf _ _⟩⟩⟩
  · intro xs r h
    refine Eq.trans (Eq.symm ?_) h
    kernel_rfl
@[reducible] noncomputable def e_laws_FnSchedules : FnE := { f := 8, args := [.slice 5 (.int .u8)], res := [.bool], F := fun xs => laws_FnSchedules xs.1 }
theorem ok_laws_FnSchedules : FnOK Try.prog glob e_laws_FnSchedules := by
  refine FnOK.of (e := e_laws_FnSchedules) (C := cfg [] [e_laws_big, e_spec_DrawNextStream, e_impl_NextStream, e_impl_MostUrgent, e_spec_NextStream, e_spec_MostUrgent, e_laws_sameInts, e_impl_PlainNext, e_spec_PlainNext, e_impl_AreCandidates, e_spec_AreCandidates, e_laws_has, e_spec_DrawServeOrder, e_impl_ServeOrder, e_spec_ServeOrder, e_spec_SpreadOf, e_spec_DrawTurnsOf, e_impl_TurnsOf, e_spec_TurnsOf] [] []) (cfg_ok (env_cons ok_laws_big (env_cons ok_spec_DrawNextStream (env_cons ok_impl_NextStream (env_cons ok_impl_MostUrgent (env_cons ok_spec_NextStream (env_cons ok_spec_MostUrgent (env_cons ok_laws_sameInts (env_cons ok_impl_PlainNext (env_cons ok_spec_PlainNext (env_cons ok_impl_AreCandidates (env_cons ok_spec_AreCandidates (env_cons ok_laws_has (env_cons ok_spec_DrawServeOrder (env_cons ok_impl_ServeOrder (env_cons ok_spec_ServeOrder (env_cons ok_spec_SpreadOf (env_cons ok_spec_DrawTurnsOf (env_cons ok_impl_TurnsOf (env_cons ok_spec_TurnsOf env_nil))))))))))))))))))) envL_nil envB_nil) Try.func8 (c := codeOf Try.f8) rfl Try.call8 (by decide)
    ((.seq .leaf (.seq .leaf (.seq .leaf (.seq .leaf (.seq .leaf (.seq .leaf (.seq .leaf (.seq .leaf (.seq .leaf (.seq .leaf (.seq .leaf (.seq .leaf (.seq .leaf (.seq (.seq .leaf (.block (.loop laws_FnSchedules_l1_p (fun N v => laws_FnSchedules_l1 N v.1 v.2.1 v.2.2.1 v.2.2.2.1 v.2.2.2.2.1 v.2.2.2.2.2.1 v.2.2.2.2.2.2.1) (fun v => laws_FnSchedules_l1_fuel v.1 v.2.1 v.2.2.1 v.2.2.2.1 v.2.2.2.2.1 v.2.2.2.2.2.1 v.2.2.2.2.2.2.1) (fun K1 => (.seq .leaf (.join laws_FnSchedules_j1_p (fun v => laws_FnSchedules_j1 K1 v.1 v.2.1 v.2.2.1 v.2.2.2.1 v.2.2.2.2.1 v.2.2.2.2.2.1 v.2.2.2.2.2.2.1) .leaf .leaf)))))) .leaf))))))))))))))) ?_ ?_
  · exact ⟨conds_leaf _ _, ⟨conds_leaf _ _, ⟨conds_leaf _ _, ⟨conds_leaf _ _, ⟨conds_leaf _ _, ⟨conds_leaf _ _, ⟨conds_leaf _ _, ⟨conds_leaf _ _, ⟨conds_leaf _ _, ⟨conds_leaf _ _, ⟨conds_leaf _ _, ⟨conds_leaf _ _, ⟨conds_leaf _ _, ⟨⟨conds_leaf _ _, ⟨fun _ => rfl, fun N => ⟨(fun v => by kernel_rfl), ⟨conds_leaf _ _, ⟨conds_leaf _ _, (fun v => by kernel_rfl), conds_leaf _ _⟩⟩⟩⟩⟩, conds_leaf _ _⟩⟩⟩⟩⟩⟩⟩⟩⟩⟩⟩⟩⟩⟩
  · intro xs r h
    refine Eq.trans (Eq.symm ?_) h
    kernel_rfl
end Go.Proofs.Ytifcipnimblkpaa

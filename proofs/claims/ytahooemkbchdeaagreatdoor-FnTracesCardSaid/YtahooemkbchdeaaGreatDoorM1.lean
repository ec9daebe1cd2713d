/- FnTraces: what the functions that it reaches compute, as plain functions, part 1. No condition. -/
import Derived.Test.YtahooemkbchdeaaGreatDoorRows
import Derived.Test.YtahooemkbchdeaaGreatDoorAm5
import Derived.Test.YtahooemkbchdeaaGreatDoorShelf
import Derived.Lib.AppendIntMem
import Derived.Lib.SplitLaws
import Derived.Lib.IndexMore
import Derived.Lib.Atoi
import Derived.Lib.AtoiBound
import Derived.Lib.Join
import Derived.Lib.ItoaNum
import Derived.Lib.ItoaLen
noncomputable section
namespace Go.Proofs.YtahooemkbchdeaaGreatDoor
open Go.Am
set_option maxRecDepth 100000
set_option linter.unusedVariables false
abbrev Kw : Ty := .pair (.int .i64) (.pair (.bool) (.unit))
abbrev Xm : Type := Int × Bool × Unit
abbrev Zbb : Ty := .pair (.int .i64) (.pair (.str) (.unit))
abbrev Q2 : Type := Int × List UInt8 × Unit
def Qm : Q2 := ((0 : Int), (([] : List UInt8), ()))
abbrev Zt : Ty := .pair (.int .i64) (.pair (.int .i64) (.unit))
abbrev Ze : Type := Int × Int × Unit
def Zu : Ze := ((0 : Int), ((0 : Int), ()))
abbrev Vg : Ty := .pair (.int .i64) (.pair (.str) (.pair (.bool) (.unit)))
abbrev Yh : Type := Int × List UInt8 × Bool × Unit
def Zmm : Yh := ((0 : Int), (([] : List UInt8), (false, ())))
abbrev Zi7 : Ty := .pair (.int .i64) (Zt)
abbrev Zja : Type := Int × Ze
def Quh : Zja := ((0 : Int), ((0 : Int), ((0 : Int), ())))
abbrev Xg : Ty := .pair (.slice 5 (.int .u8)) (Zt)
abbrev Zw : Type := List Int × Ze
abbrev Q4 : Ty := .pair (.int .i64) (Zi7)
abbrev Qq : Type := Int × Zja
def Qvo : Qq := ((0 : Int), ((0 : Int), ((0 : Int), ((0 : Int), ()))))
abbrev Q6 : Ty := .pair (.int .i64) (.pair (Kw) (.unit))
abbrev Zz : Type := Int × Xm × Unit
def Y9 : Zz := ((0 : Int), (((0 : Int), (false, ())), ()))
abbrev Xv : Ty := .pair (.int .i64) (.pair (.slice 138 (Zbb)) (.unit))
abbrev Z2 : Type := Int × List Q2 × Unit
def Qvn : Z2 := ((0 : Int), (([] : List Q2), ()))
abbrev Zbh : Ty := .pair (.int .i64) (.pair (.int .i64) (.pair (.int .i64) (.pair (.slice 3 (.int .i64)) (.unit))))
abbrev Kg : Type := Int × Int × Int × List Int × Unit
def Qsz : Kg := ((0 : Int), ((0 : Int), ((0 : Int), (([] : List Int), ()))))
abbrev Jw : Ty := .pair (.int .i64) (.pair (.int .i64) (Q4))
abbrev Y3 : Type := Int × Int × Qq
def Qqi : Y3 := ((0 : Int), ((0 : Int), ((0 : Int), ((0 : Int), ((0 : Int), ((0 : Int), ()))))))
abbrev Zqf : Ty := .pair (.int .i64) (.pair (.int .i64) (Jw))
abbrev Zrg : Type := Int × Int × Y3
abbrev Zr : Ty := .pair (.int .i64) (.pair (.int .i64) (.pair (.int .i64) (.pair (.str) (.pair (.bool) (.pair (.int .i64) (.pair (.int .i64) (Kw)))))))
abbrev Zg : Type := Int × Int × Int × List UInt8 × Bool × Int × Int × Xm
def Qg : Zg := ((0 : Int), ((0 : Int), ((0 : Int), (([] : List UInt8), (false, ((0 : Int), ((0 : Int), ((0 : Int), (false, ())))))))))
abbrev Qt : Ty := .pair (.int .i64) (.pair (Xv) (Zi7))
abbrev Qb : Type := Int × Z2 × Zja
def Zrf : Qb := ((0 : Int), (((0 : Int), (([] : List Q2), ())), ((0 : Int), ((0 : Int), ((0 : Int), ())))))
abbrev Wz : Ty := .pair (.int .i64) (.pair (.slice 25 (Zr)) (.unit))
abbrev Xn : Type := Int × List Zg × Unit
def Jz : Xn := ((0 : Int), (([] : List Zg), ()))
abbrev Zy : Ty := .pair (.int .i64) (.pair (Zbh) (.pair (.slice 135 (Zt)) (.pair (.slice 135 (Zt)) (.pair (.slice 135 (Zt)) (Q4)))))
abbrev Zm : Type := Int × Kg × List Ze × List Ze × List Ze × Qq
def Jk : Zm := ((0 : Int), (((0 : Int), ((0 : Int), ((0 : Int), (([] : List Int), ())))), (([] : List Ze), (([] : List Ze), (([] : List Ze), ((0 : Int), ((0 : Int), ((0 : Int), ((0 : Int), ())))))))))
abbrev Z1 : Ty := .pair (.int .i64) (.pair (Zy) (.pair (Q4) (.pair (Qt) (.pair (Jw) (.pair (Kw) (.pair (.bool) (.pair (.bool) (.pair (.bool) (.pair (.bool) (.pair (.bool) (.pair (.bool) (Kw))))))))))))
abbrev Zo : Type := Int × Zm × Qq × Qb × Y3 × Xm × Bool × Bool × Bool × Bool × Bool × Bool × Xm
def Q7 : Zo := ((0 : Int), (((0 : Int), (((0 : Int), ((0 : Int), ((0 : Int), (([] : List Int), ())))), (([] : List Ze), (([] : List Ze), (([] : List Ze), ((0 : Int), ((0 : Int), ((0 : Int), ((0 : Int), ()))))))))), (((0 : Int), ((0 : Int), ((0 : Int), ((0 : Int), ())))), (((0 : Int), (((0 : Int), (([] : List Q2), ())), ((0 : Int), ((0 : Int), ((0 : Int), ()))))), (((0 : Int), ((0 : Int), ((0 : Int), ((0 : Int), ((0 : Int), ((0 : Int), ())))))), (((0 : Int), (false, ())), (false, (false, (false, (false, (false, (false, ((0 : Int), (false, ()))))))))))))))
abbrev Zq : Ty := .pair (.bool) (.pair (Zqf) (.pair (Zqf) (.pair (.slice 51 (Z1)) (.pair (Q4) (.pair (Jw) (.pair (Zi7) (.pair (Zi7) (.pair (Q4) (.pair (Q4) (.pair (.bool) (.pair (.bool) (.pair (.bool) (.pair (.int .i64) (.pair (.int .i64) (.pair (.slice 148 (Wz)) (Zt))))))))))))))))
abbrev Zi : Type := Bool × Zrg × Zrg × List Zo × Qq × Y3 × Zja × Zja × Qq × Qq × Bool × Bool × Bool × Int × Int × List Xn × Ze
def Zbs : Zi := (false, (((0 : Int), ((0 : Int), ((0 : Int), ((0 : Int), ((0 : Int), ((0 : Int), ((0 : Int), ((0 : Int), ())))))))), (((0 : Int), ((0 : Int), ((0 : Int), ((0 : Int), ((0 : Int), ((0 : Int), ((0 : Int), ((0 : Int), ())))))))), (([] : List Zo), (((0 : Int), ((0 : Int), ((0 : Int), ((0 : Int), ())))), (((0 : Int), ((0 : Int), ((0 : Int), ((0 : Int), ((0 : Int), ((0 : Int), ())))))), (((0 : Int), ((0 : Int), ((0 : Int), ()))), (((0 : Int), ((0 : Int), ((0 : Int), ()))), (((0 : Int), ((0 : Int), ((0 : Int), ((0 : Int), ())))), (((0 : Int), ((0 : Int), ((0 : Int), ((0 : Int), ())))), (false, (false, (false, ((0 : Int), ((0 : Int), (([] : List Xn), ((0 : Int), ((0 : Int), ()))))))))))))))))))
def Qke (code0 : List Int) : Option (Bool × Unit) :=
 some (decide ((code0.length : Int) > (1048576 : Int)), ())
abbrev Qhf : List PE := [.val 0 (.slice 5 (.int .u8)) (.u false), .val 3 (.int .i64) (.u false), .val 4 (.int .i64) (.u false)]
def Zml (code0_1 : List Int) (h3 : Int) (i4 : Int) : Nat := ((code0_1.length : Int) - i4).toNat + 1
def Zlf : Nat → List Int → Int → Int → Option ((Zw) × (Unit))
 | 0, _, _, _ => none
 | N + 1, code0_1, h3, i4 =>
  bif (decide (i4 < (code0_1.length : Int))) && (decide (i4 < (4000 : Int))) then
   Zb (0 ≤ i4 ∧ i4 < code0_1.length) <|
   Zlf N code0_1 (bits .and .i64 (IntKind.i64.wrap ((IntKind.i64.wrap ((IntKind.i64.wrap (h3 * 131)) + (IntKind.i64.wrap (code0_1.getD i4.toNat (0 : Int))))) + 7)) (1073741823 : Int)) (IntKind.i64.wrap (i4 + 1))
  else
   some ((code0_1, ((0 : Int), (h3, ()))), ())
def Ze4 (code0 : List Int) : Option ((Zw) × (Unit)) :=
 let t7 : Int := IntKind.i64.wrap ((10101 : Int) + (code0.length : Int))
 Zlf (Zml code0 t7 (0 : Int)) code0 t7 (0 : Int)
def Kv (c0 : Zw) : Option ((Int × Unit) × (Zw × Unit)) :=
 let t10 : Int := IntKind.i64.wrap ((IntKind.i64.wrap (c0.2.2.1 * 6364136223846793005)) + 1442695040888963407)
 Zb (0 ≤ (33 : Int)) <|
 Zb (0 ≤ (45 : Int)) <|
 let t24 : Int := bits .and .i64 (bits .xor .i64 (t10.fdiv (2 ^ (min (33 : Int).toNat IntKind.i64.bits))) (t10.fdiv (2 ^ (min (45 : Int).toNat IntKind.i64.bits)))) (255 : Int)
 bif decide (c0.2.1 < (c0.1.length : Int)) then
  Zb (0 ≤ c0.2.1 ∧ c0.2.1 < c0.1.length) <|
  some ((bits .and .i64 (IntKind.i64.wrap (t24 + (IntKind.i64.wrap (c0.1.getD c0.2.1.toNat (0 : Int))))) (255 : Int), ()), ((c0.1, (IntKind.i64.wrap (c0.2.1 + 1), (t10, c0.2.2.2))), ()))
 else
  some ((t24, ()), ((c0.1, (c0.2.1, (t10, c0.2.2.2))), ()))
def Zv (c0 : Zw) (n1 : Int) : Option ((Int × Unit) × (Zw × Unit)) :=
 bif decide (n1 ≤ (0 : Int)) then
  some (((0 : Int), ()), (c0, ()))
 else
  bif decide (n1 ≤ (256 : Int)) then
   (Kv c0).bind fun t14 =>
   Zb (n1 ≠ 0) <|
   some ((Int.tmod t14.1.1 n1, ()), (t14.2.1, ()))
  else
   (Kv c0).bind fun t18 =>
   (Kv t18.2.1).bind fun t20 =>
   (Kv t20.2.1).bind fun t22 =>
   (Kv t22.2.1).bind fun t24 =>
   Zb (n1 ≠ 0) <|
   some ((Int.tmod (IntKind.i64.wrap ((IntKind.i64.wrap ((IntKind.i64.wrap ((IntKind.i64.wrap (t18.1.1 * 16777216)) + (IntKind.i64.wrap (t20.1.1 * 65536)))) + (IntKind.i64.wrap (t22.1.1 * 256)))) + t24.1.1)) n1, ()), (t24.2.1, ()))
def Xf (c0 : Zw) (list1 : List Int) : Option ((Int × Unit) × (Zw × Unit)) :=
 (Zv c0 (list1.length : Int)).bind fun t9 =>
 Zb (0 ≤ t9.1.1 ∧ t9.1.1 < list1.length) <|
 some ((list1.getD t9.1.1.toNat (0 : Int), ()), (t9.2.1, ()))
def Zj2 (c0 : Zw) (list1 : List (List UInt8)) : Option ((List UInt8 × Unit) × (Zw × Unit)) :=
 (Zv c0 (list1.length : Int)).bind fun t9 =>
 Zb (0 ≤ t9.1.1 ∧ t9.1.1 < list1.length) <|
 some ((list1.getD t9.1.1.toNat ([] : List UInt8), ()), (t9.2.1, ()))
abbrev Qdu : List PE := [.box 0 110 (Xg) (.u false), .val 5 (.str) (.u false), .val 6 (.int .i64) (.u false)]
def Zfn (c0_1 : Zw) (s5_1 : List UInt8) (n6 : Int) : Nat := (n6 - 0).toNat + 1
def Zgz : Nat → Zw → List UInt8 → Int → Option ((List UInt8 × Unit) × (Zw × Unit))
 | 0, _, _, _ => none
 | N + 1, c0_1, s5_1, n6 =>
  bif decide (n6 > (0 : Int)) then
   (Zj2 c0_1 ([([97] : List UInt8), ([98] : List UInt8), ([99] : List UInt8), ([100] : List UInt8)])).bind fun t18 =>
   Zb (s5_1.length + t18.1.1.length ≤ Z5) <|
   Zgz N t18.2.1 (s5_1 ++ t18.1.1) (IntKind.i64.wrap (n6 - 1))
  else
   some ((s5_1, ()), (c0_1, ()))
def Zex (c0 : Zw) (most1 : Int) : Option ((List UInt8 × Unit) × (Zw × Unit)) :=
 (Zv c0 (IntKind.i64.wrap (most1 + 1))).bind fun t10 =>
 Zgz (Zfn t10.2.1 ([] : List UInt8) t10.1.1) t10.2.1 ([] : List UInt8) t10.1.1
def Yr (c0 : Zw) (n1 : Int) : Option ((Bool × Unit) × (Zw × Unit)) :=
 (Zv c0 n1).bind fun t7 =>
 some ((t7.1.1 == 0, ()), (t7.2.1, ()))
abbrev Zu5 : List PE := [.val 5 (.bool) (.u false)]
def Xi (t5 : Bool) : Option (Bool × Unit) :=
 bif t5 then
  some (true, ())
 else
  some (false, ())
def Qa (f0 : Zg) : Option (Bool × Unit) :=
 bif f0.1 == 4 then
  Xi (f0.1 == 4)
 else
  bif f0.1 == 5 then
   Xi (f0.1 == 5)
  else
   bif f0.1 == 8 then
    Xi (f0.1 == 8)
   else
    bif f0.1 == 17 then
     Xi (f0.1 == 17)
    else
     Xi (f0.1 == 21)
abbrev Qdw : List PE := [.box 1 25 (Zr) (.u false), .box 2 25 (Zr) (.u false), .box 3 25 (Zr) (.u false), .val 41 (.bool) (.u false)]
def Zg2 (f1_1 : Zg) (t2_1 : Zg) (x3_1 : Zg) (t41 : Bool) : Option (Zg × Unit) :=
 bif t41 then
  some ((x3_1.1, (x3_1.2.1, (x3_1.2.2.1, (x3_1.2.2.2.1, (x3_1.2.2.2.2.1, (x3_1.2.2.2.2.2.1, (f1_1.2.2.2.2.2.2.1, (x3_1.2.2.2.2.2.2.2.1, (f1_1.2.2.2.2.2.2.2.2.1, x3_1.2.2.2.2.2.2.2.2.2))))))))), ())
 else
  some ((x3_1.1, (x3_1.2.1, (x3_1.2.2.1, (x3_1.2.2.2.1, (x3_1.2.2.2.2.1, (x3_1.2.2.2.2.2.1, (f1_1.2.2.2.2.2.2.1, x3_1.2.2.2.2.2.2.2))))))), ())
abbrev Qdv : List PE := [.box 1 25 (Zr) (.u false), .box 2 25 (Zr) (.u false), .box 3 25 (Zr) (.u false)]
def Zg1 (f1 : Zg) (t2 : Zg) (x3 : Zg) : Option (Zg × Unit) :=
 bif f1.1 == 4 then
  some ((x3.1, (x3.2.1, (x3.2.2.1, (x3.2.2.2.1, (x3.2.2.2.2.1, (f1.2.2.2.2.2.1, (x3.2.2.2.2.2.2.1, (f1.2.2.2.2.2.2.2.1, x3.2.2.2.2.2.2.2.2)))))))), ())
 else
  bif f1.1 == 5 then
   some ((x3.1, (x3.2.1, (x3.2.2.1, (x3.2.2.2.1, (x3.2.2.2.2.1, (f1.2.2.2.2.2.1, x3.2.2.2.2.2.2)))))), ())
  else
   bif f1.1 == 8 then
    some ((x3.1, (x3.2.1, (f1.2.2.1, (f1.2.2.2.1, (f1.2.2.2.2.1, x3.2.2.2.2.2))))), ())
   else
    bif f1.1 == 18 then
     Zg2 f1 t2 x3 (f1.1 == 18)
    else
     Zg2 f1 t2 x3 (f1.1 == 22)
def Zg9 (f0 : Zg) : Option (Zg × Unit) :=
 (Qa f0).bind fun t8 =>
 bif t8.1 then
  Zg1 f0 Qg (f0.1, (f0.2.1, ((0 : Int), (([] : List UInt8), (false, ((0 : Int), ((0 : Int), ((0 : Int), (false, ())))))))))
 else
  Zg1 f0 Qg (f0.1, ((0 : Int), ((0 : Int), (([] : List UInt8), (false, ((0 : Int), ((0 : Int), ((0 : Int), (false, ())))))))))
def Zhv (c0 : Zw) : Option ((Zg × Unit) × (Zw × Unit)) :=
 (Xf c0 ([(4 : Int), (5 : Int), (8 : Int), (8 : Int), (8 : Int), (8 : Int), (16 : Int), (17 : Int), (18 : Int), (20 : Int), (21 : Int), (22 : Int)])).bind fun t6 =>
 (Zv t6.2.1 (8 : Int)).bind fun t9 =>
 (Zv t9.2.1 (12 : Int)).bind fun t12 =>
 (Zex t12.2.1 (6 : Int)).bind fun t15 =>
 (Yr t15.2.1 (4 : Int)).bind fun t18 =>
 (Zv t18.2.1 (5 : Int)).bind fun t21 =>
 (Zv t21.2.1 (40 : Int)).bind fun t24 =>
 (Zv t24.2.1 (14 : Int)).bind fun t27 =>
 (Yr t27.2.1 (2 : Int)).bind fun t30 =>
 Option.bind (Zg9 (t6.1.1, (t9.1.1, (t12.1.1, (t15.1.1, (t18.1.1, (t21.1.1, (t24.1.1, (t27.1.1, (t30.1.1, ())))))))))) fun t33 =>
 some ((t33.1, ()), (t30.2.1, ()))
def Zww (c0 : Zw) : Option ((Zg × Unit) × (Zw × Unit)) :=
 (Zhv c0).bind fun t5 =>
 (Zv t5.2.1 (14 : Int)).bind fun t7 =>
 bif t7.1.1 == 0 then
  (Xf t7.2.1 ([(-1 : Int), (0 : Int), (6 : Int), (9 : Int), (19 : Int), (24 : Int)])).bind fun t12 =>
  some (((t12.1.1, t5.1.1.2), ()), (t12.2.1, ()))
 else
  bif t7.1.1 == 1 then
   (Xf t7.2.1 ([(-1 : Int), (1 : Int), (1152921504606846976 : Int), (1152921504606846977 : Int), (4611686018427387903 : Int), (4611686018427387904 : Int)])).bind fun t18 =>
   some (((t5.1.1.1, (t5.1.1.2.1, (t5.1.1.2.2.1, (t5.1.1.2.2.2.1, (t5.1.1.2.2.2.2.1, (t5.1.1.2.2.2.2.2.1, (t18.1.1, t5.1.1.2.2.2.2.2.2.2))))))), ()), (t18.2.1, ()))
  else
   bif t7.1.1 == 2 then
    (Xf t7.2.1 ([(-1 : Int), (70 : Int), (4611686018427387900 : Int), (4611686018427387903 : Int)])).bind fun t24 =>
    some (((t5.1.1.1, (t5.1.1.2.1, (t24.1.1, t5.1.1.2.2.2))), ()), (t24.2.1, ()))
   else
    bif t7.1.1 == 3 then
     (Xf t7.2.1 ([(-1 : Int), (64 : Int), (4611686018427387903 : Int), (4611686018427387904 : Int)])).bind fun t30 =>
     some (((t5.1.1.1, (t30.1.1, t5.1.1.2.2)), ()), (t30.2.1, ()))
    else
     some ((t5.1.1, ()), (t7.2.1, ()))
def Zee (code0 : List Int) : Option (Zg × Unit) :=
 (Ze4 code0).bind fun t4 =>
 (Zww t4.1).bind fun t5 =>
 some (t5.1.1, ())
def Zez (kind0 : Int) : Option (List UInt8 × Unit) :=
 bif kind0 == 4 then
  some (([114, 101, 115, 101, 116] : List UInt8), ())
 else
  bif kind0 == 5 then
   some (([115, 116, 111, 112] : List UInt8), ())
  else
   bif kind0 == 8 then
    some (([115, 116, 114, 101, 97, 109] : List UInt8), ())
   else
    bif kind0 == 16 then
     some (([109, 97, 120, 100, 97, 116, 97] : List UInt8), ())
    else
     bif kind0 == 17 then
      some (([109, 97, 120, 115, 116, 114, 101, 97, 109, 100, 97, 116, 97] : List UInt8), ())
     else
      bif kind0 == 18 then
       some (([109, 97, 120, 115, 116, 114, 101, 97, 109, 115] : List UInt8), ())
      else
       bif kind0 == 20 then
        some (([100, 97, 116, 97, 98, 108, 111, 99, 107, 101, 100] : List UInt8), ())
       else
        bif kind0 == 21 then
         some (([115, 116, 114, 101, 97, 109, 100, 97, 116, 97, 98, 108, 111, 99, 107, 101, 100] : List UInt8), ())
        else
         bif kind0 == 22 then
          some (([115, 116, 114, 101, 97, 109, 115, 98, 108, 111, 99, 107, 101, 100] : List UInt8), ())
         else
          some (([] : List UInt8), ())
abbrev Zt9 : List PE := [.val 5 (.bool) (.u false)]
def Jn (t5 : Bool) : Option (Bool × Unit) :=
 bif t5 then
  some (true, ())
 else
  some (false, ())
def Zhf (f0 : Zg) : Option (Bool × Unit) :=
 bif f0.1 == 4 then
  Jn (f0.1 == 4)
 else
  bif f0.1 == 5 then
   Jn (f0.1 == 5)
  else
   bif f0.1 == 8 then
    Jn (f0.1 == 8)
   else
    bif f0.1 == 17 then
     Jn (f0.1 == 17)
    else
     Jn (f0.1 == 21)
abbrev Qj4 : List PE := [.box 1 25 (Zr) (.u false), .box 2 25 (Zr) (.u false), .box 3 25 (Zr) (.u false), .val 41 (.bool) (.u false)]
def Zv0 (f1_1 : Zg) (t2_1 : Zg) (out3_1 : Zg) (t41 : Bool) : Option (Zg × Unit) :=
 bif t41 then
  some ((out3_1.1, (out3_1.2.1, (out3_1.2.2.1, (out3_1.2.2.2.1, (out3_1.2.2.2.2.1, (out3_1.2.2.2.2.2.1, (f1_1.2.2.2.2.2.2.1, (out3_1.2.2.2.2.2.2.2.1, (f1_1.2.2.2.2.2.2.2.2.1, out3_1.2.2.2.2.2.2.2.2.2))))))))), ())
 else
  some ((out3_1.1, (out3_1.2.1, (out3_1.2.2.1, (out3_1.2.2.2.1, (out3_1.2.2.2.2.1, (out3_1.2.2.2.2.2.1, (f1_1.2.2.2.2.2.2.1, out3_1.2.2.2.2.2.2.2))))))), ())
abbrev Qj3 : List PE := [.box 1 25 (Zr) (.u false), .box 2 25 (Zr) (.u false), .box 3 25 (Zr) (.u false)]
def Zvz (f1 : Zg) (t2 : Zg) (out3 : Zg) : Option (Zg × Unit) :=
 bif f1.1 == 4 then
  some ((out3.1, (out3.2.1, (out3.2.2.1, (out3.2.2.2.1, (out3.2.2.2.2.1, (f1.2.2.2.2.2.1, (out3.2.2.2.2.2.2.1, (f1.2.2.2.2.2.2.2.1, out3.2.2.2.2.2.2.2.2)))))))), ())
 else
  bif f1.1 == 5 then
   some ((out3.1, (out3.2.1, (out3.2.2.1, (out3.2.2.2.1, (out3.2.2.2.2.1, (f1.2.2.2.2.2.1, out3.2.2.2.2.2.2)))))), ())
  else
   bif f1.1 == 8 then
    some ((out3.1, (out3.2.1, (f1.2.2.1, (f1.2.2.2.1, (f1.2.2.2.2.1, out3.2.2.2.2.2))))), ())
   else
    bif f1.1 == 18 then
     Zv0 f1 t2 out3 (f1.1 == 18)
    else
     Zv0 f1 t2 out3 (f1.1 == 22)
def Qb2 (f0 : Zg) : Option (Zg × Unit) :=
 (Zhf f0).bind fun t8 =>
 bif t8.1 then
  Zvz f0 Qg (f0.1, (f0.2.1, ((0 : Int), (([] : List UInt8), (false, ((0 : Int), ((0 : Int), ((0 : Int), (false, ())))))))))
 else
  Zvz f0 Qg (f0.1, ((0 : Int), ((0 : Int), (([] : List UInt8), (false, ((0 : Int), ((0 : Int), ((0 : Int), (false, ())))))))))
def Z3 (n0 : Int) (low1 : Int) (high2 : Int) : Option (Bool × Unit) :=
 some ((decide (low1 ≤ n0)) && (decide (n0 ≤ high2)), ())
def Ye (n0 : Int) : Option (Bool × Unit) :=
 (Z3 n0 (0 : Int) (4611686018427387903 : Int)).bind fun t4 =>
 some (t4.1, ())
def Zm4 (f0 : Zg) : Option (Bool × Unit) :=
 (Zez f0.1).bind fun t5 =>
 (bif (t5.1 == ([] : List UInt8)) then some (Qg, ()) else (Qb2 f0)).bind fun t10 =>
 let t12 : Bool := (t5.1 == ([] : List UInt8)) || (!(eqV (Zr) f0 t10.1))
 (bif t12 then some (false, ()) else (Ye f0.2.1)).bind fun t16 =>
 (bif (t12 || (!t16.1)) then some (false, ()) else (Ye f0.2.2.1)).bind fun t22 =>
 let t24 : Bool := (t12 || (!t16.1)) || (!t22.1)
 (bif t24 then some (false, ()) else (Ye f0.2.2.2.2.2.1)).bind fun t28 =>
 (bif (t24 || (!t28.1)) then some (false, ()) else (Ye f0.2.2.2.2.2.2.1)).bind fun t34 =>
 let t36 : Bool := (t24 || (!t28.1)) || (!t34.1)
 (bif t36 then some (false, ()) else (Ye f0.2.2.2.2.2.2.2.1)).bind fun t40 =>
 bif t36 || (!t40.1) then
  some (false, ())
 else
  bif (f0.1 == 18) || (f0.1 == 22) then
   some (decide (f0.2.2.2.2.2.2.1 ≤ (1152921504606846976 : Int)), ())
  else
   some ((decide ((f0.2.2.2.1.length : Int) ≤ (400 : Int))) && (decide (f0.2.2.1 ≤ (IntKind.i64.wrap ((4611686018427387903 : Int) - (f0.2.2.2.1.length : Int))))), ())
def Zvy (f0 : Zg) : Option (Bool × Unit) :=
 some (((((decide (f0.2.1 ≤ (999999999 : Int))) && (decide (f0.2.2.1 ≤ (999999999 : Int)))) && (decide (f0.2.2.2.2.2.1 ≤ (999999999 : Int)))) && (decide (f0.2.2.2.2.2.2.1 ≤ (999999999 : Int)))) && (decide (f0.2.2.2.2.2.2.2.1 ≤ (999999999 : Int))), ())
def Zn4 (n : Int) : Option (List UInt8 × Unit) := Zb (-9223372036854775808 ≤ n ∧ n ≤ 9223372036854775807) (some (Go.Lib.itoa n, ()))
def Ql (n0 : Int) : Option (List UInt8 × Unit) :=
 (Zn4 n0).bind fun t4 =>
 some (t4.1, ())
abbrev Z17 : List PE := [.val 0 (.str) (.u false), .val 3 (.slice 5 (.int .u8)) (.u true), .val 4 (.int .i64) (.u false)]
def Zhd (s0_1 : List UInt8) (out3 : List Int) (i4 : Int) : Nat := ((s0_1.length : Int) - i4).toNat + 1
def Zd5 : Nat → List UInt8 → List Int → Int → Option (List UInt8 × Unit)
 | 0, _, _, _ => none
 | N + 1, s0_1, out3, i4 =>
  bif decide (i4 < (s0_1.length : Int)) then
   Zb (0 ≤ i4 ∧ i4 < s0_1.length) <|
   Zb ((16 : Int) ≠ 0) <|
   let t16 : Int := IntKind.u8.wrap (Int.tdiv ((s0_1.getD i4.toNat 0).toNat : Int) (16 : Int))
   Zb (0 ≤ t16 ∧ t16 < ([48, 49, 50, 51, 52, 53, 54, 55, 56, 57, 97, 98, 99, 100, 101, 102] : List UInt8).length) <|
   Zb (0 ≤ i4 ∧ i4 < s0_1.length) <|
   Zb ((16 : Int) ≠ 0) <|
   let t21 : Int := Int.tmod ((s0_1.getD i4.toNat 0).toNat : Int) (16 : Int)
   Zb (0 ≤ t21 ∧ t21 < ([48, 49, 50, 51, 52, 53, 54, 55, 56, 57, 97, 98, 99, 100, 101, 102] : List UInt8).length) <|
   let t23 : List Int := [((([48, 49, 50, 51, 52, 53, 54, 55, 56, 57, 97, 98, 99, 100, 101, 102] : List UInt8).getD t16.toNat 0).toNat : Int), ((([48, 49, 50, 51, 52, 53, 54, 55, 56, 57, 97, 98, 99, 100, 101, 102] : List UInt8).getD t21.toNat 0).toNat : Int)]
   Zb (out3.length + t23.length ≤ Qp) <|
   Zd5 N s0_1 (out3 ++ t23) (IntKind.i64.wrap (i4 + 1))
  else
   some (Z6 out3, ())
def Zm3 (s0 : List UInt8) : Option (List UInt8 × Unit) :=
 Zd5 (Zhd s0 ([] : List Int) (0 : Int)) s0 ([] : List Int) (0 : Int)
def Zuc (ok0 : Bool) (yes1 : List UInt8) (no2 : List UInt8) : Option (List UInt8 × Unit) :=
 bif ok0 then
  some (yes1, ())
 else
  some (no2, ())
def Vy (l : List (List UInt8)) (sep : List UInt8) : Option (List UInt8 × Unit) := Zb (l.length ≤ 140737488355328 ∧ (Go.Lib.join l sep).length ≤ 140737488355328) (some (Go.Lib.join l sep, ()))
abbrev Zxk : List PE := [.val 3 (.slice 9 (.str)) (.u true)]
def Zbk (words3_2 : List (List UInt8)) : Option (List UInt8 × Unit) :=
 (Vy words3_2 ([32] : List UInt8)).bind fun t83 =>
 some (t83.1, ())
abbrev Zxj : List PE := [.box 1 25 (Zr) (.u false), .val 3 (.slice 9 (.str)) (.u true)]
def Ja (f1_1 : Zg) (words3_1 : List (List UInt8)) : Option (List UInt8 × Unit) :=
 bif (f1_1.1 == 18) || (f1_1.1 == 22) then
  (Zuc f1_1.2.2.2.2.2.2.2.2.1 ([117, 110, 105] : List UInt8) ([98, 105, 100, 105] : List UInt8)).bind fun t79 =>
  Zb (words3_1.length + ([t79.1]).length ≤ Qp) <|
  Zbk (words3_1 ++ ([t79.1]))
 else
  Zbk words3_1
abbrev Zxi : List PE := [.box 1 25 (Zr) (.u false), .val 3 (.slice 9 (.str)) (.u true)]
def Ze9 (f1 : Zg) (words3 : List (List UInt8)) : Option (List UInt8 × Unit) :=
 bif f1.1 == 4 then
  (Ql f1.2.2.2.2.2.1).bind fun t37 =>
  (Ql f1.2.2.2.2.2.2.2.1).bind fun t40 =>
  Zb (words3.length + ([t37.1, t40.1]).length ≤ Qp) <|
  Ja f1 (words3 ++ ([t37.1, t40.1]))
 else
  bif f1.1 == 5 then
   (Ql f1.2.2.2.2.2.1).bind fun t48 =>
   Zb (words3.length + ([t48.1]).length ≤ Qp) <|
   Ja f1 (words3 ++ ([t48.1]))
  else
   bif f1.1 == 8 then
    (Ql f1.2.2.1).bind fun t56 =>
    (Zm3 f1.2.2.2.1).bind fun t59 =>
    Zb (([120] : List UInt8).length + t59.1.length ≤ Z5) <|
    Zb (words3.length + ([t56.1, (([120] : List UInt8) ++ t59.1)]).length ≤ Qp) <|
    let t62 : List (List UInt8) := words3 ++ ([t56.1, (([120] : List UInt8) ++ t59.1)])
    bif f1.2.2.2.2.1 then
     Zb (t62.length + ([([102, 105, 110] : List UInt8)]).length ≤ Qp) <|
     Ja f1 (t62 ++ ([([102, 105, 110] : List UInt8)]))
    else
     Ja f1 t62
   else
    (Ql f1.2.2.2.2.2.2.1).bind fun t29 =>
    Zb (words3.length + ([t29.1]).length ≤ Qp) <|
    Ja f1 (words3 ++ ([t29.1]))
def J8 (f0 : Zg) : Option (List UInt8 × Unit) :=
 (Zm4 f0).bind fun t5 =>
 (bif (!t5.1) then some (false, ()) else (Zvy f0)).bind fun t9 =>
 bif (!t5.1) || (!t9.1) then
  some (([] : List UInt8), ())
 else
  (Zez f0.1).bind fun t14 =>
  (Zhf f0).bind fun t17 =>
  bif t17.1 then
   (Ql f0.2.1).bind fun t21 =>
   Zb (([t14.1]).length + ([t21.1]).length ≤ Qp) <|
   Ze9 f0 (([t14.1]) ++ ([t21.1]))
  else
   Ze9 f0 ([t14.1])
def Ztv (s p : List UInt8) : Option (List (List UInt8) × Unit) := Zb (s.length < 4294967281 ∧ 1 ≤ p.length) (some (Go.Lib.splitK p 0 (Go.Lib.count s p) s, ()))
abbrev Qb1 : List PE := [.val 0 (.str) (.u false), .val 3 (.int .i64) (.u false)]
def Zqh (name0_1 : List UInt8) (kind3 : Int) : Nat := ((22 : Int) - kind3).toNat + 2
def Vn : Nat → List UInt8 → Int → Option (Int × Unit)
 | 0, _, _ => none
 | N + 1, name0_1, kind3 =>
  bif decide (kind3 ≤ (22 : Int)) then
   (bif (!(name0_1 == ([] : List UInt8))) then (Zez kind3) else some (([] : List UInt8), ())).bind fun t12 =>
   bif (!(name0_1 == ([] : List UInt8))) && (t12.1 == name0_1) then
    some (kind3, ())
   else
    Vn N name0_1 (IntKind.i64.wrap (kind3 + 1))
  else
   some ((0 : Int), ())
def Zsk (name0 : List UInt8) : Option (Int × Unit) :=
 Vn (Zqh name0 (4 : Int)) name0 (4 : Int)
def Zwx (s : List UInt8) : Option (Int × Bool × Unit) := Zb (s.length ≤ 18) (some ((Go.Lib.atoi s).getD 0, (Go.Lib.atoi s).isSome, ()))
def Qu (s0 : List UInt8) : Option (Int × Bool × Unit) :=
 bif decide ((s0.length : Int) > (10 : Int)) then
  some ((0 : Int), false, ())
 else
  (Zwx s0).bind fun t11 =>
  (bif (!t11.2.1) then some (([] : List UInt8), ()) else (Zn4 t11.1)).bind fun t18 =>
  let t21 : Bool := (!t11.2.1) || (!(t18.1 == s0))
  (bif t21 then some (false, ()) else (Z3 t11.1 (-999999999 : Int) (999999999 : Int))).bind fun t24 =>
  bif t21 || (!t24.1) then
   some ((0 : Int), false, ())
  else
   some (t11.1, true, ())
def Yy (s p : List UInt8) : Option (List UInt8 × Unit) := some (Go.Lib.trimPrefix s p, ())
def Ze0 (b0 : Int) : Option (Int × Unit) :=
 bif (decide ((48 : Int) ≤ b0)) && (decide (b0 ≤ (57 : Int))) then
  some (IntKind.i64.wrap (IntKind.u8.wrap (b0 - 48)), ())
 else
  bif (decide ((97 : Int) ≤ b0)) && (decide (b0 ≤ (102 : Int))) then
   some (IntKind.i64.wrap ((IntKind.i64.wrap (IntKind.u8.wrap (b0 - 97))) + 10), ())
  else
   some ((-1 : Int), ())
abbrev Z16 : List PE := [.val 0 (.str) (.u false), .val 4 (.slice 5 (.int .u8)) (.u true), .val 5 (.int .i64) (.u false)]
def Zhc (s0_1 : List UInt8) (out4 : List Int) (i5 : Int) : Nat := ((s0_1.length : Int) - i5).toNat + 1
def Zaz : Nat → List UInt8 → List Int → Int → Option (List UInt8 × Bool × Unit)
 | 0, _, _, _ => none
 | N + 1, s0_1, out4, i5 =>
  bif decide (i5 < (s0_1.length : Int)) then
   Zb (0 ≤ i5 ∧ i5 < s0_1.length) <|
   Zb (0 ≤ (IntKind.i64.wrap (i5 + 1)) ∧ (IntKind.i64.wrap (i5 + 1)) < s0_1.length) <|
   (Ze0 ((s0_1.getD i5.toNat 0).toNat : Int)).bind fun t22 =>
   (Ze0 ((s0_1.getD (IntKind.i64.wrap (i5 + 1)).toNat 0).toNat : Int)).bind fun t27 =>
   bif (decide (t22.1 < (0 : Int))) || (decide (t27.1 < (0 : Int))) then
    some (([] : List UInt8), false, ())
   else
    let t40 : List Int := [(IntKind.u8.wrap (IntKind.i64.wrap ((IntKind.i64.wrap ((16 : Int) * t22.1)) + t27.1)))]
    Zb (out4.length + t40.length ≤ Qp) <|
    Zaz N s0_1 (out4 ++ t40) (IntKind.i64.wrap (i5 + 2))
  else
   some (Z6 out4, true, ())
def Js (s0 : List UInt8) : Option (List UInt8 × Bool × Unit) :=
 Zb ((2 : Int) ≠ 0) <|
 bif (Int.tmod (s0.length : Int) (2 : Int)) != 0 then
  some (([] : List UInt8), false, ())
 else
  Zaz (Zhc s0 ([] : List Int) (0 : Int)) s0 ([] : List Int) (0 : Int)
abbrev Zy1 : List PE := [.val 0 (.str) (.u false), .box 2 25 (Zr) (.u false), .box 5 25 (Zr) (.u false), .val 7 (.slice 9 (.str)) (.u false)]
def Z0 (s0_1 : List UInt8) (t2 : Zg) (f5 : Zg) (rest7 : List (List UInt8)) : Option (Zg × Bool × Unit) :=
 let t106 : Bool := ((f5.1 == 18) || (f5.1 == 22)) && ((rest7.length : Int) == (1 : Int))
 Zb ((t106 = true → (0 ≤ (0 : Int) ∧ (0 : Int) < rest7.length))) <|
 let t112 : Bool := t106 && ((rest7.getD (0 : Int).toNat ([] : List UInt8)) == ([117, 110, 105] : List UInt8))
 Option.bind (bif (s0_1 == ([] : List UInt8)) then some (([] : List UInt8), ()) else (J8 (f5.1, (f5.2.1, (f5.2.2.1, (f5.2.2.2.1, (f5.2.2.2.2.1, (f5.2.2.2.2.2.1, (f5.2.2.2.2.2.2.1, (f5.2.2.2.2.2.2.2.1, (t112, f5.2.2.2.2.2.2.2.2.2))))))))))) fun t118 =>
 bif (s0_1 == ([] : List UInt8)) || (!(t118.1 == s0_1)) then
  some (Qg, false, ())
 else
  some ((f5.1, (f5.2.1, (f5.2.2.1, (f5.2.2.2.1, (f5.2.2.2.2.1, (f5.2.2.2.2.2.1, (f5.2.2.2.2.2.2.1, (f5.2.2.2.2.2.2.2.1, (t112, f5.2.2.2.2.2.2.2.2.2))))))))), true, ())
def Zdy (s0 : List UInt8) : Option (Zg × Bool × Unit) :=
 (Ztv s0 ([32] : List UInt8)).bind fun t13 =>
 Zb (0 ≤ (0 : Int) ∧ (0 : Int) < t13.1.length) <|
 (Zsk (t13.1.getD (0 : Int).toNat ([] : List UInt8))).bind fun t17 =>
 bif t17.1 == 4 then
  Zb (0 ≤ (1 : Int) ∧ (1 : Int) ≤ (t13.1.length : Int) ∧ (t13.1.length : Int) ≤ t13.1.length) <|
  let t46 : List (List UInt8) := (t13.1.drop (1 : Int).toNat).take ((t13.1.length : Int).toNat - (1 : Int).toNat)
  bif (t46.length : Int) == (0 : Int) then
   some (Qg, false, ())
  else
   Zb (0 ≤ (0 : Int) ∧ (0 : Int) < t46.length) <|
   (Qu (t46.getD (0 : Int).toNat ([] : List UInt8))).bind fun t61 =>
   bif !t61.2.1 then
    some (Qg, false, ())
   else
    Qf 1 (
     Zb (0 ≤ (1 : Int) ∧ (1 : Int) ≤ (t46.length : Int) ∧ (t46.length : Int) ≤ t46.length) <|
     let t70 : List (List UInt8) := (t46.drop (1 : Int).toNat).take ((t46.length : Int).toNat - (1 : Int).toNat)
     bif (t70.length : Int) == (0 : Int) then
      some (Qg, false, ())
     else
      Zb (0 ≤ (0 : Int) ∧ (0 : Int) < t70.length) <|
      (Qu (t70.getD (0 : Int).toNat ([] : List UInt8))).bind fun t61_1 =>
      bif !t61_1.2.1 then
       some (Qg, false, ())
      else
       Qf 1 (
        Zb (0 ≤ (1 : Int) ∧ (1 : Int) ≤ (t70.length : Int) ∧ (t70.length : Int) ≤ t70.length) <|
        let t70_1 : List (List UInt8) := (t70.drop (1 : Int).toNat).take ((t70.length : Int).toNat - (1 : Int).toNat)
        bif (t70_1.length : Int) == (0 : Int) then
         some (Qg, false, ())
        else
         Zb (0 ≤ (0 : Int) ∧ (0 : Int) < t70_1.length) <|
         (Qu (t70_1.getD (0 : Int).toNat ([] : List UInt8))).bind fun t61_2 =>
         bif !t61_2.2.1 then
          some (Qg, false, ())
         else
          Qf 1 (
           Zb (0 ≤ (1 : Int) ∧ (1 : Int) ≤ (t70_1.length : Int) ∧ (t70_1.length : Int) ≤ t70_1.length) <|
           let t70_2 : List (List UInt8) := (t70_1.drop (1 : Int).toNat).take ((t70_1.length : Int).toNat - (1 : Int).toNat)
           let t80 : Bool := (t17.1 == 8) && (decide ((t70_2.length : Int) > (0 : Int)))
           bif t80 then
            Zb (0 ≤ (0 : Int) ∧ (0 : Int) < t70_2.length) <|
            (Yy (t70_2.getD (0 : Int).toNat ([] : List UInt8)) ([120] : List UInt8)).bind fun t85 =>
            (Js t85.1).bind fun t86 =>
            Z0 s0 Qg (t17.1, (t61.1, ((0 : Int), (t86.1, ((t70_2.length : Int) == (2 : Int), (t61_1.1, ((0 : Int), (t61_2.1, (false, ()))))))))) t70_2
           else
            Z0 s0 Qg (t17.1, (t61.1, ((0 : Int), (([] : List UInt8), (false, (t61_1.1, ((0 : Int), (t61_2.1, (false, ()))))))))) t70_2
          )
       )
    )
 else
  bif t17.1 == 5 then
   Zb (0 ≤ (1 : Int) ∧ (1 : Int) ≤ (t13.1.length : Int) ∧ (t13.1.length : Int) ≤ t13.1.length) <|
   let t46_1 : List (List UInt8) := (t13.1.drop (1 : Int).toNat).take ((t13.1.length : Int).toNat - (1 : Int).toNat)
   bif (t46_1.length : Int) == (0 : Int) then
    some (Qg, false, ())
   else
    Zb (0 ≤ (0 : Int) ∧ (0 : Int) < t46_1.length) <|
    (Qu (t46_1.getD (0 : Int).toNat ([] : List UInt8))).bind fun t61_3 =>
    bif !t61_3.2.1 then
     some (Qg, false, ())
    else
     Qf 1 (
      Zb (0 ≤ (1 : Int) ∧ (1 : Int) ≤ (t46_1.length : Int) ∧ (t46_1.length : Int) ≤ t46_1.length) <|
      let t70_3 : List (List UInt8) := (t46_1.drop (1 : Int).toNat).take ((t46_1.length : Int).toNat - (1 : Int).toNat)
      bif (t70_3.length : Int) == (0 : Int) then
       some (Qg, false, ())
      else
       Zb (0 ≤ (0 : Int) ∧ (0 : Int) < t70_3.length) <|
       (Qu (t70_3.getD (0 : Int).toNat ([] : List UInt8))).bind fun t61_4 =>
       bif !t61_4.2.1 then
        some (Qg, false, ())
       else
        Qf 1 (
         Zb (0 ≤ (1 : Int) ∧ (1 : Int) ≤ (t70_3.length : Int) ∧ (t70_3.length : Int) ≤ t70_3.length) <|
         let t70_4 : List (List UInt8) := (t70_3.drop (1 : Int).toNat).take ((t70_3.length : Int).toNat - (1 : Int).toNat)
         let t80_1 : Bool := (t17.1 == 8) && (decide ((t70_4.length : Int) > (0 : Int)))
         bif t80_1 then
          Zb (0 ≤ (0 : Int) ∧ (0 : Int) < t70_4.length) <|
          (Yy (t70_4.getD (0 : Int).toNat ([] : List UInt8)) ([120] : List UInt8)).bind fun t85_1 =>
          (Js t85_1.1).bind fun t86_1 =>
          Z0 s0 Qg (t17.1, (t61_3.1, ((0 : Int), (t86_1.1, ((t70_4.length : Int) == (2 : Int), (t61_4.1, ((0 : Int), ((0 : Int), (false, ()))))))))) t70_4
         else
          Z0 s0 Qg (t17.1, (t61_3.1, ((0 : Int), (([] : List UInt8), (false, (t61_4.1, ((0 : Int), ((0 : Int), (false, ()))))))))) t70_4
        )
     )
  else
   bif t17.1 == 8 then
    Zb (0 ≤ (1 : Int) ∧ (1 : Int) ≤ (t13.1.length : Int) ∧ (t13.1.length : Int) ≤ t13.1.length) <|
    let t46_2 : List (List UInt8) := (t13.1.drop (1 : Int).toNat).take ((t13.1.length : Int).toNat - (1 : Int).toNat)
    bif (t46_2.length : Int) == (0 : Int) then
     some (Qg, false, ())
    else
     Zb (0 ≤ (0 : Int) ∧ (0 : Int) < t46_2.length) <|
     (Qu (t46_2.getD (0 : Int).toNat ([] : List UInt8))).bind fun t61_5 =>
     bif !t61_5.2.1 then
      some (Qg, false, ())
     else
      Qf 1 (
       Zb (0 ≤ (1 : Int) ∧ (1 : Int) ≤ (t46_2.length : Int) ∧ (t46_2.length : Int) ≤ t46_2.length) <|
       let t70_5 : List (List UInt8) := (t46_2.drop (1 : Int).toNat).take ((t46_2.length : Int).toNat - (1 : Int).toNat)
       bif (t70_5.length : Int) == (0 : Int) then
        some (Qg, false, ())
       else
        Zb (0 ≤ (0 : Int) ∧ (0 : Int) < t70_5.length) <|
        (Qu (t70_5.getD (0 : Int).toNat ([] : List UInt8))).bind fun t61_6 =>
        bif !t61_6.2.1 then
         some (Qg, false, ())
        else
         Qf 1 (
          Zb (0 ≤ (1 : Int) ∧ (1 : Int) ≤ (t70_5.length : Int) ∧ (t70_5.length : Int) ≤ t70_5.length) <|
          let t70_6 : List (List UInt8) := (t70_5.drop (1 : Int).toNat).take ((t70_5.length : Int).toNat - (1 : Int).toNat)
          let t80_2 : Bool := (t17.1 == 8) && (decide ((t70_6.length : Int) > (0 : Int)))
          bif t80_2 then
           Zb (0 ≤ (0 : Int) ∧ (0 : Int) < t70_6.length) <|
           (Yy (t70_6.getD (0 : Int).toNat ([] : List UInt8)) ([120] : List UInt8)).bind fun t85_2 =>
           (Js t85_2.1).bind fun t86_2 =>
           Z0 s0 Qg (t17.1, (t61_5.1, (t61_6.1, (t86_2.1, ((t70_6.length : Int) == (2 : Int), ((0 : Int), ((0 : Int), ((0 : Int), (false, ()))))))))) t70_6
          else
           Z0 s0 Qg (t17.1, (t61_5.1, (t61_6.1, (([] : List UInt8), (false, ((0 : Int), ((0 : Int), ((0 : Int), (false, ()))))))))) t70_6
         )
      )
   else
    bif t17.1 == 17 then
     bif t17.1 == 17 then
      Zb (0 ≤ (1 : Int) ∧ (1 : Int) ≤ (t13.1.length : Int) ∧ (t13.1.length : Int) ≤ t13.1.length) <|
      let t46_3 : List (List UInt8) := (t13.1.drop (1 : Int).toNat).take ((t13.1.length : Int).toNat - (1 : Int).toNat)
      bif (t46_3.length : Int) == (0 : Int) then
       some (Qg, false, ())
      else
       Zb (0 ≤ (0 : Int) ∧ (0 : Int) < t46_3.length) <|
       (Qu (t46_3.getD (0 : Int).toNat ([] : List UInt8))).bind fun t61_7 =>
       bif !t61_7.2.1 then
        some (Qg, false, ())
       else
        Qf 1 (
         Zb (0 ≤ (1 : Int) ∧ (1 : Int) ≤ (t46_3.length : Int) ∧ (t46_3.length : Int) ≤ t46_3.length) <|
         let t70_7 : List (List UInt8) := (t46_3.drop (1 : Int).toNat).take ((t46_3.length : Int).toNat - (1 : Int).toNat)
         bif (t70_7.length : Int) == (0 : Int) then
          some (Qg, false, ())
         else
          Zb (0 ≤ (0 : Int) ∧ (0 : Int) < t70_7.length) <|
          (Qu (t70_7.getD (0 : Int).toNat ([] : List UInt8))).bind fun t61_8 =>
          bif !t61_8.2.1 then
           some (Qg, false, ())
          else
           Qf 1 (
            Zb (0 ≤ (1 : Int) ∧ (1 : Int) ≤ (t70_7.length : Int) ∧ (t70_7.length : Int) ≤ t70_7.length) <|
            let t70_8 : List (List UInt8) := (t70_7.drop (1 : Int).toNat).take ((t70_7.length : Int).toNat - (1 : Int).toNat)
            let t80_3 : Bool := (t17.1 == 8) && (decide ((t70_8.length : Int) > (0 : Int)))
            bif t80_3 then
             Zb (0 ≤ (0 : Int) ∧ (0 : Int) < t70_8.length) <|
             (Yy (t70_8.getD (0 : Int).toNat ([] : List UInt8)) ([120] : List UInt8)).bind fun t85_3 =>
             (Js t85_3.1).bind fun t86_3 =>
             Z0 s0 Qg (t17.1, (t61_7.1, ((0 : Int), (t86_3.1, ((t70_8.length : Int) == (2 : Int), ((0 : Int), (t61_8.1, ((0 : Int), (false, ()))))))))) t70_8
            else
             Z0 s0 Qg (t17.1, (t61_7.1, ((0 : Int), (([] : List UInt8), (false, ((0 : Int), (t61_8.1, ((0 : Int), (false, ()))))))))) t70_8
           )
        )
     else
      Zb (0 ≤ (1 : Int) ∧ (1 : Int) ≤ (t13.1.length : Int) ∧ (t13.1.length : Int) ≤ t13.1.length) <|
      let t46_4 : List (List UInt8) := (t13.1.drop (1 : Int).toNat).take ((t13.1.length : Int).toNat - (1 : Int).toNat)
      bif (t46_4.length : Int) == (0 : Int) then
       some (Qg, false, ())
      else
       Zb (0 ≤ (0 : Int) ∧ (0 : Int) < t46_4.length) <|
       (Qu (t46_4.getD (0 : Int).toNat ([] : List UInt8))).bind fun t61_9 =>
       bif !t61_9.2.1 then
        some (Qg, false, ())
       else
        Qf 1 (
         Zb (0 ≤ (1 : Int) ∧ (1 : Int) ≤ (t46_4.length : Int) ∧ (t46_4.length : Int) ≤ t46_4.length) <|
         let t70_9 : List (List UInt8) := (t46_4.drop (1 : Int).toNat).take ((t46_4.length : Int).toNat - (1 : Int).toNat)
         let t80_4 : Bool := (t17.1 == 8) && (decide ((t70_9.length : Int) > (0 : Int)))
         bif t80_4 then
          Zb (0 ≤ (0 : Int) ∧ (0 : Int) < t70_9.length) <|
          (Yy (t70_9.getD (0 : Int).toNat ([] : List UInt8)) ([120] : List UInt8)).bind fun t85_4 =>
          (Js t85_4.1).bind fun t86_4 =>
          Z0 s0 Qg (t17.1, ((0 : Int), ((0 : Int), (t86_4.1, ((t70_9.length : Int) == (2 : Int), ((0 : Int), (t61_9.1, ((0 : Int), (false, ()))))))))) t70_9
         else
          Z0 s0 Qg (t17.1, ((0 : Int), ((0 : Int), (([] : List UInt8), (false, ((0 : Int), (t61_9.1, ((0 : Int), (false, ()))))))))) t70_9
        )
    else
     bif t17.1 == 21 then
      Zb (0 ≤ (1 : Int) ∧ (1 : Int) ≤ (t13.1.length : Int) ∧ (t13.1.length : Int) ≤ t13.1.length) <|
      let t46_5 : List (List UInt8) := (t13.1.drop (1 : Int).toNat).take ((t13.1.length : Int).toNat - (1 : Int).toNat)
      bif (t46_5.length : Int) == (0 : Int) then
       some (Qg, false, ())
      else
       Zb (0 ≤ (0 : Int) ∧ (0 : Int) < t46_5.length) <|
       (Qu (t46_5.getD (0 : Int).toNat ([] : List UInt8))).bind fun t61_10 =>
       bif !t61_10.2.1 then
        some (Qg, false, ())
       else
        Qf 1 (
         Zb (0 ≤ (1 : Int) ∧ (1 : Int) ≤ (t46_5.length : Int) ∧ (t46_5.length : Int) ≤ t46_5.length) <|
         let t70_10 : List (List UInt8) := (t46_5.drop (1 : Int).toNat).take ((t46_5.length : Int).toNat - (1 : Int).toNat)
         bif (t70_10.length : Int) == (0 : Int) then
          some (Qg, false, ())
         else
          Zb (0 ≤ (0 : Int) ∧ (0 : Int) < t70_10.length) <|
          (Qu (t70_10.getD (0 : Int).toNat ([] : List UInt8))).bind fun t61_11 =>
          bif !t61_11.2.1 then
           some (Qg, false, ())
          else
           Qf 1 (
            Zb (0 ≤ (1 : Int) ∧ (1 : Int) ≤ (t70_10.length : Int) ∧ (t70_10.length : Int) ≤ t70_10.length) <|
            let t70_11 : List (List UInt8) := (t70_10.drop (1 : Int).toNat).take ((t70_10.length : Int).toNat - (1 : Int).toNat)
            let t80_5 : Bool := (t17.1 == 8) && (decide ((t70_11.length : Int) > (0 : Int)))
            bif t80_5 then
             Zb (0 ≤ (0 : Int) ∧ (0 : Int) < t70_11.length) <|
             (Yy (t70_11.getD (0 : Int).toNat ([] : List UInt8)) ([120] : List UInt8)).bind fun t85_5 =>
             (Js t85_5.1).bind fun t86_5 =>
             Z0 s0 Qg (t17.1, (t61_10.1, ((0 : Int), (t86_5.1, ((t70_11.length : Int) == (2 : Int), ((0 : Int), (t61_11.1, ((0 : Int), (false, ()))))))))) t70_11
            else
             Z0 s0 Qg (t17.1, (t61_10.1, ((0 : Int), (([] : List UInt8), (false, ((0 : Int), (t61_11.1, ((0 : Int), (false, ()))))))))) t70_11
           )
        )
     else
      Zb (0 ≤ (1 : Int) ∧ (1 : Int) ≤ (t13.1.length : Int) ∧ (t13.1.length : Int) ≤ t13.1.length) <|
      let t46_6 : List (List UInt8) := (t13.1.drop (1 : Int).toNat).take ((t13.1.length : Int).toNat - (1 : Int).toNat)
      bif (t46_6.length : Int) == (0 : Int) then
       some (Qg, false, ())
      else
       Zb (0 ≤ (0 : Int) ∧ (0 : Int) < t46_6.length) <|
       (Qu (t46_6.getD (0 : Int).toNat ([] : List UInt8))).bind fun t61_12 =>
       bif !t61_12.2.1 then
        some (Qg, false, ())
       else
        Qf 1 (
         Zb (0 ≤ (1 : Int) ∧ (1 : Int) ≤ (t46_6.length : Int) ∧ (t46_6.length : Int) ≤ t46_6.length) <|
         let t70_12 : List (List UInt8) := (t46_6.drop (1 : Int).toNat).take ((t46_6.length : Int).toNat - (1 : Int).toNat)
         let t80_6 : Bool := (t17.1 == 8) && (decide ((t70_12.length : Int) > (0 : Int)))
         bif t80_6 then
          Zb (0 ≤ (0 : Int) ∧ (0 : Int) < t70_12.length) <|
          (Yy (t70_12.getD (0 : Int).toNat ([] : List UInt8)) ([120] : List UInt8)).bind fun t85_6 =>
          (Js t85_6.1).bind fun t86_6 =>
          Z0 s0 Qg (t17.1, ((0 : Int), ((0 : Int), (t86_6.1, ((t70_12.length : Int) == (2 : Int), ((0 : Int), (t61_12.1, ((0 : Int), (false, ()))))))))) t70_12
         else
          Z0 s0 Qg (t17.1, ((0 : Int), ((0 : Int), (([] : List UInt8), (false, ((0 : Int), (t61_12.1, ((0 : Int), (false, ()))))))))) t70_12
        )
def Jv (kind0 : Int) : Option (List UInt8 × Unit) :=
 bif kind0 == 4 then
  some (([114, 101, 115, 101, 116] : List UInt8), ())
 else
  bif kind0 == 5 then
   some (([115, 116, 111, 112] : List UInt8), ())
  else
   bif kind0 == 8 then
    some (([115, 116, 114, 101, 97, 109] : List UInt8), ())
   else
    bif kind0 == 16 then
     some (([109, 97, 120, 100, 97, 116, 97] : List UInt8), ())
    else
     bif kind0 == 17 then
      some (([109, 97, 120, 115, 116, 114, 101, 97, 109, 100, 97, 116, 97] : List UInt8), ())
     else
      bif kind0 == 18 then
       some (([109, 97, 120, 115, 116, 114, 101, 97, 109, 115] : List UInt8), ())
      else
       bif kind0 == 20 then
        some (([100, 97, 116, 97, 98, 108, 111, 99, 107, 101, 100] : List UInt8), ())
       else
        bif kind0 == 21 then
         some (([115, 116, 114, 101, 97, 109, 100, 97, 116, 97, 98, 108, 111, 99, 107, 101, 100] : List UInt8), ())
        else
         bif kind0 == 22 then
          some (([115, 116, 114, 101, 97, 109, 115, 98, 108, 111, 99, 107, 101, 100] : List UInt8), ())
         else
          some (([] : List UInt8), ())
def Z4 (x0 : Int) (low1 : Int) (high2 : Int) : Option (Bool × Unit) :=
 some ((decide (x0 ≥ low1)) && (decide (x0 ≤ high2)), ())
def Qe (n0 : Int) : Option (Bool × Unit) :=
 (Z4 n0 (0 : Int) (4611686018427387903 : Int)).bind fun t4 =>
 some (t4.1, ())
abbrev Z9w : List PE := [.box 1 25 (Zr) (.u false), .val 60 (.bool) (.u false)]
def Zlw (f1 : Zg) (t60 : Bool) : Option (Bool × Unit) :=
 bif t60 then
  some (decide (f1.2.2.2.2.2.2.1 ≤ (1152921504606846976 : Int)), ())
 else
  some (true, ())
def Vt (f0 : Zg) : Option (Bool × Unit) :=
 (Jv f0.1).bind fun t5 =>
 (bif (t5.1 == ([] : List UInt8)) then some (Qg, ()) else (Zg9 f0)).bind fun t9 =>
 let t12 : Bool := (t5.1 == ([] : List UInt8)) || (!(eqV (Zr) t9.1 f0))
 (bif t12 then some (false, ()) else (Qe f0.2.1)).bind fun t16 =>
 (bif (t12 || (!t16.1)) then some (false, ()) else (Qe f0.2.2.1)).bind fun t22 =>
 let t24 : Bool := (t12 || (!t16.1)) || (!t22.1)
 (bif t24 then some (false, ()) else (Qe f0.2.2.2.2.2.1)).bind fun t28 =>
 (bif (t24 || (!t28.1)) then some (false, ()) else (Qe f0.2.2.2.2.2.2.1)).bind fun t34 =>
 let t36 : Bool := (t24 || (!t28.1)) || (!t34.1)
 (bif t36 then some (false, ()) else (Qe f0.2.2.2.2.2.2.2.1)).bind fun t40 =>
 bif (t36 || (!t40.1)) || (decide ((f0.2.2.2.1.length : Int) > (400 : Int))) then
  some (false, ())
 else
  bif f0.1 == 8 then
   some (decide (f0.2.2.1 ≤ (IntKind.i64.wrap ((4611686018427387903 : Int) - (f0.2.2.2.1.length : Int)))), ())
  else
   bif f0.1 == 18 then
    Zlw f0 (f0.1 == 18)
   else
    Zlw f0 (f0.1 == 22)
def Ze6 (n0 : Int) : Option (Bool × Unit) :=
 (Z4 n0 (0 : Int) (999999999 : Int)).bind fun t4 =>
 some (t4.1, ())
abbrev Z2o : List PE := [.val 0 (.int .i64) (.u false), .val 3 (.str) (.u false), .val 4 (.bool) (.u false), .val 5 (.int .i64) (.u false)]
def Za6 (K1 : (Int × List UInt8 × Bool × Unit) → Option (List UInt8 × Unit)) (n0_2 : Int) (out3_2 : List UInt8) (neg4_1 : Bool) (d5 : Int) : Option (List UInt8 × Unit) :=
 let t22 : List UInt8 := Z6 ([(IntKind.u8.wrap (IntKind.i64.wrap ((48 : Int) + d5)))])
 Zb (t22.length + out3_2.length ≤ Z5) <|
 Zb ((10 : Int) ≠ 0) <|
 K1 (IntKind.i64.wrap (Int.tdiv n0_2 (10 : Int)), t22 ++ out3_2, neg4_1, ())
abbrev Z2p : List PE := [.val 0 (.int .i64) (.u false), .val 3 (.str) (.u false), .val 4 (.bool) (.u false)]
def Zhn (n0_1 : Int) (out3_1 : List UInt8) (neg4 : Bool) : Nat := 1048577 + (n0_1.toNat - n0_1.toNat)
def Jf : Nat → Int → List UInt8 → Bool → Option (List UInt8 × Unit)
 | 0, _, _, _ => none
 | N + 1, n0_1, out3_1, neg4 =>
  bif n0_1 != 0 then
   Zb ((10 : Int) ≠ 0) <|
   bif decide ((Int.tmod n0_1 (10 : Int)) < 0) then
    Za6 (fun v => Jf N v.1 v.2.1 v.2.2.1) n0_1 out3_1 neg4 (IntKind.i64.wrap (0 - (Int.tmod n0_1 (10 : Int))))
   else
    Za6 (fun v => Jf N v.1 v.2.1 v.2.2.1) n0_1 out3_1 neg4 (Int.tmod n0_1 (10 : Int))
  else
   bif neg4 then
    Zb (([45] : List UInt8).length + out3_1.length ≤ Z5) <|
    some (([45] : List UInt8) ++ out3_1, ())
   else
    some (out3_1, ())
def Z7 (n0 : Int) : Option (List UInt8 × Unit) :=
 bif n0 == 0 then
  some (([48] : List UInt8), ())
 else
  Jf (Zhn n0 ([] : List UInt8) (decide (n0 < (0 : Int)))) n0 ([] : List UInt8) (decide (n0 < (0 : Int)))
def Zet (k0 : Int) : Option (Int × Unit) :=
 Zb (0 ≤ k0 ∧ k0 < ([48, 49, 50, 51, 52, 53, 54, 55, 56, 57, 97, 98, 99, 100, 101, 102] : List UInt8).length) <|
 some (((([48, 49, 50, 51, 52, 53, 54, 55, 56, 57, 97, 98, 99, 100, 101, 102] : List UInt8).getD k0.toNat 0).toNat : Int), ())
abbrev Z2n : List PE := [.val 0 (.str) (.u false), .val 3 (.slice 5 (.int .u8)) (.u true), .val 4 (.int .i64) (.u false)]
def Zhl (s0_1 : List UInt8) (out3 : List Int) (i4 : Int) : Nat := ((s0_1.length : Int) - i4).toNat + 1
def Zef : Nat → List UInt8 → List Int → Int → Option (List UInt8 × Unit)
 | 0, _, _, _ => none
 | N + 1, s0_1, out3, i4 =>
  bif decide (i4 < (s0_1.length : Int)) then
   Zb (0 ≤ i4 ∧ i4 < s0_1.length) <|
   Zb ((16 : Int) ≠ 0) <|
   Zb (0 ≤ i4 ∧ i4 < s0_1.length) <|
   Zb ((16 : Int) ≠ 0) <|
   (Zet (IntKind.i64.wrap (Int.tdiv (IntKind.i64.wrap ((s0_1.getD i4.toNat 0).toNat : Int)) (16 : Int)))).bind fun t18 =>
   (Zet (Int.tmod (IntKind.i64.wrap ((s0_1.getD i4.toNat 0).toNat : Int)) (16 : Int))).bind fun t24 =>
   Zb (out3.length + ([t18.1, t24.1]).length ≤ Qp) <|
   Zef N s0_1 (out3 ++ ([t18.1, t24.1])) (IntKind.i64.wrap (i4 + 1))
  else
   some (Z6 out3, ())
def Zns (s0 : List UInt8) : Option (List UInt8 × Unit) :=
 Zef (Zhl s0 ([] : List Int) (0 : Int)) s0 ([] : List Int) (0 : Int)
def Zta (is0 : Bool) : Option (List UInt8 × Unit) :=
 bif is0 then
  some (([32, 102, 105, 110] : List UInt8), ())
 else
  some (([] : List UInt8), ())
def Ztb (is0 : Bool) : Option (List UInt8 × Unit) :=
 bif is0 then
  some (([32, 117, 110, 105] : List UInt8), ())
 else
  some (([32, 98, 105, 100, 105] : List UInt8), ())
abbrev Zx1 : List PE := [.box 1 25 (Zr) (.u false), .val 3 (.str) (.u false), .val 109 (.bool) (.u false)]
def V1 (f1_1 : Zg) (s3_1 : List UInt8) (t109 : Bool) : Option (List UInt8 × Unit) :=
 bif t109 then
  Zb (s3_1.length + ([32] : List UInt8).length ≤ Z5) <|
  (Z7 f1_1.2.2.2.2.2.2.1).bind fun t116 =>
  Zb ((s3_1 ++ ([32] : List UInt8)).length + t116.1.length ≤ Z5) <|
  (Ztb f1_1.2.2.2.2.2.2.2.2.1).bind fun t120 =>
  Zb (((s3_1 ++ ([32] : List UInt8)) ++ t116.1).length + t120.1.length ≤ Z5) <|
  some (((s3_1 ++ ([32] : List UInt8)) ++ t116.1) ++ t120.1, ())
 else
  Zb (s3_1.length + ([32] : List UInt8).length ≤ Z5) <|
  (Z7 f1_1.2.2.2.2.2.2.1).bind fun t126 =>
  Zb ((s3_1 ++ ([32] : List UInt8)).length + t126.1.length ≤ Z5) <|
  some ((s3_1 ++ ([32] : List UInt8)) ++ t126.1, ())
abbrev Zx0 : List PE := [.box 1 25 (Zr) (.u false), .val 3 (.str) (.u false), .val 41 (.int .i64) (.u false), .val 95 (.bool) (.u false)]
def V0 (f1 : Zg) (s3 : List UInt8) (t41 : Int) (t95 : Bool) : Option (List UInt8 × Unit) :=
 bif t95 then
  Zb (s3.length + ([32] : List UInt8).length ≤ Z5) <|
  (Z7 f1.2.1).bind fun t102 =>
  Zb ((s3 ++ ([32] : List UInt8)).length + t102.1.length ≤ Z5) <|
  Zb (((s3 ++ ([32] : List UInt8)) ++ t102.1).length + ([32] : List UInt8).length ≤ Z5) <|
  let t104 : List UInt8 := ((s3 ++ ([32] : List UInt8)) ++ t102.1) ++ ([32] : List UInt8)
  (Z7 f1.2.2.2.2.2.2.1).bind fun t107 =>
  Zb (t104.length + t107.1.length ≤ Z5) <|
  some (t104 ++ t107.1, ())
 else
  bif t41 == 18 then
   V1 f1 s3 (t41 == 18)
  else
   V1 f1 s3 (t41 == 22)
def Xr (f0 : Zg) : Option (List UInt8 × Unit) :=
 (Vt f0).bind fun t5 =>
 (bif (!t5.1) then some (false, ()) else (Ze6 f0.2.1)).bind fun t10 =>
 (bif ((!t5.1) || (!t10.1)) then some (false, ()) else (Ze6 f0.2.2.1)).bind fun t16 =>
 let t18 : Bool := ((!t5.1) || (!t10.1)) || (!t16.1)
 (bif t18 then some (false, ()) else (Ze6 f0.2.2.2.2.2.1)).bind fun t22 =>
 (bif (t18 || (!t22.1)) then some (false, ()) else (Ze6 f0.2.2.2.2.2.2.1)).bind fun t28 =>
 let t30 : Bool := (t18 || (!t22.1)) || (!t28.1)
 (bif t30 then some (false, ()) else (Ze6 f0.2.2.2.2.2.2.2.1)).bind fun t34 =>
 bif t30 || (!t34.1) then
  some (([] : List UInt8), ())
 else
  (Jv f0.1).bind fun t39 =>
  bif f0.1 == 4 then
   Zb (t39.1.length + ([32] : List UInt8).length ≤ Z5) <|
   (Z7 f0.2.1).bind fun t48 =>
   Zb ((t39.1 ++ ([32] : List UInt8)).length + t48.1.length ≤ Z5) <|
   Zb (((t39.1 ++ ([32] : List UInt8)) ++ t48.1).length + ([32] : List UInt8).length ≤ Z5) <|
   let t50 : List UInt8 := ((t39.1 ++ ([32] : List UInt8)) ++ t48.1) ++ ([32] : List UInt8)
   (Z7 f0.2.2.2.2.2.1).bind fun t53 =>
   Zb (t50.length + t53.1.length ≤ Z5) <|
   Zb ((t50 ++ t53.1).length + ([32] : List UInt8).length ≤ Z5) <|
   (Z7 f0.2.2.2.2.2.2.2.1).bind fun t58 =>
   Zb (((t50 ++ t53.1) ++ ([32] : List UInt8)).length + t58.1.length ≤ Z5) <|
   some (((t50 ++ t53.1) ++ ([32] : List UInt8)) ++ t58.1, ())
  else
   bif f0.1 == 5 then
    Zb (t39.1.length + ([32] : List UInt8).length ≤ Z5) <|
    (Z7 f0.2.1).bind fun t66 =>
    Zb ((t39.1 ++ ([32] : List UInt8)).length + t66.1.length ≤ Z5) <|
    Zb (((t39.1 ++ ([32] : List UInt8)) ++ t66.1).length + ([32] : List UInt8).length ≤ Z5) <|
    let t68 : List UInt8 := ((t39.1 ++ ([32] : List UInt8)) ++ t66.1) ++ ([32] : List UInt8)
    (Z7 f0.2.2.2.2.2.1).bind fun t71 =>
    Zb (t68.length + t71.1.length ≤ Z5) <|
    some (t68 ++ t71.1, ())
   else
    bif f0.1 == 8 then
     Zb (t39.1.length + ([32] : List UInt8).length ≤ Z5) <|
     (Z7 f0.2.1).bind fun t79 =>
     Zb ((t39.1 ++ ([32] : List UInt8)).length + t79.1.length ≤ Z5) <|
     Zb (((t39.1 ++ ([32] : List UInt8)) ++ t79.1).length + ([32] : List UInt8).length ≤ Z5) <|
     let t81 : List UInt8 := ((t39.1 ++ ([32] : List UInt8)) ++ t79.1) ++ ([32] : List UInt8)
     (Z7 f0.2.2.1).bind fun t84 =>
     Zb (t81.length + t84.1.length ≤ Z5) <|
     Zb ((t81 ++ t84.1).length + ([32, 120] : List UInt8).length ≤ Z5) <|
     let t86 : List UInt8 := (t81 ++ t84.1) ++ ([32, 120] : List UInt8)
     (Zns f0.2.2.2.1).bind fun t89 =>
     Zb (t86.length + t89.1.length ≤ Z5) <|
     (Zta f0.2.2.2.2.1).bind fun t93 =>
     Zb ((t86 ++ t89.1).length + t93.1.length ≤ Z5) <|
     some ((t86 ++ t89.1) ++ t93.1, ())
    else
     bif f0.1 == 17 then
      V0 f0 t39.1 f0.1 (f0.1 == 17)
     else
      V0 f0 t39.1 f0.1 (f0.1 == 21)
abbrev Qdq : List PE := [.box 0 110 (Xg) (.u false), .val 5 (.slice 5 (.int .u8)) (.u true), .val 6 (.int .i64) (.u false), .val 7 (.int .i64) (.u false), .val 8 (.int .i64) (.u false)]
def Zj4 (K1 : (Zw × List Int × Int × Int × Unit) → Option ((List UInt8 × Unit) × (Zw × Unit))) (c0_3 : Zw) (out5_2 : List Int) (style6_2 : Int) (n7_2 : Int) (b8_1 : Int) : Option ((List UInt8 × Unit) × (Zw × Unit)) :=
 Zb (out5_2.length + ([(IntKind.u8.wrap b8_1)]).length ≤ Qp) <|
 K1 (c0_3, out5_2 ++ ([(IntKind.u8.wrap b8_1)]), style6_2, IntKind.i64.wrap (n7_2 - 1), ())
abbrev Qdp : List PE := [.box 0 110 (Xg) (.u false), .val 5 (.slice 5 (.int .u8)) (.u true), .val 6 (.int .i64) (.u false), .val 7 (.int .i64) (.u false), .val 8 (.int .i64) (.u false)]
def Zj3 (K1 : (Zw × List Int × Int × Int × Unit) → Option ((List UInt8 × Unit) × (Zw × Unit))) (c0_2 : Zw) (out5_1 : List Int) (style6_1 : Int) (n7_1 : Int) (b8 : Int) : Option ((List UInt8 × Unit) × (Zw × Unit)) :=
 bif style6_1 == 2 then
  Zb ((4 : Int) ≠ 0) <|
  Zj4 K1 c0_2 out5_1 style6_1 n7_1 (IntKind.i64.wrap ((97 : Int) + (Int.tmod b8 (4 : Int))))
 else
  Zj4 K1 c0_2 out5_1 style6_1 n7_1 b8
abbrev Qdr : List PE := [.box 0 110 (Xg) (.u false), .val 5 (.slice 5 (.int .u8)) (.u true), .val 6 (.int .i64) (.u false), .val 7 (.int .i64) (.u false)]
def Zkz (c0_1 : Zw) (out5 : List Int) (style6 : Int) (n7 : Int) : Nat := (n7 - 0).toNat + 1
def Zau : Nat → Zw → List Int → Int → Int → Option ((List UInt8 × Unit) × (Zw × Unit))
 | 0, _, _, _, _ => none
 | N + 1, c0_1, out5, style6, n7 =>
  bif decide (n7 > (0 : Int)) then
   (Kv c0_1).bind fun t21 =>
   bif style6 == 1 then
    Zb ((2 : Int) ≠ 0) <|
    Zj3 (fun v => Zau N v.1 v.2.1 v.2.2.1 v.2.2.2.1) t21.2.1 out5 style6 n7 (Int.tmod t21.1.1 (2 : Int))
   else
    Zj3 (fun v => Zau N v.1 v.2.1 v.2.2.1 v.2.2.2.1) t21.2.1 out5 style6 n7 t21.1.1
  else
   some ((Z6 out5, ()), (c0_1, ()))
def Zs6 (c0 : Zw) (most1 : Int) : Option ((List UInt8 × Unit) × (Zw × Unit)) :=
 (Zv c0 (4 : Int)).bind fun t11 =>
 (Zv t11.2.1 (IntKind.i64.wrap (most1 + 1))).bind fun t15 =>
 Zau (Zkz t15.2.1 ([] : List Int) t11.1.1 t15.1.1) t15.2.1 ([] : List Int) t11.1.1 t15.1.1
def Zq6 (c0 : Zw) (s1 : List UInt8) : Option ((List UInt8 × Unit) × (Zw × Unit)) :=
 bif (s1.length : Int) == (0 : Int) then
  (Zs6 c0 (3 : Int)).bind fun t10 =>
  some ((t10.1.1, ()), (t10.2.1, ()))
 else
  (Zv c0 (s1.length : Int)).bind fun t14 =>
  (Zv t14.2.1 (4 : Int)).bind fun t16 =>
  bif t16.1.1 == 0 then
   Z9 (
    Zb (0 ≤ (0 : Int) ∧ (0 : Int) ≤ t14.1.1 ∧ t14.1.1 ≤ s1.length) <|
    let t21 : List UInt8 := (s1.drop (0 : Int).toNat).take (t14.1.1.toNat - (0 : Int).toNat)
    Zb (0 ≤ (IntKind.i64.wrap (t14.1.1 + 1)) ∧ (IntKind.i64.wrap (t14.1.1 + 1)) ≤ (s1.length : Int) ∧ (s1.length : Int) ≤ s1.length) <|
    let t25 : List UInt8 := (s1.drop (IntKind.i64.wrap (t14.1.1 + 1)).toNat).take ((s1.length : Int).toNat - (IntKind.i64.wrap (t14.1.1 + 1)).toNat)
    Zb (t21.length + t25.length ≤ Z5) <|
    some ((t21 ++ t25, ()), (t16.2.1, ()))
   ) (
    Zb (0 ≤ (IntKind.i64.wrap (t14.1.1 + 1)) ∧ (IntKind.i64.wrap (t14.1.1 + 1)) ≤ (s1.length : Int) ∧ (s1.length : Int) ≤ s1.length) <|
    let t25 : List UInt8 := (s1.drop (IntKind.i64.wrap (t14.1.1 + 1)).toNat).take ((s1.length : Int).toNat - (IntKind.i64.wrap (t14.1.1 + 1)).toNat)
    Zb (0 ≤ (0 : Int) ∧ (0 : Int) ≤ t14.1.1 ∧ t14.1.1 ≤ s1.length) <|
    let t21 : List UInt8 := (s1.drop (0 : Int).toNat).take (t14.1.1.toNat - (0 : Int).toNat)
    Zb (t21.length + t25.length ≤ Z5) <|
    some ((t21 ++ t25, ()), (t16.2.1, ()))
   )
  else
   bif t16.1.1 == 1 then
    Z9 (
     Zb (0 ≤ (0 : Int) ∧ (0 : Int) ≤ t14.1.1 ∧ t14.1.1 ≤ s1.length) <|
     let t31 : List UInt8 := (s1.drop (0 : Int).toNat).take (t14.1.1.toNat - (0 : Int).toNat)
     Z9 (
      (Kv t16.2.1).bind fun t33 =>
      Z9 (
       Zb (t31.length + (Z6 ([(IntKind.u8.wrap t33.1.1)])).length ≤ Z5) <|
       let t37 : List UInt8 := t31 ++ (Z6 ([(IntKind.u8.wrap t33.1.1)]))
       Zb (0 ≤ t14.1.1 ∧ t14.1.1 ≤ (s1.length : Int) ∧ (s1.length : Int) ≤ s1.length) <|
       let t40 : List UInt8 := (s1.drop t14.1.1.toNat).take ((s1.length : Int).toNat - t14.1.1.toNat)
       Zb (t37.length + t40.length ≤ Z5) <|
       some ((t37 ++ t40, ()), (t33.2.1, ()))
      ) (
       Zb (0 ≤ t14.1.1 ∧ t14.1.1 ≤ (s1.length : Int) ∧ (s1.length : Int) ≤ s1.length) <|
       let t40 : List UInt8 := (s1.drop t14.1.1.toNat).take ((s1.length : Int).toNat - t14.1.1.toNat)
       Zb (t31.length + (Z6 ([(IntKind.u8.wrap t33.1.1)])).length ≤ Z5) <|
       let t37 : List UInt8 := t31 ++ (Z6 ([(IntKind.u8.wrap t33.1.1)]))
       Zb (t37.length + t40.length ≤ Z5) <|
       some ((t37 ++ t40, ()), (t33.2.1, ()))
      )
     ) (
      Zb (0 ≤ t14.1.1 ∧ t14.1.1 ≤ (s1.length : Int) ∧ (s1.length : Int) ≤ s1.length) <|
      let t40 : List UInt8 := (s1.drop t14.1.1.toNat).take ((s1.length : Int).toNat - t14.1.1.toNat)
      (Kv t16.2.1).bind fun t33 =>
      Zb (t31.length + (Z6 ([(IntKind.u8.wrap t33.1.1)])).length ≤ Z5) <|
      let t37 : List UInt8 := t31 ++ (Z6 ([(IntKind.u8.wrap t33.1.1)]))
      Zb (t37.length + t40.length ≤ Z5) <|
      some ((t37 ++ t40, ()), (t33.2.1, ()))
     )
    ) (
    Z9 (
     (Kv t16.2.1).bind fun t33 =>
     Z9 (
      Zb (0 ≤ (0 : Int) ∧ (0 : Int) ≤ t14.1.1 ∧ t14.1.1 ≤ s1.length) <|
      let t31 : List UInt8 := (s1.drop (0 : Int).toNat).take (t14.1.1.toNat - (0 : Int).toNat)
      Z9 (
       Zb (t31.length + (Z6 ([(IntKind.u8.wrap t33.1.1)])).length ≤ Z5) <|
       let t37 : List UInt8 := t31 ++ (Z6 ([(IntKind.u8.wrap t33.1.1)]))
       Zb (0 ≤ t14.1.1 ∧ t14.1.1 ≤ (s1.length : Int) ∧ (s1.length : Int) ≤ s1.length) <|
       let t40 : List UInt8 := (s1.drop t14.1.1.toNat).take ((s1.length : Int).toNat - t14.1.1.toNat)
       Zb (t37.length + t40.length ≤ Z5) <|
       some ((t37 ++ t40, ()), (t33.2.1, ()))
      ) (
       Zb (0 ≤ t14.1.1 ∧ t14.1.1 ≤ (s1.length : Int) ∧ (s1.length : Int) ≤ s1.length) <|
       let t40 : List UInt8 := (s1.drop t14.1.1.toNat).take ((s1.length : Int).toNat - t14.1.1.toNat)
       Zb (t31.length + (Z6 ([(IntKind.u8.wrap t33.1.1)])).length ≤ Z5) <|
       let t37 : List UInt8 := t31 ++ (Z6 ([(IntKind.u8.wrap t33.1.1)]))
       Zb (t37.length + t40.length ≤ Z5) <|
       some ((t37 ++ t40, ()), (t33.2.1, ()))
      )
     ) (
     Z9 (
      Z9 (
       Zb (0 ≤ (0 : Int) ∧ (0 : Int) ≤ t14.1.1 ∧ t14.1.1 ≤ s1.length) <|
       let t31 : List UInt8 := (s1.drop (0 : Int).toNat).take (t14.1.1.toNat - (0 : Int).toNat)
       Zb (t31.length + (Z6 ([(IntKind.u8.wrap t33.1.1)])).length ≤ Z5) <|
       let t37 : List UInt8 := t31 ++ (Z6 ([(IntKind.u8.wrap t33.1.1)]))
       Zb (0 ≤ t14.1.1 ∧ t14.1.1 ≤ (s1.length : Int) ∧ (s1.length : Int) ≤ s1.length) <|
       let t40 : List UInt8 := (s1.drop t14.1.1.toNat).take ((s1.length : Int).toNat - t14.1.1.toNat)
       Zb (t37.length + t40.length ≤ Z5) <|
       some ((t37 ++ t40, ()), (t33.2.1, ()))
      ) (
       Zb (0 ≤ t14.1.1 ∧ t14.1.1 ≤ (s1.length : Int) ∧ (s1.length : Int) ≤ s1.length) <|
       let t40 : List UInt8 := (s1.drop t14.1.1.toNat).take ((s1.length : Int).toNat - t14.1.1.toNat)
       Zb (0 ≤ (0 : Int) ∧ (0 : Int) ≤ t14.1.1 ∧ t14.1.1 ≤ s1.length) <|
       let t31 : List UInt8 := (s1.drop (0 : Int).toNat).take (t14.1.1.toNat - (0 : Int).toNat)
       Zb (t31.length + (Z6 ([(IntKind.u8.wrap t33.1.1)])).length ≤ Z5) <|
       let t37 : List UInt8 := t31 ++ (Z6 ([(IntKind.u8.wrap t33.1.1)]))
       Zb (t37.length + t40.length ≤ Z5) <|
       some ((t37 ++ t40, ()), (t33.2.1, ()))
      )
     ) (
      Zb (0 ≤ t14.1.1 ∧ t14.1.1 ≤ (s1.length : Int) ∧ (s1.length : Int) ≤ s1.length) <|
      let t40 : List UInt8 := (s1.drop t14.1.1.toNat).take ((s1.length : Int).toNat - t14.1.1.toNat)
      Qf 1 (
       Zb (0 ≤ (0 : Int) ∧ (0 : Int) ≤ t14.1.1 ∧ t14.1.1 ≤ s1.length) <|
       let t31 : List UInt8 := (s1.drop (0 : Int).toNat).take (t14.1.1.toNat - (0 : Int).toNat)
       Zb (t31.length + (Z6 ([(IntKind.u8.wrap t33.1.1)])).length ≤ Z5) <|
       let t37 : List UInt8 := t31 ++ (Z6 ([(IntKind.u8.wrap t33.1.1)]))
       Zb (t37.length + t40.length ≤ Z5) <|
       some ((t37 ++ t40, ()), (t33.2.1, ()))
      )
     )
     )
    ) (
     Zb (0 ≤ t14.1.1 ∧ t14.1.1 ≤ (s1.length : Int) ∧ (s1.length : Int) ≤ s1.length) <|
     let t40 : List UInt8 := (s1.drop t14.1.1.toNat).take ((s1.length : Int).toNat - t14.1.1.toNat)
     Z9 (
      Zb (0 ≤ (0 : Int) ∧ (0 : Int) ≤ t14.1.1 ∧ t14.1.1 ≤ s1.length) <|
      let t31 : List UInt8 := (s1.drop (0 : Int).toNat).take (t14.1.1.toNat - (0 : Int).toNat)
      (Kv t16.2.1).bind fun t33 =>
      Zb (t31.length + (Z6 ([(IntKind.u8.wrap t33.1.1)])).length ≤ Z5) <|
      let t37 : List UInt8 := t31 ++ (Z6 ([(IntKind.u8.wrap t33.1.1)]))
      Zb (t37.length + t40.length ≤ Z5) <|
      some ((t37 ++ t40, ()), (t33.2.1, ()))
     ) (
      (Kv t16.2.1).bind fun t33 =>
      Qf 1 (
       Zb (0 ≤ (0 : Int) ∧ (0 : Int) ≤ t14.1.1 ∧ t14.1.1 ≤ s1.length) <|
       let t31 : List UInt8 := (s1.drop (0 : Int).toNat).take (t14.1.1.toNat - (0 : Int).toNat)
       Zb (t31.length + (Z6 ([(IntKind.u8.wrap t33.1.1)])).length ≤ Z5) <|
       let t37 : List UInt8 := t31 ++ (Z6 ([(IntKind.u8.wrap t33.1.1)]))
       Zb (t37.length + t40.length ≤ Z5) <|
       some ((t37 ++ t40, ()), (t33.2.1, ()))
      )
     )
    )
    )
   else
    bif t16.1.1 == 2 then
     Zb (0 ≤ (0 : Int) ∧ (0 : Int) ≤ t14.1.1 ∧ t14.1.1 ≤ s1.length) <|
     some (((s1.drop (0 : Int).toNat).take (t14.1.1.toNat - (0 : Int).toNat), ()), (t16.2.1, ()))
    else
     Zb (0 ≤ t14.1.1 ∧ t14.1.1 < s1.length) <|
     let t53 : Int := IntKind.i64.wrap ((s1.getD t14.1.1.toNat 0).toNat : Int)
     Z9 (
      Zb (0 ≤ (0 : Int) ∧ (0 : Int) ≤ t14.1.1 ∧ t14.1.1 ≤ s1.length) <|
      let t49 : List UInt8 := (s1.drop (0 : Int).toNat).take (t14.1.1.toNat - (0 : Int).toNat)
      Z9 (
       (Zv t16.2.1 (255 : Int)).bind fun t55 =>
       let t57 : Int := bits .xor .i64 t53 (IntKind.i64.wrap ((1 : Int) + t55.1.1))
       Z9 (
        Zb (t49.length + (Z6 ([(IntKind.u8.wrap t57)])).length ≤ Z5) <|
        let t61 : List UInt8 := t49 ++ (Z6 ([(IntKind.u8.wrap t57)]))
        Zb (0 ≤ (IntKind.i64.wrap (t14.1.1 + 1)) ∧ (IntKind.i64.wrap (t14.1.1 + 1)) ≤ (s1.length : Int) ∧ (s1.length : Int) ≤ s1.length) <|
        let t65 : List UInt8 := (s1.drop (IntKind.i64.wrap (t14.1.1 + 1)).toNat).take ((s1.length : Int).toNat - (IntKind.i64.wrap (t14.1.1 + 1)).toNat)
        Zb (t61.length + t65.length ≤ Z5) <|
        some ((t61 ++ t65, ()), (t55.2.1, ()))
       ) (
        Zb (0 ≤ (IntKind.i64.wrap (t14.1.1 + 1)) ∧ (IntKind.i64.wrap (t14.1.1 + 1)) ≤ (s1.length : Int) ∧ (s1.length : Int) ≤ s1.length) <|
        let t65 : List UInt8 := (s1.drop (IntKind.i64.wrap (t14.1.1 + 1)).toNat).take ((s1.length : Int).toNat - (IntKind.i64.wrap (t14.1.1 + 1)).toNat)
        Zb (t49.length + (Z6 ([(IntKind.u8.wrap t57)])).length ≤ Z5) <|
        let t61 : List UInt8 := t49 ++ (Z6 ([(IntKind.u8.wrap t57)]))
        Zb (t61.length + t65.length ≤ Z5) <|
        some ((t61 ++ t65, ()), (t55.2.1, ()))
       )
      ) (
       Zb (0 ≤ (IntKind.i64.wrap (t14.1.1 + 1)) ∧ (IntKind.i64.wrap (t14.1.1 + 1)) ≤ (s1.length : Int) ∧ (s1.length : Int) ≤ s1.length) <|
       let t65 : List UInt8 := (s1.drop (IntKind.i64.wrap (t14.1.1 + 1)).toNat).take ((s1.length : Int).toNat - (IntKind.i64.wrap (t14.1.1 + 1)).toNat)
       (Zv t16.2.1 (255 : Int)).bind fun t55 =>
       let t57 : Int := bits .xor .i64 t53 (IntKind.i64.wrap ((1 : Int) + t55.1.1))
       Zb (t49.length + (Z6 ([(IntKind.u8.wrap t57)])).length ≤ Z5) <|
       let t61 : List UInt8 := t49 ++ (Z6 ([(IntKind.u8.wrap t57)]))
       Zb (t61.length + t65.length ≤ Z5) <|
       some ((t61 ++ t65, ()), (t55.2.1, ()))
      )
     ) (
     Z9 (
      (Zv t16.2.1 (255 : Int)).bind fun t55 =>
      let t57 : Int := bits .xor .i64 t53 (IntKind.i64.wrap ((1 : Int) + t55.1.1))
      Z9 (
       Zb (0 ≤ (0 : Int) ∧ (0 : Int) ≤ t14.1.1 ∧ t14.1.1 ≤ s1.length) <|
       let t49 : List UInt8 := (s1.drop (0 : Int).toNat).take (t14.1.1.toNat - (0 : Int).toNat)
       Z9 (
        Zb (t49.length + (Z6 ([(IntKind.u8.wrap t57)])).length ≤ Z5) <|
        let t61 : List UInt8 := t49 ++ (Z6 ([(IntKind.u8.wrap t57)]))
        Zb (0 ≤ (IntKind.i64.wrap (t14.1.1 + 1)) ∧ (IntKind.i64.wrap (t14.1.1 + 1)) ≤ (s1.length : Int) ∧ (s1.length : Int) ≤ s1.length) <|
        let t65 : List UInt8 := (s1.drop (IntKind.i64.wrap (t14.1.1 + 1)).toNat).take ((s1.length : Int).toNat - (IntKind.i64.wrap (t14.1.1 + 1)).toNat)
        Zb (t61.length + t65.length ≤ Z5) <|
        some ((t61 ++ t65, ()), (t55.2.1, ()))
       ) (
        Zb (0 ≤ (IntKind.i64.wrap (t14.1.1 + 1)) ∧ (IntKind.i64.wrap (t14.1.1 + 1)) ≤ (s1.length : Int) ∧ (s1.length : Int) ≤ s1.length) <|
        let t65 : List UInt8 := (s1.drop (IntKind.i64.wrap (t14.1.1 + 1)).toNat).take ((s1.length : Int).toNat - (IntKind.i64.wrap (t14.1.1 + 1)).toNat)
        Zb (t49.length + (Z6 ([(IntKind.u8.wrap t57)])).length ≤ Z5) <|
        let t61 : List UInt8 := t49 ++ (Z6 ([(IntKind.u8.wrap t57)]))
        Zb (t61.length + t65.length ≤ Z5) <|
        some ((t61 ++ t65, ()), (t55.2.1, ()))
       )
      ) (
      Z9 (
       Z9 (
        Zb (0 ≤ (0 : Int) ∧ (0 : Int) ≤ t14.1.1 ∧ t14.1.1 ≤ s1.length) <|
        let t49 : List UInt8 := (s1.drop (0 : Int).toNat).take (t14.1.1.toNat - (0 : Int).toNat)
        Zb (t49.length + (Z6 ([(IntKind.u8.wrap t57)])).length ≤ Z5) <|
        let t61 : List UInt8 := t49 ++ (Z6 ([(IntKind.u8.wrap t57)]))
        Zb (0 ≤ (IntKind.i64.wrap (t14.1.1 + 1)) ∧ (IntKind.i64.wrap (t14.1.1 + 1)) ≤ (s1.length : Int) ∧ (s1.length : Int) ≤ s1.length) <|
        let t65 : List UInt8 := (s1.drop (IntKind.i64.wrap (t14.1.1 + 1)).toNat).take ((s1.length : Int).toNat - (IntKind.i64.wrap (t14.1.1 + 1)).toNat)
        Zb (t61.length + t65.length ≤ Z5) <|
        some ((t61 ++ t65, ()), (t55.2.1, ()))
       ) (
        Zb (0 ≤ (IntKind.i64.wrap (t14.1.1 + 1)) ∧ (IntKind.i64.wrap (t14.1.1 + 1)) ≤ (s1.length : Int) ∧ (s1.length : Int) ≤ s1.length) <|
        let t65 : List UInt8 := (s1.drop (IntKind.i64.wrap (t14.1.1 + 1)).toNat).take ((s1.length : Int).toNat - (IntKind.i64.wrap (t14.1.1 + 1)).toNat)
        Zb (0 ≤ (0 : Int) ∧ (0 : Int) ≤ t14.1.1 ∧ t14.1.1 ≤ s1.length) <|
        let t49 : List UInt8 := (s1.drop (0 : Int).toNat).take (t14.1.1.toNat - (0 : Int).toNat)
        Zb (t49.length + (Z6 ([(IntKind.u8.wrap t57)])).length ≤ Z5) <|
        let t61 : List UInt8 := t49 ++ (Z6 ([(IntKind.u8.wrap t57)]))
        Zb (t61.length + t65.length ≤ Z5) <|
        some ((t61 ++ t65, ()), (t55.2.1, ()))
       )
      ) (
       Zb (0 ≤ (IntKind.i64.wrap (t14.1.1 + 1)) ∧ (IntKind.i64.wrap (t14.1.1 + 1)) ≤ (s1.length : Int) ∧ (s1.length : Int) ≤ s1.length) <|
       let t65 : List UInt8 := (s1.drop (IntKind.i64.wrap (t14.1.1 + 1)).toNat).take ((s1.length : Int).toNat - (IntKind.i64.wrap (t14.1.1 + 1)).toNat)
       Qf 1 (
        Zb (0 ≤ (0 : Int) ∧ (0 : Int) ≤ t14.1.1 ∧ t14.1.1 ≤ s1.length) <|
        let t49 : List UInt8 := (s1.drop (0 : Int).toNat).take (t14.1.1.toNat - (0 : Int).toNat)
        Zb (t49.length + (Z6 ([(IntKind.u8.wrap t57)])).length ≤ Z5) <|
        let t61 : List UInt8 := t49 ++ (Z6 ([(IntKind.u8.wrap t57)]))
        Zb (t61.length + t65.length ≤ Z5) <|
        some ((t61 ++ t65, ()), (t55.2.1, ()))
       )
      )
      )
     ) (
      Zb (0 ≤ (IntKind.i64.wrap (t14.1.1 + 1)) ∧ (IntKind.i64.wrap (t14.1.1 + 1)) ≤ (s1.length : Int) ∧ (s1.length : Int) ≤ s1.length) <|
      let t65 : List UInt8 := (s1.drop (IntKind.i64.wrap (t14.1.1 + 1)).toNat).take ((s1.length : Int).toNat - (IntKind.i64.wrap (t14.1.1 + 1)).toNat)
      Z9 (
       Zb (0 ≤ (0 : Int) ∧ (0 : Int) ≤ t14.1.1 ∧ t14.1.1 ≤ s1.length) <|
       let t49 : List UInt8 := (s1.drop (0 : Int).toNat).take (t14.1.1.toNat - (0 : Int).toNat)
       (Zv t16.2.1 (255 : Int)).bind fun t55 =>
       let t57 : Int := bits .xor .i64 t53 (IntKind.i64.wrap ((1 : Int) + t55.1.1))
       Zb (t49.length + (Z6 ([(IntKind.u8.wrap t57)])).length ≤ Z5) <|
       let t61 : List UInt8 := t49 ++ (Z6 ([(IntKind.u8.wrap t57)]))
       Zb (t61.length + t65.length ≤ Z5) <|
       some ((t61 ++ t65, ()), (t55.2.1, ()))
      ) (
       (Zv t16.2.1 (255 : Int)).bind fun t55 =>
       let t57 : Int := bits .xor .i64 t53 (IntKind.i64.wrap ((1 : Int) + t55.1.1))
       Qf 1 (
        Zb (0 ≤ (0 : Int) ∧ (0 : Int) ≤ t14.1.1 ∧ t14.1.1 ≤ s1.length) <|
        let t49 : List UInt8 := (s1.drop (0 : Int).toNat).take (t14.1.1.toNat - (0 : Int).toNat)
        Zb (t49.length + (Z6 ([(IntKind.u8.wrap t57)])).length ≤ Z5) <|
        let t61 : List UInt8 := t49 ++ (Z6 ([(IntKind.u8.wrap t57)]))
        Zb (t61.length + t65.length ≤ Z5) <|
        some ((t61 ++ t65, ()), (t55.2.1, ()))
       )
      )
     )
     )
def Zfc (code0 : List Int) : Option (List UInt8 × Unit) :=
 (Ze4 code0).bind fun t6 =>
 (Zhv t6.1).bind fun t8 =>
 (Xr t8.1.1).bind fun t9 =>
 (Zv t8.2.1 (4 : Int)).bind fun t11 =>
 bif t11.1.1 == 0 then
  (Zq6 t11.2.1 t9.1).bind fun t16 =>
  some (t16.1.1, ())
 else
  bif t11.1.1 == 1 then
   (Zj2 t11.2.1 ([([] : List UInt8), ([115, 116, 114, 101, 97, 109, 32, 52, 32, 48, 32, 120] : List UInt8), ([115, 116, 114, 101, 97, 109, 32, 52, 32, 48, 32, 120, 54, 49, 32, 102, 105, 110] : List UInt8), ([115, 116, 114, 101, 97, 109, 32, 52, 32, 48, 32, 54, 49] : List UInt8), ([115, 116, 114, 101, 97, 109, 32, 52, 32, 48, 32, 120, 54] : List UInt8), ([115, 116, 111, 112, 32, 49] : List UInt8), ([109, 97, 120, 100, 97, 116, 97] : List UInt8), ([109, 97, 120, 115, 116, 114, 101, 97, 109, 115, 32, 51] : List UInt8), ([109, 97, 120, 115, 116, 114, 101, 97, 109, 115, 32, 51, 32, 116, 114, 105] : List UInt8), ([114, 101, 115, 101, 116, 32, 49, 32, 50] : List UInt8), ([112, 105, 110, 103] : List UInt8)])).bind fun t21 =>
   some (t21.1.1, ())
  else
   some (t9.1, ())
abbrev Qdn : List PE := [.val 0 (.str) (.u false), .val 1 (.int .u8) (.u false), .val 5 (.slice 9 (.str)) (.u true), .val 6 (.str) (.u false), .val 7 (.int .i64) (.u false)]
def Zc9 (K1 : (List UInt8 × Int × List (List UInt8) × List UInt8 × Int × Unit) → Option (List (List UInt8) × Unit)) (s0_2 : List UInt8) (by1_2 : Int) (out5_1 : List (List UInt8)) (part6_2 : List UInt8) (i7_1 : Int) : Option (List (List UInt8) × Unit) :=
 K1 (s0_2, by1_2, out5_1, part6_2, IntKind.i64.wrap (i7_1 + 1), ())
abbrev Qdo : List PE := [.val 0 (.str) (.u false), .val 1 (.int .u8) (.u false), .val 5 (.slice 9 (.str)) (.u true), .val 6 (.str) (.u false), .val 7 (.int .i64) (.u false)]
def Zfm (s0_1 : List UInt8) (by1_1 : Int) (out5 : List (List UInt8)) (part6_1 : List UInt8) (i7 : Int) : Nat := ((s0_1.length : Int) - i7).toNat + 1
def Vw : Nat → List UInt8 → Int → List (List UInt8) → List UInt8 → Int → Option (List (List UInt8) × Unit)
 | 0, _, _, _, _, _ => none
 | N + 1, s0_1, by1_1, out5, part6_1, i7 =>
  bif decide (i7 < (s0_1.length : Int)) then
   Zb (0 ≤ i7 ∧ i7 < s0_1.length) <|
   bif ((s0_1.getD i7.toNat 0).toNat : Int) == by1_1 then
    Zb (out5.length + ([part6_1]).length ≤ Qp) <|
    Zc9 (fun v => Vw N v.1 v.2.1 v.2.2.1 v.2.2.2.1 v.2.2.2.2.1) s0_1 by1_1 (out5 ++ ([part6_1])) ([] : List UInt8) i7
   else
    Zb (0 ≤ i7 ∧ i7 ≤ (IntKind.i64.wrap (i7 + 1)) ∧ (IntKind.i64.wrap (i7 + 1)) ≤ s0_1.length) <|
    let t29 : List UInt8 := (s0_1.drop i7.toNat).take ((IntKind.i64.wrap (i7 + 1)).toNat - i7.toNat)
    Zb (part6_1.length + t29.length ≤ Z5) <|
    Zc9 (fun v => Vw N v.1 v.2.1 v.2.2.1 v.2.2.2.1 v.2.2.2.2.1) s0_1 by1_1 out5 (part6_1 ++ t29) i7
  else
   Zb (out5.length + ([part6_1]).length ≤ Qp) <|
   some (out5 ++ ([part6_1]), ())
def Zjw (s0 : List UInt8) (by1 : Int) : Option (List (List UInt8) × Unit) :=
 Vw (Zfm s0 by1 ([] : List (List UInt8)) ([] : List UInt8) (0 : Int)) s0 by1 ([] : List (List UInt8)) ([] : List UInt8) (0 : Int)
abbrev Z6i : List PE := [.val 0 (.str) (.u false), .val 4 (.int .i64) (.u false), .val 5 (.int .i64) (.u false), .val 6 (.int .i64) (.u false)]
def Zgl (K1 : (List UInt8 × Int × Int × Int × Unit) → Option (Int × Bool × Unit)) (s0_2 : List UInt8) (n4_1 : Int) (k5_1 : Int) (i6_1 : Int) : Option (Int × Bool × Unit) :=
 K1 (s0_2, n4_1, k5_1, IntKind.i64.wrap (i6_1 + 1), ())
abbrev Z6j : List PE := [.val 0 (.str) (.u false), .val 4 (.int .i64) (.u false), .val 5 (.int .i64) (.u false)]
def K7 (s0_3 : List UInt8) (n4_2 : Int) (k5_2 : Int) : Option (Int × Bool × Unit) :=
 let t53 : Bool := (decide (k5_2 > (9 : Int))) || (decide ((s0_3.length : Int) > (10 : Int)))
 (bif t53 then some (([] : List UInt8), ()) else (Z7 n4_2)).bind fun t56 =>
 bif t53 || (!(t56.1 == s0_3)) then
  some ((0 : Int), false, ())
 else
  some (n4_2, true, ())
abbrev Z6k : List PE := [.val 0 (.str) (.u false), .val 4 (.int .i64) (.u false), .val 5 (.int .i64) (.u false), .val 6 (.int .i64) (.u false)]
def Ziu (s0_1 : List UInt8) (n4 : Int) (k5 : Int) (i6 : Int) : Nat := ((s0_1.length : Int) - i6).toNat + 1
def Zcc : Nat → List UInt8 → Int → Int → Int → Option (Int × Bool × Unit)
 | 0, _, _, _, _ => none
 | N + 1, s0_1, n4, k5, i6 =>
  bif (decide (i6 < (s0_1.length : Int))) && (decide (i6 < (11 : Int))) then
   Zb (0 ≤ i6 ∧ i6 < s0_1.length) <|
   let t20 : Bool := decide (((s0_1.getD i6.toNat 0).toNat : Int) ≥ (48 : Int))
   Zb ((t20 = true → (0 ≤ i6 ∧ i6 < s0_1.length))) <|
   bif t20 && (decide (((s0_1.getD i6.toNat 0).toNat : Int) ≤ (57 : Int))) then
    Zb (0 ≤ i6 ∧ i6 < s0_1.length) <|
    Zgl (fun v => Zcc N v.1 v.2.1 v.2.2.1 v.2.2.2.1) s0_1 (IntKind.i64.wrap ((IntKind.i64.wrap (n4 * 10)) + (IntKind.i64.wrap (IntKind.u8.wrap (((s0_1.getD i6.toNat 0).toNat : Int) - (48 : Int)))))) (IntKind.i64.wrap (k5 + 1)) i6
   else
    Zgl (fun v => Zcc N v.1 v.2.1 v.2.2.1 v.2.2.2.1) s0_1 n4 k5 i6
  else
   Zb (((decide ((s0_1.length : Int) > (0 : Int))) = true → (0 ≤ (0 : Int) ∧ (0 : Int) < s0_1.length))) <|
   bif (decide ((s0_1.length : Int) > (0 : Int))) && (((s0_1.getD (0 : Int).toNat 0).toNat : Int) == (45 : Int)) then
    K7 s0_1 (IntKind.i64.wrap (0 - n4)) k5
   else
    K7 s0_1 n4 k5
def Ze3 (s0 : List UInt8) : Option (Int × Bool × Unit) :=
 Zcc (Ziu s0 (0 : Int) (0 : Int) (0 : Int)) s0 (0 : Int) (0 : Int) (0 : Int)
def Zs9 (s0 : List UInt8) : Option (Int × Unit) :=
 (Ze3 s0).bind fun t7 =>
 bif !t7.2.1 then
  some ((-1 : Int), ())
 else
  some (t7.1, ())
def X6 (w0 : List (List UInt8)) (at1 : Int) : Option (Int × Unit) :=
 bif decide (at1 ≥ (w0.length : Int)) then
  some ((-1 : Int), ())
 else
  Zb (0 ≤ at1 ∧ at1 < w0.length) <|
  (Zs9 (w0.getD at1.toNat ([] : List UInt8))).bind fun t13 =>
  some (t13.1, ())
abbrev Z23 : List PE := [.val 0 (.int .u8) (.u false), .val 3 (.int .i64) (.u false)]
def Zhu (b0_1 : Int) (k3 : Int) : Nat := ((16 : Int) - k3).toNat + 1
def Jj : Nat → Int → Int → Option (Int × Unit)
 | 0, _, _ => none
 | N + 1, b0_1, k3 =>
  bif decide (k3 < (16 : Int)) then
   (Zet k3).bind fun t9 =>
   bif t9.1 == b0_1 then
    some (k3, ())
   else
    Jj N b0_1 (IntKind.i64.wrap (k3 + 1))
  else
   some ((-1 : Int), ())
def Zj1 (b0 : Int) : Option (Int × Unit) :=
 Jj (Zhu b0 (0 : Int)) b0 (0 : Int)
abbrev Z2m : List PE := [.val 0 (.str) (.u false), .val 4 (.slice 5 (.int .u8)) (.u true), .val 5 (.int .i64) (.u false)]
def Zhk (s0_1 : List UInt8) (out4 : List Int) (i5 : Int) : Nat := ((s0_1.length : Int) - i5).toNat + 1
def Za5 : Nat → List UInt8 → List Int → Int → Option (List UInt8 × Bool × Unit)
 | 0, _, _, _ => none
 | N + 1, s0_1, out4, i5 =>
  bif decide (i5 < (s0_1.length : Int)) then
   Zb (0 ≤ i5 ∧ i5 < s0_1.length) <|
   (Zj1 ((s0_1.getD i5.toNat 0).toNat : Int)).bind fun t22 =>
   Zb (0 ≤ (IntKind.i64.wrap (i5 + 1)) ∧ (IntKind.i64.wrap (i5 + 1)) < s0_1.length) <|
   (Zj1 ((s0_1.getD (IntKind.i64.wrap (i5 + 1)).toNat 0).toNat : Int)).bind fun t27 =>
   bif (decide (t22.1 < (0 : Int))) || (decide (t27.1 < (0 : Int))) then
    some (([] : List UInt8), false, ())
   else
    let t40 : List Int := [(IntKind.u8.wrap (IntKind.i64.wrap ((IntKind.i64.wrap ((16 : Int) * t22.1)) + t27.1)))]
    Zb (out4.length + t40.length ≤ Qp) <|
    Za5 N s0_1 (out4 ++ t40) (IntKind.i64.wrap (i5 + 2))
  else
   some (Z6 out4, true, ())
def Znr (s0 : List UInt8) : Option (List UInt8 × Bool × Unit) :=
 Zb ((2 : Int) ≠ 0) <|
 bif (Int.tmod (s0.length : Int) (2 : Int)) == 1 then
  some (([] : List UInt8), false, ())
 else
  Za5 (Zhk s0 ([] : List Int) (0 : Int)) s0 ([] : List Int) (0 : Int)
abbrev Z0l : List PE := [.val 0 (.str) (.u false), .box 2 25 (Zr) (.u false), .val 4 (.slice 9 (.str)) (.u true), .box 5 25 (Zr) (.u false), .val 6 (.int .i64) (.u false)]
def Zhs (K1 : (List UInt8 × Zg × List (List UInt8) × Zg × Int × Unit) → Option (Zg × Bool × Unit)) (s0_2 : List UInt8) (t2_1 : Zg) (w4_1 : List (List UInt8)) (f5_1 : Zg) (k6_1 : Int) : Option (Zg × Bool × Unit) :=
 K1 (s0_2, t2_1, w4_1, f5_1, IntKind.i64.wrap (k6_1 + 1), ())
abbrev Z0n : List PE := [.val 0 (.str) (.u false), .box 2 25 (Zr) (.u false), .box 5 25 (Zr) (.u false)]
def Yv (s0_4 : List UInt8) (t2_3 : Zg) (f5_3 : Zg) : Option (Zg × Bool × Unit) :=
 (bif (s0_4 == ([] : List UInt8)) then some (([] : List UInt8), ()) else (Xr f5_3)).bind fun t108 =>
 bif (s0_4 == ([] : List UInt8)) || (!(t108.1 == s0_4)) then
  some (Qg, false, ())
 else
  some (f5_3, true, ())
abbrev Z0o : List PE := [.val 0 (.str) (.u false), .box 2 25 (Zr) (.u false), .val 4 (.slice 9 (.str)) (.u true), .box 5 25 (Zr) (.u false)]
def Zc7 (s0_5 : List UInt8) (t2_4 : Zg) (w4_3 : List (List UInt8)) (f5_4 : Zg) : Option (Zg × Bool × Unit) :=
 Yv s0_5 t2_4 (f5_4.1, (f5_4.2.1, (f5_4.2.2.1, (f5_4.2.2.2.1, ((w4_3.length : Int) == (5 : Int), f5_4.2.2.2.2.2)))))
abbrev Z0q : List PE := [.val 0 (.str) (.u false), .box 2 25 (Zr) (.u false), .val 4 (.slice 9 (.str)) (.u true), .box 5 25 (Zr) (.u false), .val 88 (.bool) (.u false)]
def Zmk (s0_7 : List UInt8) (t2_6 : Zg) (w4_5 : List (List UInt8)) (f5_6 : Zg) (t88 : Bool) : Option (Zg × Bool × Unit) :=
 bif t88 then
  (X6 w4_5 (1 : Int)).bind fun t92 =>
  Zb ((((w4_5.length : Int) == (3 : Int)) = true → (0 ≤ (2 : Int) ∧ (2 : Int) < w4_5.length))) <|
  Yv s0_7 t2_6 (f5_6.1, (f5_6.2.1, (f5_6.2.2.1, (f5_6.2.2.2.1, (f5_6.2.2.2.2.1, (f5_6.2.2.2.2.2.1, (t92.1, (f5_6.2.2.2.2.2.2.2.1, (((w4_5.length : Int) == (3 : Int)) && ((w4_5.getD (2 : Int).toNat ([] : List UInt8)) == ([117, 110, 105] : List UInt8)), f5_6.2.2.2.2.2.2.2.2.2)))))))))
 else
  (X6 w4_5 (1 : Int)).bind fun t38 =>
  Yv s0_7 t2_6 (f5_6.1, (f5_6.2.1, (f5_6.2.2.1, (f5_6.2.2.2.1, (f5_6.2.2.2.2.1, (f5_6.2.2.2.2.2.1, (t38.1, f5_6.2.2.2.2.2.2.2)))))))
abbrev Z0p : List PE := [.val 0 (.str) (.u false), .box 2 25 (Zr) (.u false), .val 4 (.slice 9 (.str)) (.u true), .box 5 25 (Zr) (.u false), .val 36 (.int .i64) (.u false), .val 82 (.bool) (.u false)]
def Zmj (s0_6 : List UInt8) (t2_5 : Zg) (w4_4 : List (List UInt8)) (f5_5 : Zg) (t36 : Int) (t82 : Bool) : Option (Zg × Bool × Unit) :=
 bif t82 then
  (X6 w4_4 (2 : Int)).bind fun t86 =>
  Yv s0_6 t2_5 (f5_5.1, (f5_5.2.1, (f5_5.2.2.1, (f5_5.2.2.2.1, (f5_5.2.2.2.2.1, (f5_5.2.2.2.2.2.1, (t86.1, f5_5.2.2.2.2.2.2.2)))))))
 else
  bif t36 == 18 then
   Zmk s0_6 t2_5 w4_4 f5_5 (t36 == 18)
  else
   Zmk s0_6 t2_5 w4_4 f5_5 (t36 == 22)
abbrev Z0m : List PE := [.val 0 (.str) (.u false), .box 2 25 (Zr) (.u false), .val 4 (.slice 9 (.str)) (.u true), .box 5 25 (Zr) (.u false)]
def Qs (s0_3 : List UInt8) (t2_2 : Zg) (w4_2 : List (List UInt8)) (f5_2 : Zg) : Option (Zg × Bool × Unit) :=
 bif f5_2.1 == 4 then
  (X6 w4_2 (2 : Int)).bind fun t43 =>
  (X6 w4_2 (3 : Int)).bind fun t46 =>
  Yv s0_3 t2_2 (f5_2.1, (f5_2.2.1, (f5_2.2.2.1, (f5_2.2.2.2.1, (f5_2.2.2.2.2.1, (t43.1, (f5_2.2.2.2.2.2.2.1, (t46.1, f5_2.2.2.2.2.2.2.2.2))))))))
 else
  bif f5_2.1 == 5 then
   (X6 w4_2 (2 : Int)).bind fun t51 =>
   Yv s0_3 t2_2 (f5_2.1, (f5_2.2.1, (f5_2.2.2.1, (f5_2.2.2.2.1, (f5_2.2.2.2.2.1, (t51.1, f5_2.2.2.2.2.2.2))))))
  else
   bif f5_2.1 == 8 then
    (X6 w4_2 (2 : Int)).bind fun t56 =>
    Zb (((decide ((w4_2.length : Int) > (3 : Int))) = true → (0 ≤ (3 : Int) ∧ (3 : Int) < w4_2.length))) <|
    bif (decide ((w4_2.length : Int) > (3 : Int))) && (decide (((w4_2.getD (3 : Int).toNat ([] : List UInt8)).length : Int) > (0 : Int))) then
     Zb (0 ≤ (3 : Int) ∧ (3 : Int) < w4_2.length) <|
     Zb (0 ≤ (1 : Int) ∧ (1 : Int) ≤ ((w4_2.getD (3 : Int).toNat ([] : List UInt8)).length : Int) ∧ ((w4_2.getD (3 : Int).toNat ([] : List UInt8)).length : Int) ≤ (w4_2.getD (3 : Int).toNat ([] : List UInt8)).length) <|
     (Znr (((w4_2.getD (3 : Int).toNat ([] : List UInt8)).drop (1 : Int).toNat).take (((w4_2.getD (3 : Int).toNat ([] : List UInt8)).length : Int).toNat - (1 : Int).toNat))).bind fun t73 =>
     Zc7 s0_3 t2_2 w4_2 (f5_2.1, (f5_2.2.1, (t56.1, (t73.1, f5_2.2.2.2.2))))
    else
     Zc7 s0_3 t2_2 w4_2 (f5_2.1, (f5_2.2.1, (t56.1, f5_2.2.2.2)))
   else
    bif f5_2.1 == 17 then
     Zmj s0_3 t2_2 w4_2 f5_2 f5_2.1 (f5_2.1 == 17)
    else
     Zmj s0_3 t2_2 w4_2 f5_2 f5_2.1 (f5_2.1 == 21)
abbrev Z0r : List PE := [.val 0 (.str) (.u false), .box 2 25 (Zr) (.u false), .val 4 (.slice 9 (.str)) (.u true), .box 5 25 (Zr) (.u false), .val 6 (.int .i64) (.u false)]
def Zgk (s0_1 : List UInt8) (t2 : Zg) (w4 : List (List UInt8)) (f5 : Zg) (k6 : Int) : Nat := ((24 : Int) - k6).toNat + 1
def Ku : Nat → List UInt8 → Zg → List (List UInt8) → Zg → Int → Option (Zg × Bool × Unit)
 | 0, _, _, _, _, _ => none
 | N + 1, s0_1, t2, w4, f5, k6 =>
  bif decide (k6 < (24 : Int)) then
   Zb (0 ≤ (0 : Int) ∧ (0 : Int) < w4.length) <|
   (Jv k6).bind fun t17 =>
   let t21 : Bool := t17.1 == (w4.getD (0 : Int).toNat ([] : List UInt8))
   Zb ((t21 = true → (0 ≤ (0 : Int) ∧ (0 : Int) < w4.length))) <|
   bif t21 && (!((w4.getD (0 : Int).toNat ([] : List UInt8)) == ([] : List UInt8))) then
    Zhs (fun v => Ku N v.1 v.2.1 v.2.2.1 v.2.2.2.1 v.2.2.2.2.1) s0_1 t2 w4 (k6, f5.2) k6
   else
    Zhs (fun v => Ku N v.1 v.2.1 v.2.2.1 v.2.2.2.1 v.2.2.2.2.1) s0_1 t2 w4 f5 k6
  else
   (Qa f5).bind fun t31 =>
   bif t31.1 then
    (X6 w4 (1 : Int)).bind fun t33 =>
    Qs s0_1 t2 w4 (f5.1, (t33.1, f5.2.2))
   else
    Qs s0_1 t2 w4 f5
def Zh2 (s0 : List UInt8) : Option (Zg × Bool × Unit) :=
 (Zjw s0 (32 : Int)).bind fun t10 =>
 Ku (Zgk s0 Qg t10.1 Qg (1 : Int)) s0 Qg t10.1 Qg (1 : Int)
abbrev Z6q : List PE := [.box 0 110 (Xg) (.u false), .val 3 (.slice 25 (Zr)) (.u true), .val 4 (.int .i64) (.u false)]
def Zix (c0_1 : Zw) (l3 : List Zg) (n4 : Int) : Nat := (n4 - 0).toNat + 1
def Zg0 : Nat → Zw → List Zg → Int → Option ((List Zg × Unit) × (Zw × Unit))
 | 0, _, _, _ => none
 | N + 1, c0_1, l3, n4 =>
  bif decide (n4 > (0 : Int)) then
   (Zhv c0_1).bind fun t14 =>
   Zb (l3.length + ([t14.1.1]).length ≤ Qp) <|
   Zg0 N t14.2.1 (l3 ++ ([t14.1.1])) (IntKind.i64.wrap (n4 - 1))
  else
   some ((l3, ()), (c0_1, ()))
def Ztu (c0 : Zw) : Option ((List Zg × Unit) × (Zw × Unit)) :=
 (Zv c0 (5 : Int)).bind fun t7 =>
 Zg0 (Zix t7.2.1 ([] : List Zg) t7.1.1) t7.2.1 ([] : List Zg) t7.1.1
def Zdm (code0 : List Int) : Option (List Zg × Unit) :=
 (Ze4 code0).bind fun t4 =>
 (Ztu t4.1).bind fun t5 =>
 some (t5.1.1, ())
def Zoj : Option (Zrg × Unit) :=
 some (((16 : Int), ((8 : Int), ((32 : Int), ((16 : Int), ((64 : Int), ((2 : Int), ((2 : Int), ((4 : Int), ())))))))), ())
def Zer (c0 : Zw) : Option ((Zrg × Unit) × (Zw × Unit)) :=
 Option.bind Zoj fun t4 =>
 (Zv c0 (3 : Int)).bind fun t6 =>
 bif t6.1.1 == 0 then
  some ((((8 : Int), ((4 : Int), (t4.1.2.2.1, ((6 : Int), (t4.1.2.2.2.2.1, ((1 : Int), t4.1.2.2.2.2.2.2)))))), ()), (t6.2.1, ()))
 else
  bif t6.1.1 == 1 then
   some (((t4.1.1, (t4.1.2.1, (t4.1.2.2.1, (t4.1.2.2.2.1, (t4.1.2.2.2.2.1, ((3 : Int), ((1 : Int), ((2 : Int), t4.1.2.2.2.2.2.2.2.2)))))))), ()), (t6.2.1, ()))
  else
   some ((t4.1, ()), (t6.2.1, ()))
def Zaf (n0 : Int) : Option (Bool × Unit) :=
 some (((decide (n0 > (0 : Int))) && (decide (n0 ≤ (64 : Int)))) && ((bits .and .i64 n0 (IntKind.i64.wrap (n0 - 1))) == 0), ())
def Zas (c0 : Zrg) : Option (Bool × Unit) :=
 (Zaf c0.1).bind fun t5 =>
 (bif t5.1 then (Z4 c0.2.2.1 (1 : Int) (4096 : Int)) else some (false, ())).bind fun t9 =>
 (bif (t5.1 && t9.1) then (Z4 c0.2.1 (1 : Int) c0.2.2.1) else some (false, ())).bind fun t16 =>
 (bif ((t5.1 && t9.1) && t16.1) then (Z4 c0.2.2.2.2.1 (1 : Int) (4096 : Int)) else some (false, ())).bind fun t21 =>
 let t22 : Bool := ((t5.1 && t9.1) && t16.1) && t21.1
 (bif t22 then (Z4 c0.2.2.2.1 (1 : Int) c0.2.2.2.2.1) else some (false, ())).bind fun t28 =>
 (bif (t22 && t28.1) then (Z4 c0.2.2.2.2.2.1 (0 : Int) (1000 : Int)) else some (false, ())).bind fun t33 =>
 (bif ((t22 && t28.1) && t33.1) then (Z4 c0.2.2.2.2.2.2.1 (0 : Int) (1000 : Int)) else some (false, ())).bind fun t38 =>
 let t39 : Bool := ((t22 && t28.1) && t33.1) && t38.1
 (bif t39 then (Z4 c0.2.2.2.2.2.2.2.1 (1 : Int) (1000 : Int)) else some (false, ())).bind fun t43 =>
 some (t39 && t43.1, ())
def Ve : Option (Xm × Unit) :=
 some (((3 : Int), (false, ())), ())
def Zkh : Option (Qb × Unit) :=
 some (((0 : Int), (((0 : Int), (([] : List Q2), ())), ((-1 : Int), ((0 : Int), ((0 : Int), ()))))), ())
def Zad (id0 : Int) : Option (Bool × Unit) :=
 (Qe id0).bind fun t4 =>
 some (t4.1 && ((bits .and .i64 id0 (2 : Int)) == 2), ())
def Zh1 (id0 : Int) : Option (Bool × Unit) :=
 (Qe id0).bind fun t4 =>
 some (t4.1 && ((bits .and .i64 id0 (1 : Int)) == 1), ())
def Zhp (server0 : Bool) (id1 : Int) : Option (Bool × Unit) :=
 (Qe id1).bind fun t6 =>
 (bif t6.1 then (Zh1 id1) else some (false, ())).bind fun t9 =>
 some (t6.1 && (t9.1 == server0), ())
def Zco (server0 : Bool) (id1 : Int) : Option (Bool × Unit) :=
 (Qe id1).bind fun t6 =>
 (bif t6.1 then (Zad id1) else some (false, ())).bind fun t9 =>
 (bif (!t9.1) then some (false, ()) else (bif t6.1 then (Zhp server0 id1) else some (false, ()))).bind fun t14 =>
 some (t6.1 && ((!t9.1) || t14.1), ())
def Je (server0 : Bool) (id1 : Int) : Option (Bool × Unit) :=
 (Qe id1).bind fun t6 =>
 (bif t6.1 then (Zad id1) else some (false, ())).bind fun t9 =>
 (bif (!t9.1) then some (false, ()) else (bif t6.1 then (Zhp server0 id1) else some (false, ()))).bind fun t14 =>
 some (t6.1 && ((!t9.1) || (!t14.1)), ())
def Zq1 (size0 : Int) : Option (Kg × Bool × Unit) :=
 (Zaf size0).bind fun t5 =>
 bif !t5.1 then
  some (Qsz, false, ())
 else
  Zb (0 ≤ size0 ∧ size0 ≤ size0 ∧ size0 ≤ Qp) <|
  some ((size0, ((0 : Int), ((0 : Int), (List.replicate size0.toNat (0 : Int), ())))), true, ())
def Zc2 (size0 : Int) : Option (Zm × Bool × Unit) :=
 (Zq1 size0).bind fun t8 =>
 bif !t8.2.1 then
  some (Jk, false, ())
 else
  some (((0 : Int), (t8.1, (([] : List Ze), (([] : List Ze), (([] : List Ze), ((-1 : Int), Quh)))))), true, ())
def Zge (limit0 : Int) : Option (Qq × Bool × Unit) :=
 (Qe limit0).bind fun t5 =>
 bif !t5.1 then
  some (Qvo, false, ())
 else
  some ((limit0, ((0 : Int), ((-1 : Int), ((-1 : Int), ())))), true, ())
def Zgf (size0 : Int) (most1 : Int) : Option (Y3 × Bool × Unit) :=
 (Z4 most1 (1 : Int) (4096 : Int)).bind fun t7 =>
 (bif (!t7.1) then some (false, ()) else (Z4 size0 (1 : Int) most1)).bind fun t12 =>
 bif (!t7.1) || (!t12.1) then
  some (Qqi, false, ())
 else
  some ((size0, (most1, (size0, Quh))), true, ())
def Vu (server0 : Bool) (id1 : Int) (own2 : Zrg) (peer3 : Zrg) : Option (Zo × Bool × Unit) :=
 (Qe id1).bind fun t18 =>
 (bif (!t18.1) then some (false, ()) else (Zas own2)).bind fun t22 =>
 (bif ((!t18.1) || (!t22.1)) then some (false, ()) else (Zas peer3)).bind fun t27 =>
 bif ((!t18.1) || (!t22.1)) || (!t27.1) then
  some (Q7, false, ())
 else
  Option.bind Ve fun t32 =>
  Option.bind Zkh fun t33 =>
  (Zco server0 id1).bind fun t36 =>
  (Je server0 id1).bind fun t39 =>
  (Zc2 own2.1).bind fun t44 =>
  (Zge peer3.2.1).bind fun t52 =>
  (Zgf own2.2.1 own2.2.2.1).bind fun t62 =>
  some ((id1, (t44.1, (t52.1, (t33.1, (t62.1, (t32.1, (t36.1, (t39.1, (false, (false, (false, (false, ((0 : Int), (false, ())))))))))))))), true, ())
def Zmv (r0 : Kg) : Option (Kg × Unit) :=
 Zb (([] : List Int).length + r0.2.2.2.1.length ≤ Qp) <|
 some ((r0.1, (r0.2.1, (r0.2.2.1, (([] : List Int) ++ r0.2.2.2.1, ())))), ())
def Zg8 (l0 : List Ze) : Option (List Ze × Unit) :=
 Zb (([] : List Ze).length + l0.length ≤ Qp) <|
 some (([] : List Ze) ++ l0, ())
def Zaw (s0 : Zm) : Option (Zm × Unit) :=
 (Zmv s0.2.1).bind fun t7 =>
 (Zg8 s0.2.2.1).bind fun t10 =>
 (Zg8 s0.2.2.2.1).bind fun t13 =>
 (Zg8 s0.2.2.2.2.1).bind fun t16 =>
 some ((s0.1, (t7.1, (t10.1, (t13.1, (t16.1, (s0.2.2.2.2.2.1, (s0.2.2.2.2.2.2.1, (s0.2.2.2.2.2.2.2.1, (s0.2.2.2.2.2.2.2.2.1, ()))))))))), ())
abbrev Qdl : List PE := [.box 1 35 (Zbh) (.u false), .val 3 (.int .i64) (.u false)]
def V3 (r1 : Kg) (i3 : Int) : Nat := ((r1.2.2.2.1.length : Int) - i3).toNat + 1
def Zcx : Nat → Kg → Int → Option (Bool × Unit)
 | 0, _, _ => none
 | N + 1, r1, i3 =>
  bif decide (i3 < (r1.2.2.2.1.length : Int)) then
   Zb (0 ≤ i3 ∧ i3 < r1.2.2.2.1.length) <|
   (Z4 (r1.2.2.2.1.getD i3.toNat (0 : Int)) (0 : Int) (255 : Int)).bind fun t55 =>
   bif !t55.1 then
    some (false, ())
   else
    Zcx N r1 (IntKind.i64.wrap (i3 + 1))
  else
   some (true, ())
def Zat (r0 : Kg) : Option (Bool × Unit) :=
 (Zaf r0.1).bind fun t6 =>
 bif (((((!t6.1) || ((r0.2.2.2.1.length : Int) != r0.1)) || (decide (r0.2.1 < (0 : Int)))) || (decide (r0.2.2.1 < r0.2.1))) || (decide ((IntKind.i64.wrap (r0.2.2.1 - r0.2.1)) > r0.1))) || (decide (r0.2.2.1 > (4611686018427387903 : Int))) then
  some (false, ())
 else
  Zcx (V3 r0 (0 : Int)) r0 (0 : Int)
def Zpu (r0 : Ze) : Option (Bool × Unit) :=
 some (((decide (r0.1 ≥ (0 : Int))) && (decide (r0.1 < r0.2.1))) && (decide (r0.2.1 ≤ (4611686018427387903 : Int))), ())
abbrev Z6c : List PE := [.val 0 (.slice 135 (Zt)) (.u false), .val 3 (.int .i64) (.u false)]
def Wu (l0_1 : List Ze) (i3 : Int) : Nat := ((l0_1.length : Int) - i3).toNat + 1
def Vf : Nat → List Ze → Int → Option (Bool × Unit)
 | 0, _, _ => none
 | N + 1, l0_1, i3 =>
  bif decide (i3 < (l0_1.length : Int)) then
   Zb (0 ≤ i3 ∧ i3 < l0_1.length) <|
   (Zpu (l0_1.getD i3.toNat Zu)).bind fun t14 =>
   Zb (((!t14.1) = false → ((decide (i3 > (0 : Int))) = true → (0 ≤ (IntKind.i64.wrap (i3 - 1)) ∧ (IntKind.i64.wrap (i3 - 1)) < l0_1.length)))) <|
   Zb (((!t14.1) = false → ((decide (i3 > (0 : Int))) = true → (0 ≤ i3 ∧ i3 < l0_1.length)))) <|
   bif (!t14.1) || ((decide (i3 > (0 : Int))) && (decide ((l0_1.getD (IntKind.i64.wrap (i3 - 1)).toNat Zu).2.1 ≥ (l0_1.getD i3.toNat Zu).1))) then
    some (false, ())
   else
    Vf N l0_1 (IntKind.i64.wrap (i3 + 1))
  else
   some (true, ())
def Y4 (l0 : List Ze) : Option (Bool × Unit) :=
 Vf (Wu l0 (0 : Int)) l0 (0 : Int)
abbrev Z55 : List PE := [.val 0 (.slice 135 (Zt)) (.u false), .box 3 135 (Zt) (.u false), .val 5 (.slice 135 (Zt)) (.u true), .val 6 (.bool) (.u false), .val 7 (.int .i64) (.u false)]
def Vc (K1 : (List Ze × Ze × List Ze × Bool × Int × Unit) → Option (List Ze × Unit)) (l0_2 : List Ze) (r3_1 : Ze) (out5_1 : List Ze) (placed6_1 : Bool) (i7_1 : Int) : Option (List Ze × Unit) :=
 K1 (l0_2, r3_1, out5_1, placed6_1, IntKind.i64.wrap (i7_1 + 1), ())
abbrev Z56 : List PE := [.val 0 (.slice 135 (Zt)) (.u false), .box 3 135 (Zt) (.u false), .val 5 (.slice 135 (Zt)) (.u true), .val 6 (.bool) (.u false), .val 7 (.int .i64) (.u false)]
def Zf2 (K1 : (List Ze × Ze × List Ze × Bool × Int × Unit) → Option (List Ze × Unit)) (l0_3 : List Ze) (r3_2 : Ze) (out5_2 : List Ze) (placed6_2 : Bool) (i7_2 : Int) : Option (List Ze × Unit) :=
 Zb (0 ≤ i7_2 ∧ i7_2 < l0_3.length) <|
 Zb (out5_2.length + ([(l0_3.getD i7_2.toNat Zu)]).length ≤ Qp) <|
 Vc K1 l0_3 r3_2 (out5_2 ++ ([(l0_3.getD i7_2.toNat Zu)])) placed6_2 i7_2
abbrev Z57 : List PE := [.val 0 (.slice 135 (Zt)) (.u false), .box 3 135 (Zt) (.u false), .val 5 (.slice 135 (Zt)) (.u true), .val 6 (.bool) (.u false), .val 7 (.int .i64) (.u false)]
def Zdl (l0_1 : List Ze) (r3 : Ze) (out5 : List Ze) (placed6 : Bool) (i7 : Int) : Nat := ((l0_1.length : Int) - i7).toNat + 1
def X8 : Nat → List Ze → Ze → List Ze → Bool → Int → Option (List Ze × Unit)
 | 0, _, _, _, _, _ => none
 | N + 1, l0_1, r3, out5, placed6, i7 =>
  bif decide (i7 < (l0_1.length : Int)) then
   Zb (0 ≤ i7 ∧ i7 < l0_1.length) <|
   bif decide ((l0_1.getD i7.toNat Zu).2.1 < r3.1) then
    Zb (0 ≤ i7 ∧ i7 < l0_1.length) <|
    Zb (out5.length + ([(l0_1.getD i7.toNat Zu)]).length ≤ Qp) <|
    Vc (fun v => X8 N v.1 v.2.1 v.2.2.1 v.2.2.2.1 v.2.2.2.2.1) l0_1 r3 (out5 ++ ([(l0_1.getD i7.toNat Zu)])) placed6 i7
   else
    Zb (0 ≤ i7 ∧ i7 < l0_1.length) <|
    bif decide ((l0_1.getD i7.toNat Zu).1 > r3.2.1) then
     bif !placed6 then
      Zb (out5.length + ([r3]).length ≤ Qp) <|
      Zf2 (fun v => X8 N v.1 v.2.1 v.2.2.1 v.2.2.2.1 v.2.2.2.2.1) l0_1 r3 (out5 ++ ([r3])) true i7
     else
      Zf2 (fun v => X8 N v.1 v.2.1 v.2.2.1 v.2.2.2.1 v.2.2.2.2.1) l0_1 r3 out5 placed6 i7
    else
     Zb (0 ≤ i7 ∧ i7 < l0_1.length) <|
     Zb (0 ≤ i7 ∧ i7 < l0_1.length) <|
     Vc (fun v => X8 N v.1 v.2.1 v.2.2.1 v.2.2.2.1 v.2.2.2.2.1) l0_1 (min r3.1 (l0_1.getD i7.toNat Zu).1, (max r3.2.1 (l0_1.getD i7.toNat Zu).2.1, r3.2.2)) out5 placed6 i7
  else
   bif !placed6 then
    Zb (out5.length + ([r3]).length ≤ Qp) <|
    some (out5 ++ ([r3]), ())
   else
    some (out5, ())
def Vi (l0 : List Ze) (r1 : Ze) : Option (List Ze × Unit) :=
 (Y4 l0).bind fun t9 =>
 (bif (!t9.1) then some (false, ()) else (Zpu r1)).bind fun t13 =>
 bif (!t9.1) || (!t13.1) then
  (Zg8 l0).bind fun t17 =>
  some (t17.1, ())
 else
  X8 (Zdl l0 r1 ([] : List Ze) false (0 : Int)) l0 r1 ([] : List Ze) false (0 : Int)
abbrev Zwm : List PE := [.val 0 (.slice 135 (Zt)) (.u false), .val 3 (.int .i64) (.u false), .val 4 (.int .i64) (.u false)]
def Wf (l0_1 : List Ze) (n3 : Int) (i4 : Int) : Nat := ((l0_1.length : Int) - i4).toNat + 1
def Yq : Nat → List Ze → Int → Int → Option (Int × Unit)
 | 0, _, _, _ => none
 | N + 1, l0_1, n3, i4 =>
  bif decide (i4 < (l0_1.length : Int)) then
   Zb (0 ≤ i4 ∧ i4 < l0_1.length) <|
   Zb (0 ≤ i4 ∧ i4 < l0_1.length) <|
   Yq N l0_1 (IntKind.i64.wrap ((IntKind.i64.wrap (n3 + (l0_1.getD i4.toNat Zu).2.1)) - (l0_1.getD i4.toNat Zu).1)) (IntKind.i64.wrap (i4 + 1))
  else
   some (n3, ())
def Kc (l0 : List Ze) : Option (Int × Unit) :=
 (Y4 l0).bind fun t6 =>
 bif !t6.1 then
  some ((-1 : Int), ())
 else
  Yq (Wf l0 (0 : Int) (0 : Int)) l0 (0 : Int) (0 : Int)
abbrev Z59 : List PE := [.val 0 (.slice 135 (Zt)) (.u false), .val 1 (.int .i64) (.u false), .val 5 (.int .i64) (.u false)]
def Zga (K1 : (List Ze × Int × Int × Unit) → Option (Int × Unit)) (l0_2 : List Ze) (from1_2 : Int) (i5_1 : Int) : Option (Int × Unit) :=
 K1 (l0_2, from1_2, IntKind.i64.wrap (i5_1 + 1), ())
abbrev Z6a : List PE := [.val 0 (.slice 135 (Zt)) (.u false), .val 1 (.int .i64) (.u false), .val 5 (.int .i64) (.u false)]
def Zir (l0_1 : List Ze) (from1_1 : Int) (i5 : Int) : Nat := ((l0_1.length : Int) - i5).toNat + 1
def K6 : Nat → List Ze → Int → Int → Option (Int × Unit)
 | 0, _, _, _ => none
 | N + 1, l0_1, from1_1, i5 =>
  bif decide (i5 < (l0_1.length : Int)) then
   Zb (0 ≤ i5 ∧ i5 < l0_1.length) <|
   let t25 : Bool := decide (from1_1 ≥ (l0_1.getD i5.toNat Zu).1)
   Zb ((t25 = true → (0 ≤ i5 ∧ i5 < l0_1.length))) <|
   bif t25 && (decide (from1_1 < (l0_1.getD i5.toNat Zu).2.1)) then
    Zb (0 ≤ i5 ∧ i5 < l0_1.length) <|
    Zga (fun v => K6 N v.1 v.2.1 v.2.2.1) l0_1 (l0_1.getD i5.toNat Zu).2.1 i5
   else
    Zga (fun v => K6 N v.1 v.2.1 v.2.2.1) l0_1 from1_1 i5
  else
   some (from1_1, ())
def Ze2 (l0 : List Ze) (from1 : Int) : Option (Int × Unit) :=
 (Y4 l0).bind fun t7 =>
 bif (!t7.1) || (decide (from1 < (0 : Int))) then
  some ((-1 : Int), ())
 else
  K6 (Zir l0 from1 (0 : Int)) l0 from1 (0 : Int)
def Zag (s0 : Zm) : Option (Int × Unit) :=
 bif (s0.2.2.2.2.2.2.1 == 3) && (s0.2.1.2.1 == s0.2.1.2.2.1) then
  some ((3 : Int), ())
 else
  bif (decide (s0.2.2.2.2.2.2.1 > (1 : Int))) || ((s0.2.2.2.2.2.2.1 == 1) && (s0.1 == 2)) then
   some ((2 : Int), ())
  else
   bif (decide (s0.2.2.2.2.2.2.2.1 > (0 : Int))) || ((s0.2.2.2.2.2.2.1 == 1) && (s0.1 == 1)) then
    some ((1 : Int), ())
   else
    some ((0 : Int), ())
abbrev Z6g : List PE := [.box 1 38 (Zy) (.u false), .val 8 (.int .i64) (.u false)]
def Zdq (s1_3 : Zm) (i8 : Int) : Nat := ((s1_3.2.2.2.2.1.length : Int) - i8).toNat + 1
def W8 : Nat → Zm → Int → Option (Bool × Unit)
 | 0, _, _ => none
 | N + 1, s1_3, i8 =>
  bif decide (i8 < (s1_3.2.2.2.2.1.length : Int)) then
   Zb (0 ≤ i8 ∧ i8 < s1_3.2.2.2.2.1.length) <|
   bif decide ((s1_3.2.2.2.2.1.getD i8.toNat Zu).2.1 > s1_3.2.2.2.2.2.2.2.1) then
    some (false, ())
   else
    W8 N s1_3 (IntKind.i64.wrap (i8 + 1))
  else
   bif (!((s1_3.2.2.2.2.2.2.1 == 0) == (s1_3.2.2.2.2.2.1 == (-1 : Int)))) || ((s1_3.2.2.2.2.2.1 != (-1 : Int)) && (s1_3.2.2.2.2.2.1 != s1_3.2.1.2.2.1)) then
    some (false, ())
   else
    (Zag s1_3).bind fun t244 =>
    some (s1_3.1 == t244.1, ())
abbrev Z6f : List PE := [.box 1 38 (Zy) (.u false), .val 7 (.int .i64) (.u false)]
def Ww (s1_2 : Zm) (i7 : Int) : Nat := ((s1_2.2.2.2.1.length : Int) - i7).toNat + 1
def W7 : Nat → Zm → Int → Option (Bool × Unit)
 | 0, _, _ => none
 | N + 1, s1_2, i7 =>
  bif decide (i7 < (s1_2.2.2.2.1.length : Int)) then
   Zb (0 ≤ i7 ∧ i7 < s1_2.2.2.2.1.length) <|
   bif decide ((s1_2.2.2.2.1.getD i7.toNat Zu).2.1 > s1_2.2.2.2.2.2.2.2.1) then
    some (false, ())
   else
    W7 N s1_2 (IntKind.i64.wrap (i7 + 1))
  else
   W8 (Zdq s1_2 (0 : Int)) s1_2 (0 : Int)
abbrev Z6e : List PE := [.box 1 38 (Zy) (.u false), .val 3 (.slice 135 (Zt)) (.u false), .val 5 (.int .i64) (.u false)]
def Wv (s1_1 : Zm) (all3_1 : List Ze) (i5 : Int) : Nat := ((s1_1.2.2.2.2.1.length : Int) - i5).toNat + 1
def W6 : Nat → Zm → List Ze → Int → Option (Bool × Unit)
 | 0, _, _, _ => none
 | N + 1, s1_1, all3_1, i5 =>
  bif decide (i5 < (s1_1.2.2.2.2.1.length : Int)) then
   Zb (0 ≤ i5 ∧ i5 < s1_1.2.2.2.2.1.length) <|
   (Vi all3_1 (s1_1.2.2.2.2.1.getD i5.toNat Zu)).bind fun t134 =>
   W6 N s1_1 t134.1 (IntKind.i64.wrap (i5 + 1))
  else
   (Kc s1_1.2.2.1).bind fun t137 =>
   (Kc s1_1.2.2.2.1).bind fun t140 =>
   (Kc s1_1.2.2.2.2.1).bind fun t144 =>
   (Kc all3_1).bind fun t147 =>
   let t158 : Bool := (t147.1 != s1_1.2.1.2.2.1) || ((IntKind.i64.wrap ((IntKind.i64.wrap (t137.1 + t140.1)) + t144.1)) != s1_1.2.1.2.2.1)
   Zb ((t158 = false → ((decide (s1_1.2.1.2.2.1 > (0 : Int))) = true → (0 ≤ (0 : Int) ∧ (0 : Int) < all3_1.length)))) <|
   let t174 : Bool := t158 || ((decide (s1_1.2.1.2.2.1 > (0 : Int))) && ((all3_1.getD (0 : Int).toNat Zu).2.1 != s1_1.2.1.2.2.1))
   (bif t174 then some ((0 : Int), ()) else (Ze2 s1_1.2.2.2.2.1 (0 : Int))).bind fun t178 =>
   bif (t174 || (t178.1 != s1_1.2.1.2.1)) || (s1_1.2.2.2.2.2.2.2.2.1 != 0) then
    some (false, ())
   else
    W7 (Ww s1_1 (0 : Int)) s1_1 (0 : Int)
abbrev Z6d : List PE := [.box 1 38 (Zy) (.u false), .val 3 (.slice 135 (Zt)) (.u false), .val 4 (.int .i64) (.u false)]
def Jr (s1 : Zm) (all3 : List Ze) (i4 : Int) : Nat := ((s1.2.2.2.1.length : Int) - i4).toNat + 1
def W5 : Nat → Zm → List Ze → Int → Option (Bool × Unit)
 | 0, _, _, _ => none
 | N + 1, s1, all3, i4 =>
  bif decide (i4 < (s1.2.2.2.1.length : Int)) then
   Zb (0 ≤ i4 ∧ i4 < s1.2.2.2.1.length) <|
   (Vi all3 (s1.2.2.2.1.getD i4.toNat Zu)).bind fun t120 =>
   W5 N s1 t120.1 (IntKind.i64.wrap (i4 + 1))
  else
   W6 (Wv s1 all3 (0 : Int)) s1 all3 (0 : Int)
def Ym (s0 : Zm) : Option (Bool × Unit) :=
 (Zat s0.2.1).bind fun t11 =>
 (bif (!t11.1) then some (false, ()) else (Y4 s0.2.2.1)).bind fun t16 =>
 (bif ((!t11.1) || (!t16.1)) then some (false, ()) else (Y4 s0.2.2.2.1)).bind fun t22 =>
 let t24 : Bool := ((!t11.1) || (!t16.1)) || (!t22.1)
 (bif t24 then some (false, ()) else (Y4 s0.2.2.2.2.1)).bind fun t28 =>
 (bif (t24 || (!t28.1)) then some (false, ()) else (Z4 s0.2.2.2.2.2.2.2.1 (0 : Int) s0.2.1.2.2.1)).bind fun t37 =>
 let t39 : Bool := (t24 || (!t28.1)) || (!t37.1)
 (bif t39 then some (false, ()) else (Qe s0.2.2.2.2.2.2.2.2.1)).bind fun t43 =>
 (bif (t39 || (!t43.1)) then some (false, ()) else (Z4 s0.2.2.2.2.2.2.1 (0 : Int) (3 : Int))).bind fun t49 =>
 bif (t39 || (!t43.1)) || (!t49.1) then
  some (false, ())
 else
  bif (s0.1 == 4) || (s0.1 == 5) then
   some (((((((s0.2.1.2.1 == s0.2.1.2.2.1) && ((s0.2.2.1.length : Int) == (0 : Int))) && ((s0.2.2.2.1.length : Int) == (0 : Int))) && ((s0.2.2.2.2.1.length : Int) == (0 : Int))) && (s0.2.2.2.2.2.1 == s0.2.2.2.2.2.2.2.1)) && (s0.2.2.2.2.2.2.1 == 0)) && (s0.2.2.2.2.2.2.2.1 == s0.2.1.2.2.1), ())
  else
   W5 (Jr s0 s0.2.2.1 (0 : Int)) s0 s0.2.2.1 (0 : Int)
def Z0t (r0 : Kg) : Option (Int × Unit) :=
 (Zat r0).bind fun t4 =>
 bif !t4.1 then
  some ((0 : Int), ())
 else
  some (min (IntKind.i64.wrap (r0.1 - (IntKind.i64.wrap (r0.2.2.1 - r0.2.1)))) (IntKind.i64.wrap ((4611686018427387903 : Int) - r0.2.2.1)), ())
abbrev Z20 : List PE := [.val 1 (.str) (.u false), .box 2 35 (Zbh) (.u false), .box 4 35 (Zbh) (.u true), .box 6 35 (Zbh) (.u true), .val 7 (.int .i64) (.u false), .val 8 (.int .i64) (.u false)]
def Zbz (data1_1 : List UInt8) (r2 : Kg) (t4 : Kg) (x6 : Kg) (n7 : Int) (i8 : Int) : Nat := (n7 - i8).toNat + 1
def Vv : Nat → List UInt8 → Kg → Kg → Kg → Int → Int → Option (Kg × Int × Unit)
 | 0, _, _, _, _, _, _ => none
 | N + 1, data1_1, r2, t4, x6, n7, i8 =>
  bif decide (i8 < n7) then
   Zb (r2.1 ≠ 0) <|
   let t29 : Int := Int.tmod (IntKind.i64.wrap (r2.2.2.1 + i8)) r2.1
   Zb (0 ≤ i8 ∧ i8 < data1_1.length) <|
   Zb (0 ≤ t29 ∧ t29 < x6.2.2.2.1.length) <|
   Vv N data1_1 r2 t4 (x6.1, (x6.2.1, (x6.2.2.1, (x6.2.2.2.1.set t29.toNat (IntKind.i64.wrap ((data1_1.getD i8.toNat 0).toNat : Int)), x6.2.2.2.2)))) n7 (IntKind.i64.wrap (i8 + 1))
  else
   some ((x6.1, (x6.2.1, (IntKind.i64.wrap (r2.2.2.1 + n7), x6.2.2.2))), n7, ())
def Znw (r0 : Kg) (data1 : List UInt8) : Option (Kg × Int × Unit) :=
 (Zmv r0).bind fun t10 =>
 (Z0t r0).bind fun t12 =>
 Vv (Zbz data1 r0 Qsz t10.1 (min t12.1 (data1.length : Int)) (0 : Int)) data1 r0 Qsz t10.1 (min t12.1 (data1.length : Int)) (0 : Int)
abbrev Zye : List PE := [.box 4 38 (Zy) (.u true), .box 6 38 (Zy) (.p (.u false) (.u true)), .box 7 35 (Zbh) (.u true), .val 8 (.int .i64) (.u false)]
def Zfl (t4 : Zm) (x6 : Zm) (r7 : Kg) (n8 : Int) : Option (Zm × Int × Unit) :=
 some ((x6.1, (r7, x6.2.2)), n8, ())
def Zgr (s0 : Zm) (data1 : List UInt8) : Option (Zm × Int × Unit) :=
 (Zaw s0).bind fun t10 =>
 (Ym s0).bind fun t12 =>
 bif ((!t12.1) || (decide (s0.1 > (1 : Int)))) || (s0.2.2.2.2.2.1 != (-1 : Int)) then
  some (t10.1, (0 : Int), ())
 else
  (Znw s0.2.1 data1).bind fun t29 =>
  bif decide (t29.2.1 > (0 : Int)) then
   (Vi s0.2.2.1 (s0.2.1.2.2.1, (t29.1.2.2.1, ()))).bind fun t42 =>
   Zfl Jk (t10.1.1, (t10.1.2.1, (t42.1, t10.1.2.2.2))) t29.1 t29.2.1
  else
   Zfl Jk t10.1 t29.1 t29.2.1
abbrev Zxu : List PE := [.val 0 (.int .i64) (.u false), .val 1 (.int .i64) (.u false), .val 5 (.str) (.u false), .val 6 (.int .i64) (.u false)]
def Zk9 (n0_1 : Int) (width1_1 : Int) (out5_1 : List UInt8) (i6 : Int) : Nat := (width1_1 - i6).toNat + 1
def Vz : Nat → Int → Int → List UInt8 → Int → Option (List UInt8 × Unit)
 | 0, _, _, _, _ => none
 | N + 1, n0_1, width1_1, out5_1, i6 =>
  bif decide (i6 < width1_1) then
   Zb ((256 : Int) ≠ 0) <|
   let t23 : List UInt8 := Z6 ([(IntKind.u8.wrap (Int.tmod n0_1 (256 : Int)))])
   Zb (t23.length + out5_1.length ≤ Z5) <|
   Zb ((256 : Int) ≠ 0) <|
   Vz N (IntKind.i64.wrap (Int.tdiv n0_1 (256 : Int))) width1_1 (t23 ++ out5_1) (IntKind.i64.wrap (i6 + 1))
  else
   bif decide (n0_1 > (0 : Int)) then
    some (([] : List UInt8), ())
   else
    some (out5_1, ())
def Zok (n0 : Int) (width1 : Int) : Option (List UInt8 × Unit) :=
 (Z4 width1 (1 : Int) (7 : Int)).bind fun t8 =>
 bif (!t8.1) || (decide (n0 < (0 : Int))) then
  some (([] : List UInt8), ())
 else
  Vz (Zk9 n0 width1 ([] : List UInt8) (0 : Int)) n0 width1 ([] : List UInt8) (0 : Int)
def Zmu (n0 : Int) : Option (List UInt8 × Unit) :=
 (Zok (bits .and .i64 n0 (255 : Int)) (1 : Int)).bind fun t5 =>
 some (t5.1, ())
abbrev Z6l : List PE := [.val 1 (.int .i64) (.u false), .val 2 (.int .i64) (.u false), .box 3 35 (Zbh) (.u false), .val 8 (.str) (.u false), .val 9 (.int .i64) (.u false)]
def Zdr (offset1_1 : Int) (n2_1 : Int) (r3 : Kg) (s8_1 : List UInt8) (i9 : Int) : Nat := (n2_1 - i9).toNat + 1
def Zgm : Nat → Int → Int → Kg → List UInt8 → Int → Option (List UInt8 × Bool × Unit)
 | 0, _, _, _, _, _ => none
 | N + 1, offset1_1, n2_1, r3, s8_1, i9 =>
  bif decide (i9 < n2_1) then
   Zb (r3.1 ≠ 0) <|
   let t50 : Int := Int.tmod (IntKind.i64.wrap (offset1_1 + i9)) r3.1
   Zb (0 ≤ t50 ∧ t50 < r3.2.2.2.1.length) <|
   (Zmu (r3.2.2.2.1.getD t50.toNat (0 : Int))).bind fun t53 =>
   Zb (s8_1.length + t53.1.length ≤ Z5) <|
   Zgm N offset1_1 n2_1 r3 (s8_1 ++ t53.1) (IntKind.i64.wrap (i9 + 1))
  else
   some (s8_1, true, ())
def Zlc (r0 : Kg) (offset1 : Int) (n2 : Int) : Option (List UInt8 × Bool × Unit) :=
 (Zat r0).bind fun t11 =>
 bif ((((!t11.1) || (decide (offset1 < r0.2.1))) || (decide (n2 < (0 : Int)))) || (decide (offset1 > r0.2.2.1))) || (decide (n2 > (IntKind.i64.wrap (r0.2.2.1 - offset1)))) then
  some (([] : List UInt8), false, ())
 else
  Zgm (Zdr offset1 n2 r0 ([] : List UInt8) (0 : Int)) offset1 n2 r0 ([] : List UInt8) (0 : Int)
abbrev Z2t : List PE := [.box 3 38 (Zy) (.u false), .box 6 242 (Vg) (.u false), .box 8 242 (Vg) (.u false), .box 9 135 (Zt) (.u false), .val 10 (.int .i64) (.u false)]
def Zel (s3 : Zm) (t6 : Yh) (p8 : Yh) (r9 : Ze) (high10 : Int) : Option (Yh × Bool × Unit) :=
 bif decide (high10 ≤ r9.1) then
  some (Zmm, false, ())
 else
  (Zlc s3.2.1 r9.1 (IntKind.i64.wrap (high10 - r9.1))).bind fun t70 =>
  some ((r9.1, (t70.1, (p8.2.2.1 && (high10 == s3.2.2.2.2.2.1), ()))), true, ())
def Zc3 (s0 : Zm) (most1 : Int) (limit2 : Int) : Option (Yh × Bool × Unit) :=
 (Ym s0).bind fun t14 =>
 bif (!t14.1) || (decide (s0.1 > (2 : Int))) then
  some (Zmm, false, ())
 else
  bif decide ((s0.2.2.1.length : Int) > (0 : Int)) then
   Zb (0 ≤ (0 : Int) ∧ (0 : Int) < s0.2.2.1.length) <|
   let t39 : Int := min (s0.2.2.1.getD (0 : Int).toNat Zu).2.1 limit2
   bif decide (t39 ≤ (s0.2.2.1.getD (0 : Int).toNat Zu).1) then
    some (Zmm, false, ())
   else
    bif decide (most1 < (IntKind.i64.wrap (t39 - (s0.2.2.1.getD (0 : Int).toNat Zu).1))) then
     Zel s0 Zmm (s0.2.2.2.2.2.1, (([] : List UInt8), (s0.2.2.2.2.2.2.1 == 1, ()))) (s0.2.2.1.getD (0 : Int).toNat Zu) (IntKind.i64.wrap ((s0.2.2.1.getD (0 : Int).toNat Zu).1 + (max most1 (0 : Int))))
    else
     Zel s0 Zmm (s0.2.2.2.2.2.1, (([] : List UInt8), (s0.2.2.2.2.2.2.1 == 1, ()))) (s0.2.2.1.getD (0 : Int).toNat Zu) t39
  else
   bif !(s0.2.2.2.2.2.2.1 == 1) then
    some (Zmm, false, ())
   else
    some ((s0.2.2.2.2.2.1, (([] : List UInt8), (s0.2.2.2.2.2.2.1 == 1, ()))), true, ())
def Zn3 (s0 : Zm) (p1 : Yh) : Option (Bool × Unit) :=
 some ((((decide (p1.1 ≥ (0 : Int))) && (decide (p1.1 ≤ s0.2.1.2.2.1))) && (decide ((p1.2.1.length : Int) ≤ (IntKind.i64.wrap (s0.2.1.2.2.1 - p1.1))))) && ((!p1.2.2.1) || ((s0.2.2.2.2.2.1 != (-1 : Int)) && ((IntKind.i64.wrap (p1.1 + (p1.2.1.length : Int))) == s0.2.2.2.2.2.1))), ())
def Zkm (p0 : Yh) : Option (Ze × Unit) :=
 some ((p0.1, (IntKind.i64.wrap (p0.1 + (p0.2.1.length : Int)), ())), ())
abbrev Zwi : List PE := [.val 0 (.slice 135 (Zt)) (.u false), .val 1 (.slice 135 (Zt)) (.u false), .val 5 (.slice 135 (Zt)) (.u true), .val 6 (.int .i64) (.u false), .val 7 (.int .i64) (.u false)]
def Zed (K1 : (List Ze × List Ze × List Ze × Int × Unit) → Option (List Ze × Unit)) (K2 : (List Ze × List Ze × List Ze × Int × Int × Unit) → Option (List Ze × Unit)) (a0_3 : List Ze) (b1_3 : List Ze) (out5_2 : List Ze) (i6_2 : Int) (k7_1 : Int) : Option (List Ze × Unit) :=
 K2 (a0_3, b1_3, out5_2, i6_2, IntKind.i64.wrap (k7_1 + 1), ())
abbrev Zwj : List PE := [.val 0 (.slice 135 (Zt)) (.u false), .val 1 (.slice 135 (Zt)) (.u false), .val 5 (.slice 135 (Zt)) (.u true), .val 6 (.int .i64) (.u false), .val 7 (.int .i64) (.u false), .box 8 135 (Zt) (.u false)]
def Zjo (K1 : (List Ze × List Ze × List Ze × Int × Unit) → Option (List Ze × Unit)) (K2 : (List Ze × List Ze × List Ze × Int × Int × Unit) → Option (List Ze × Unit)) (a0_4 : List Ze) (b1_4 : List Ze) (out5_3 : List Ze) (i6_3 : Int) (k7_2 : Int) (r8 : Ze) : Option (List Ze × Unit) :=
 bif decide (r8.1 < r8.2.1) then
  Zb (out5_3.length + ([r8]).length ≤ Qp) <|
  Zed K1 K2 a0_4 b1_4 (out5_3 ++ ([r8])) i6_3 k7_2
 else
  Zed K1 K2 a0_4 b1_4 out5_3 i6_3 k7_2
abbrev Zwl : List PE := [.val 0 (.slice 135 (Zt)) (.u false), .val 1 (.slice 135 (Zt)) (.u false), .val 5 (.slice 135 (Zt)) (.u true), .val 6 (.int .i64) (.u false), .val 7 (.int .i64) (.u false)]
def We (a0_2 : List Ze) (b1_2 : List Ze) (out5_1 : List Ze) (i6_1 : Int) (k7 : Int) : Nat := ((b1_2.length : Int) - k7).toNat + 1
def Vd (K1 : (List Ze × List Ze × List Ze × Int × Unit) → Option (List Ze × Unit)) : Nat → List Ze → List Ze → List Ze → Int → Int → Option (List Ze × Unit)
 | 0, _, _, _, _, _ => none
 | N + 1, a0_2, b1_2, out5_1, i6_1, k7 =>
  bif decide (k7 < (b1_2.length : Int)) then
   Zb (0 ≤ i6_1 ∧ i6_1 < a0_2.length) <|
   Zb (0 ≤ k7 ∧ k7 < b1_2.length) <|
   let t40 : Int := max (a0_2.getD i6_1.toNat Zu).1 (b1_2.getD k7.toNat Zu).1
   Zb (0 ≤ i6_1 ∧ i6_1 < a0_2.length) <|
   Zb (0 ≤ k7 ∧ k7 < b1_2.length) <|
   let t51 : Int := min (a0_2.getD i6_1.toNat Zu).2.1 (b1_2.getD k7.toNat Zu).2.1
   Qf 1 (
    Zjo K1 (fun v => Vd K1 N v.1 v.2.1 v.2.2.1 v.2.2.2.1 v.2.2.2.2.1) a0_2 b1_2 out5_1 i6_1 k7 (t40, (t51, ()))
   )
  else
   K1 (a0_2, b1_2, out5_1, IntKind.i64.wrap (i6_1 + 1), ())
abbrev Zwk : List PE := [.val 0 (.slice 135 (Zt)) (.u false), .val 1 (.slice 135 (Zt)) (.u false), .val 5 (.slice 135 (Zt)) (.u true), .val 6 (.int .i64) (.u false)]
def Wd (a0_1 : List Ze) (b1_1 : List Ze) (out5 : List Ze) (i6 : Int) : Nat := ((a0_1.length : Int) - i6).toNat + 1
def Ko : Nat → List Ze → List Ze → List Ze → Int → Option (List Ze × Unit)
 | 0, _, _, _, _ => none
 | N + 1, a0_1, b1_1, out5, i6 =>
  (bif (decide (i6 < (a0_1.length : Int))) then (Y4 a0_1) else some (false, ())).bind fun t16 =>
  let t17 : Bool := (decide (i6 < (a0_1.length : Int))) && t16.1
  (bif t17 then (Y4 b1_1) else some (false, ())).bind fun t20 =>
  bif t17 && t20.1 then
   Vd (fun v => Ko N v.1 v.2.1 v.2.2.1 v.2.2.2.1) (We a0_1 b1_1 out5 i6 (0 : Int)) a0_1 b1_1 out5 i6 (0 : Int)
  else
   some (out5, ())
def Za4 (a0 : List Ze) (b1 : List Ze) : Option (List Ze × Unit) :=
 Ko (Wd a0 b1 ([] : List Ze) (0 : Int)) a0 b1 ([] : List Ze) (0 : Int)
abbrev Zya : List PE := [.val 0 (.slice 135 (Zt)) (.u false), .box 3 135 (Zt) (.u false), .val 5 (.slice 135 (Zt)) (.u true), .val 6 (.int .i64) (.u false)]
def Zfk (K1 : (List Ze × Ze × List Ze × Int × Unit) → Option (List Ze × Unit)) (l0_2 : List Ze) (r3_1 : Ze) (out5_1 : List Ze) (i6_1 : Int) : Option (List Ze × Unit) :=
 K1 (l0_2, r3_1, out5_1, IntKind.i64.wrap (i6_1 + 1), ())
abbrev Zyb : List PE := [.val 0 (.slice 135 (Zt)) (.u false), .box 3 135 (Zt) (.u false), .val 5 (.slice 135 (Zt)) (.u true), .val 6 (.int .i64) (.u false)]
def Zbq (K1 : (List Ze × Ze × List Ze × Int × Unit) → Option (List Ze × Unit)) (l0_3 : List Ze) (r3_2 : Ze) (out5_2 : List Ze) (i6_2 : Int) : Option (List Ze × Unit) :=
 Zb (0 ≤ i6_2 ∧ i6_2 < l0_3.length) <|
 Zb (0 ≤ i6_2 ∧ i6_2 < l0_3.length) <|
 bif decide ((max (l0_3.getD i6_2.toNat Zu).1 r3_2.2.1) < (l0_3.getD i6_2.toNat Zu).2.1) then
  Zb (0 ≤ i6_2 ∧ i6_2 < l0_3.length) <|
  Zb (0 ≤ i6_2 ∧ i6_2 < l0_3.length) <|
  let t84 : List Ze := [(max (l0_3.getD i6_2.toNat Zu).1 r3_2.2.1, ((l0_3.getD i6_2.toNat Zu).2.1, ()))]
  Zb (out5_2.length + t84.length ≤ Qp) <|
  Zfk K1 l0_3 r3_2 (out5_2 ++ t84) i6_2
 else
  Zfk K1 l0_3 r3_2 out5_2 i6_2
abbrev Zyc : List PE := [.val 0 (.slice 135 (Zt)) (.u false), .box 3 135 (Zt) (.u false), .val 5 (.slice 135 (Zt)) (.u true), .val 6 (.int .i64) (.u false)]
def Zae (l0_1 : List Ze) (r3 : Ze) (out5 : List Ze) (i6 : Int) : Nat := ((l0_1.length : Int) - i6).toNat + 1
def Y5 : Nat → List Ze → Ze → List Ze → Int → Option (List Ze × Unit)
 | 0, _, _, _, _ => none
 | N + 1, l0_1, r3, out5, i6 =>
  bif decide (i6 < (l0_1.length : Int)) then
   Zb (0 ≤ i6 ∧ i6 < l0_1.length) <|
   Zb (0 ≤ i6 ∧ i6 < l0_1.length) <|
   bif decide ((l0_1.getD i6.toNat Zu).1 < (min (l0_1.getD i6.toNat Zu).2.1 r3.1)) then
    Zb (0 ≤ i6 ∧ i6 < l0_1.length) <|
    Zb (0 ≤ i6 ∧ i6 < l0_1.length) <|
    let t53 : List Ze := [((l0_1.getD i6.toNat Zu).1, (min (l0_1.getD i6.toNat Zu).2.1 r3.1, ()))]
    Zb (out5.length + t53.length ≤ Qp) <|
    Zbq (fun v => Y5 N v.1 v.2.1 v.2.2.1 v.2.2.2.1) l0_1 r3 (out5 ++ t53) i6
   else
    Zbq (fun v => Y5 N v.1 v.2.1 v.2.2.1 v.2.2.2.1) l0_1 r3 out5 i6
  else
   some (out5, ())
def Zcd (l0 : List Ze) (r1 : Ze) : Option (List Ze × Unit) :=
 (Y4 l0).bind fun t8 =>
 (bif (!t8.1) then some (false, ()) else (Zpu r1)).bind fun t12 =>
 bif (!t8.1) || (!t12.1) then
  (Zg8 l0).bind fun t16 =>
  some (t16.1, ())
 else
  Y5 (Zae l0 r1 ([] : List Ze) (0 : Int)) l0 r1 ([] : List Ze) (0 : Int)
abbrev Z2y : List PE := [.box 4 38 (Zy) (.u true), .box 6 38 (Zy) (.p (.u false) (.p (.u true) (.p (.u true) (.p (.u true) (.p (.u true) (.u false))))))]
def Zeq (t4_1 : Zm) (x6_1 : Zm) : Option (Zm × Bool × Unit) :=
 (Zag x6_1).bind fun t86 =>
 some ((t86.1, x6_1.2), true, ())
abbrev Z2x : List PE := [.box 3 242 (Vg) (.u false), .box 4 38 (Zy) (.u true), .box 6 38 (Zy) (.p (.u false) (.p (.u true) (.p (.u true) (.p (.u true) (.p (.u true) (.u false))))))]
def Zep (p3 : Yh) (t4 : Zm) (x6 : Zm) : Option (Zm × Bool × Unit) :=
 bif p3.2.2.1 then
  Zeq t4 (x6.1, (x6.2.1, (x6.2.2.1, (x6.2.2.2.1, (x6.2.2.2.2.1, (x6.2.2.2.2.2.1, ((2 : Int), x6.2.2.2.2.2.2.2)))))))
 else
  Zeq t4 x6
def Zju (s0 : Zm) (p1 : Yh) : Option (Zm × Bool × Unit) :=
 (Zaw s0).bind fun t10 =>
 (Ym s0).bind fun t12 =>
 let t18 : Bool := (!t12.1) || (decide (s0.1 > (2 : Int)))
 (bif t18 then some (false, ()) else (Zn3 s0 p1)).bind fun t22 =>
 bif ((t18 || (!t22.1)) || ((p1.2.1 == ([] : List UInt8)) && (!p1.2.2.1))) || (p1.2.2.1 && (s0.2.2.2.2.2.2.1 != 1)) then
  some (t10.1, false, ())
 else
  bif !(p1.2.1 == ([] : List UInt8)) then
   (Zkm p1).bind fun t49 =>
   (Za4 s0.2.2.1 ([t49.1])).bind fun t54 =>
   Zb ((((t54.1.length : Int) != (1 : Int)) = false → (0 ≤ (0 : Int) ∧ (0 : Int) < t54.1.length))) <|
   bif ((t54.1.length : Int) != (1 : Int)) || (!(eqV (Zt) (t54.1.getD (0 : Int).toNat Zu) t49.1)) then
    some (t10.1, false, ())
   else
    (Zcd s0.2.2.1 t49.1).bind fun t69 =>
    (Vi s0.2.2.2.1 t49.1).bind fun t74 =>
    Zep p1 Jk (t10.1.1, (t10.1.2.1, (t69.1, (t74.1, (t10.1.2.2.2.2.1, (t10.1.2.2.2.2.2.1, (t10.1.2.2.2.2.2.2.1, (max s0.2.2.2.2.2.2.2.1 t49.1.2.1, t10.1.2.2.2.2.2.2.2.2))))))))
  else
   Zep p1 Jk t10.1
abbrev Qdx : List PE := [.box 0 110 (Xg) (.u false), .box 3 38 (Zy) (.u false), .box 4 242 (Vg) (.u false), .box 5 135 (Zt) (.u false)]
def Zr6 (c0_1 : Zw) (s3 : Zm) (t4 : Yh) (r5 : Ze) : Option ((Yh × Unit) × (Zw × Unit)) :=
 (Zlc s3.2.1 r5.1 (IntKind.i64.wrap (r5.2.1 - r5.1))).bind fun t38 =>
 let t53 : Bool := (s3.2.2.2.2.2.2.1 == 2) && (r5.2.1 == s3.2.2.2.2.2.1)
 bif t53 then
  (Yr c0_1 (2 : Int)).bind fun t56 =>
  some (((r5.1, (t38.1, (t53 && t56.1.1, ()))), ()), (t56.2.1, ()))
 else
  some (((r5.1, (t38.1, (t53 && false, ()))), ()), (c0_1, ()))
def Zpv (c0 : Zw) (s1 : Zm) : Option ((Yh × Unit) × (Zw × Unit)) :=
 bif (s1.2.2.2.1.length : Int) == (0 : Int) then
  some (((max s1.2.2.2.2.2.1 (0 : Int), (([] : List UInt8), (s1.2.2.2.2.2.2.1 == 2, ()))), ()), (c0, ()))
 else
  Qf 1 (
   (Zv c0 (s1.2.2.2.1.length : Int)).bind fun t25 =>
   Zb (0 ≤ t25.1.1 ∧ t25.1.1 < s1.2.2.2.1.length) <|
   Zr6 t25.2.1 s1 Zmm (s1.2.2.2.1.getD t25.1.1.toNat Zu)
  )
abbrev Z58 : List PE := [.val 1 (.int .i64) (.u false), .box 2 35 (Zbh) (.u false), .box 4 35 (Zbh) (.u true), .box 6 35 (Zbh) (.u true), .val 7 (.int .i64) (.u false)]
def Zdo (to1_1 : Int) (r2 : Kg) (t4 : Kg) (x6 : Kg) (at7 : Int) : Nat := (to1_1 - at7).toNat + 1
def Zf5 : Nat → Int → Kg → Kg → Kg → Int → Option (Kg × Bool × Unit)
 | 0, _, _, _, _, _ => none
 | N + 1, to1_1, r2, t4, x6, at7 =>
  bif decide (at7 < to1_1) then
   Zb (r2.1 ≠ 0) <|
   Zb (0 ≤ (Int.tmod at7 r2.1) ∧ (Int.tmod at7 r2.1) < x6.2.2.2.1.length) <|
   Zf5 N to1_1 r2 t4 (x6.1, (x6.2.1, (x6.2.2.1, (x6.2.2.2.1.set (Int.tmod at7 r2.1).toNat (0 : Int), x6.2.2.2.2)))) (IntKind.i64.wrap (at7 + 1))
  else
   some ((x6.1, (to1_1, x6.2.2)), true, ())
def Zih (r0 : Kg) (to1 : Int) : Option (Kg × Bool × Unit) :=
 (Zmv r0).bind fun t9 =>
 (Zat r0).bind fun t11 =>
 bif ((!t11.1) || (decide (to1 < r0.2.1))) || (decide (to1 > r0.2.2.1)) then
  some (t9.1, false, ())
 else
  Zf5 (Zdo to1 r0 Qsz t9.1 r0.2.1) to1 r0 Qsz t9.1 r0.2.1
abbrev Z53 : List PE := [.box 4 38 (Zy) (.u true), .box 5 38 (Zy) (.p (.u false) (.p (.u true) (.p (.u true) (.p (.u true) (.p (.u true) (.u false)))))), .box 8 35 (Zbh) (.u true)]
def Xp (t4_2 : Zm) (x5_2 : Zm) (r8 : Kg) : Option (Zm × Unit) :=
 (Zag (x5_2.1, (r8, x5_2.2.2))).bind fun t78 =>
 some ((t78.1, (r8, x5_2.2.2)), ())
abbrev Z52 : List PE := [.box 2 38 (Zy) (.u false), .box 4 38 (Zy) (.u true), .box 5 38 (Zy) (.p (.u false) (.p (.u true) (.p (.u true) (.p (.u true) (.p (.u true) (.u false))))))]
def Zf0 (s2_1 : Zm) (t4_1 : Zm) (x5_1 : Zm) : Option (Zm × Unit) :=
 Z9 (
  (Ze2 x5_1.2.2.2.2.1 (0 : Int)).bind fun t71 =>
  Z9 (
   (Zih s2_1.2.1 t71.1).bind fun t72 =>
   Z9 (
    Z9 (
     Z9 (
      Xp t4_1 x5_1 t72.1
     ) (
      Qf 1 (
       Xp t4_1 x5_1 t72.1
      )
     )
    ) (
    Z9 (
     Qf 1 (
      Xp t4_1 x5_1 t72.1
     )
    ) (
     Z9 (
      Qf 1 (
       Xp t4_1 x5_1 t72.1
      )
     ) (
      Xp t4_1 x5_1 t72.1
     )
    )
    )
   ) (
    Z9 (
     Qf 1 (
      Xp t4_1 x5_1 t72.1
     )
    ) (
     Xp t4_1 x5_1 t72.1
    )
   )
  ) (
   (Zih s2_1.2.1 t71.1).bind fun t72 =>
   Z9 (
    Qf 1 (
     Xp t4_1 x5_1 t72.1
    )
   ) (
    Xp t4_1 x5_1 t72.1
   )
  )
 ) (
  (Ze2 x5_1.2.2.2.2.1 (0 : Int)).bind fun t71 =>
  (Zih s2_1.2.1 t71.1).bind fun t72 =>
  Z9 (
   Qf 1 (
    Xp t4_1 x5_1 t72.1
   )
  ) (
   Xp t4_1 x5_1 t72.1
  )
 )
abbrev Z51 : List PE := [.box 2 38 (Zy) (.u false), .box 3 242 (Vg) (.u false), .box 4 38 (Zy) (.u true), .box 5 38 (Zy) (.u true)]
def Zfz (s2 : Zm) (p3 : Yh) (t4 : Zm) (x5 : Zm) : Option (Zm × Unit) :=
 bif p3.2.2.1 && (s2.2.2.2.2.2.2.1 == 2) then
  Zf0 s2 t4 (x5.1, (x5.2.1, (x5.2.2.1, (x5.2.2.2.1, (x5.2.2.2.2.1, (x5.2.2.2.2.2.1, ((3 : Int), x5.2.2.2.2.2.2.2)))))))
 else
  Zf0 s2 t4 x5
abbrev Z54 : List PE := [.box 2 38 (Zy) (.u false), .box 3 242 (Vg) (.u false), .box 4 38 (Zy) (.u true), .box 5 38 (Zy) (.u true), .val 6 (.slice 135 (Zt)) (.u true), .val 7 (.int .i64) (.u false)]
def Ziq (s2_2 : Zm) (p3_1 : Yh) (t4_3 : Zm) (x5_3 : Zm) (c6 : List Ze) (i7 : Int) : Nat := ((c6.length : Int) - i7).toNat + 1
def Zf1 : Nat → Zm → Yh → Zm → Zm → List Ze → Int → Option (Zm × Unit)
 | 0, _, _, _, _, _, _ => none
 | N + 1, s2_2, p3_1, t4_3, x5_3, c6, i7 =>
  bif decide (i7 < (c6.length : Int)) then
   Zb (0 ≤ i7 ∧ i7 < c6.length) <|
   (Zcd x5_3.2.2.2.1 (c6.getD i7.toNat Zu)).bind fun t48 =>
   Zb (0 ≤ i7 ∧ i7 < c6.length) <|
   (Vi x5_3.2.2.2.2.1 (c6.getD i7.toNat Zu)).bind fun t56 =>
   Zf1 N s2_2 p3_1 t4_3 (x5_3.1, (x5_3.2.1, (x5_3.2.2.1, (t48.1, (t56.1, x5_3.2.2.2.2.2))))) c6 (IntKind.i64.wrap (i7 + 1))
  else
   Zfz s2_2 p3_1 t4_3 x5_3
def Zk7 (s0 : Zm) (p1 : Yh) : Option (Zm × Unit) :=
 (Zaw s0).bind fun t11 =>
 (Ym s0).bind fun t13 =>
 let t19 : Bool := (!t13.1) || (decide (s0.1 > (2 : Int)))
 (bif t19 then some (false, ()) else (Zn3 s0 p1)).bind fun t23 =>
 bif t19 || (!t23.1) then
  some (t11.1, ())
 else
  bif !(p1.2.1 == ([] : List UInt8)) then
   (Zkm p1).bind fun t33 =>
   (Za4 s0.2.2.2.1 ([t33.1])).bind fun t35 =>
   Zf1 (Ziq s0 p1 Jk t11.1 t35.1 (0 : Int)) s0 p1 Jk t11.1 t35.1 (0 : Int)
  else
   Zfz s0 p1 Jk t11.1
abbrev Z2r : List PE := [.box 4 38 (Zy) (.u true), .box 5 38 (Zy) (.p (.u false) (.p (.u true) (.p (.u true) (.p (.u true) (.p (.u true) (.u false))))))]
def Zej (t4_1 : Zm) (x5_1 : Zm) : Option (Zm × Unit) :=
 (Zag x5_1).bind fun t65 =>
 some ((t65.1, x5_1.2), ())
abbrev Z2q : List PE := [.box 2 38 (Zy) (.u false), .box 3 242 (Vg) (.u false), .box 4 38 (Zy) (.u true), .box 5 38 (Zy) (.u true)]
def Zei (s2 : Zm) (p3 : Yh) (t4 : Zm) (x5 : Zm) : Option (Zm × Unit) :=
 bif p3.2.2.1 && (s2.2.2.2.2.2.2.1 == 2) then
  Zej t4 (x5.1, (x5.2.1, (x5.2.2.1, (x5.2.2.2.1, (x5.2.2.2.2.1, (x5.2.2.2.2.2.1, ((1 : Int), x5.2.2.2.2.2.2.2)))))))
 else
  Zej t4 x5
abbrev Z2s : List PE := [.box 2 38 (Zy) (.u false), .box 3 242 (Vg) (.u false), .box 4 38 (Zy) (.u true), .box 5 38 (Zy) (.u true), .val 6 (.slice 135 (Zt)) (.u true), .val 7 (.int .i64) (.u false)]
def Zhq (s2_1 : Zm) (p3_1 : Yh) (t4_2 : Zm) (x5_2 : Zm) (c6 : List Ze) (i7 : Int) : Nat := ((c6.length : Int) - i7).toNat + 1
def Zek : Nat → Zm → Yh → Zm → Zm → List Ze → Int → Option (Zm × Unit)
 | 0, _, _, _, _, _, _ => none
 | N + 1, s2_1, p3_1, t4_2, x5_2, c6, i7 =>
  bif decide (i7 < (c6.length : Int)) then
   Zb (0 ≤ i7 ∧ i7 < c6.length) <|
   (Zcd x5_2.2.2.2.1 (c6.getD i7.toNat Zu)).bind fun t46 =>
   Zb (0 ≤ i7 ∧ i7 < c6.length) <|
   (Vi x5_2.2.2.1 (c6.getD i7.toNat Zu)).bind fun t54 =>
   Zek N s2_1 p3_1 t4_2 (x5_2.1, (x5_2.2.1, (t54.1, (t46.1, x5_2.2.2.2.2)))) c6 (IntKind.i64.wrap (i7 + 1))
  else
   Zei s2_1 p3_1 t4_2 x5_2
def Zjp (s0 : Zm) (p1 : Yh) : Option (Zm × Unit) :=
 (Zaw s0).bind fun t9 =>
 (Ym s0).bind fun t11 =>
 let t17 : Bool := (!t11.1) || (decide (s0.1 > (2 : Int)))
 (bif t17 then some (false, ()) else (Zn3 s0 p1)).bind fun t21 =>
 bif t17 || (!t21.1) then
  some (t9.1, ())
 else
  bif !(p1.2.1 == ([] : List UInt8)) then
   (Zkm p1).bind fun t31 =>
   (Za4 s0.2.2.2.1 ([t31.1])).bind fun t33 =>
   Zek (Zhq s0 p1 Jk t9.1 t33.1 (0 : Int)) s0 p1 Jk t9.1 t33.1 (0 : Int)
  else
   Zei s0 p1 Jk t9.1
def Zf4 (s0 : Zm) : Option (Zm × Bool × Unit) :=
 (Zaw s0).bind fun t6 =>
 (Ym s0).bind fun t8 =>
 bif ((!t8.1) || (decide (s0.1 > (1 : Int)))) || (s0.2.2.2.2.2.1 != (-1 : Int)) then
  some (t6.1, false, ())
 else
  some ((t6.1.1, (t6.1.2.1, (t6.1.2.2.1, (t6.1.2.2.2.1, (t6.1.2.2.2.2.1, (s0.2.1.2.2.1, ((1 : Int), t6.1.2.2.2.2.2.2.2))))))), true, ())
abbrev Zyd : List PE := [.val 1 (.int .i64) (.u false), .box 2 38 (Zy) (.u false), .box 4 38 (Zy) (.u true), .box 6 35 (Zbh) (.p (.u false) (.p (.u false) (.p (.u false) (.p (.u true) (.u false)))))]
def Zky (code1_1 : Int) (s2 : Zm) (t4 : Zm) (r6 : Kg) : Option (Zm × Bool × Unit) :=
 some (((4 : Int), (r6, (([] : List Ze), (([] : List Ze), (([] : List Ze), (s2.2.2.2.2.2.2.2.1, ((0 : Int), (s2.2.2.2.2.2.2.2.1, (code1_1, ()))))))))), true, ())
def Zce (s0 : Zm) (code1 : Int) : Option (Zm × Bool × Unit) :=
 (Ym s0).bind fun t8 =>
 let t14 : Bool := (!t8.1) || (decide (s0.1 > (2 : Int)))
 (bif t14 then some (false, ()) else (Qe code1)).bind fun t17 =>
 bif t14 || (!t17.1) then
  (Zaw s0).bind fun t21 =>
  some (t21.1, false, ())
 else
  Z9 (
   Zb (0 ≤ s0.2.1.1 ∧ s0.2.1.1 ≤ s0.2.1.1 ∧ s0.2.1.1 ≤ Qp) <|
   Qf 1 (
    Zky code1 s0 Jk (s0.2.1.1, (s0.2.2.2.2.2.2.2.1, (s0.2.2.2.2.2.2.2.1, (List.replicate s0.2.1.1.toNat (0 : Int), ()))))
   )
  ) (
   Zb (0 ≤ s0.2.1.1 ∧ s0.2.1.1 ≤ s0.2.1.1 ∧ s0.2.1.1 ≤ Qp) <|
   Zky code1 s0 Jk (s0.2.1.1, (s0.2.2.2.2.2.2.2.1, (s0.2.2.2.2.2.2.2.1, (List.replicate s0.2.1.1.toNat (0 : Int), ()))))
  )
abbrev Qd0 : List PE := [.box 0 110 (Xg) (.u false), .box 3 38 (Zy) (.u false), .box 4 38 (Zy) (.u true), .box 5 38 (Zy) (.u false), .box 6 242 (Vg) (.u false), .val 7 (.bool) (.u false)]
def Yd (c0_3 : Zw) (s3_2 : Zm) (t4_2 : Zm) (x5_2 : Zm) (p6 : Yh) (is7 : Bool) : Option ((Zm × Unit) × (Zw × Unit)) :=
 bif is7 then
  (Zju s3_2 p6).bind fun t38 =>
  some ((t38.1, ()), (c0_3, ()))
 else
  some ((x5_2, ()), (c0_3, ()))
abbrev Qdz : List PE := [.box 0 110 (Xg) (.u false), .box 3 38 (Zy) (.u false), .box 4 38 (Zy) (.u true), .box 5 38 (Zy) (.u false), .val 10 (.int .i64) (.u false), .val 22 (.bool) (.u false)]
def Zg4 (c0_2 : Zw) (s3_1 : Zm) (t4_1 : Zm) (x5_1 : Zm) (t10_2 : Int) (t22 : Bool) : Option ((Zm × Unit) × (Zw × Unit)) :=
 bif t22 then
  Z9 (
   (Zv c0_2 (4 : Int)).bind fun t29 =>
   Z9 (
    (Zc3 s3_1 (IntKind.i64.wrap ((1 : Int) + t29.1.1)) (40 : Int)).bind fun t31 =>
    Z9 (
     Z9 (
      Z9 (
       Yd t29.2.1 s3_1 t4_1 x5_1 t31.1 t31.2.1
      ) (
       Qf 1 (
        Yd t29.2.1 s3_1 t4_1 x5_1 t31.1 t31.2.1
       )
      )
     ) (
     Z9 (
      Qf 1 (
       Yd t29.2.1 s3_1 t4_1 x5_1 t31.1 t31.2.1
      )
     ) (
      Z9 (
       Qf 1 (
        Yd t29.2.1 s3_1 t4_1 x5_1 t31.1 t31.2.1
       )
      ) (
       Yd t29.2.1 s3_1 t4_1 x5_1 t31.1 t31.2.1
      )
     )
     )
    ) (
     Z9 (
      Qf 1 (
       Yd t29.2.1 s3_1 t4_1 x5_1 t31.1 t31.2.1
      )
     ) (
      Yd t29.2.1 s3_1 t4_1 x5_1 t31.1 t31.2.1
     )
    )
   ) (
    (Zc3 s3_1 (IntKind.i64.wrap ((1 : Int) + t29.1.1)) (40 : Int)).bind fun t31 =>
    Z9 (
     Qf 1 (
      Yd t29.2.1 s3_1 t4_1 x5_1 t31.1 t31.2.1
     )
    ) (
     Yd t29.2.1 s3_1 t4_1 x5_1 t31.1 t31.2.1
    )
   )
  ) (
   (Zv c0_2 (4 : Int)).bind fun t29 =>
   (Zc3 s3_1 (IntKind.i64.wrap ((1 : Int) + t29.1.1)) (40 : Int)).bind fun t31 =>
   Z9 (
    Qf 1 (
     Yd t29.2.1 s3_1 t4_1 x5_1 t31.1 t31.2.1
    )
   ) (
    Yd t29.2.1 s3_1 t4_1 x5_1 t31.1 t31.2.1
   )
  )
 else
  bif t10_2 == 6 then
   (Zpv c0_2 s3_1).bind fun t46 =>
   (Zk7 s3_1 t46.1.1).bind fun t47 =>
   some ((t47.1, ()), (t46.2.1, ()))
  else
   bif t10_2 == 7 then
    (Zpv c0_2 s3_1).bind fun t53 =>
    (Zjp s3_1 t53.1.1).bind fun t54 =>
    some ((t54.1, ()), (t53.2.1, ()))
   else
    bif t10_2 == 8 then
     (Yr c0_2 (2 : Int)).bind fun t58 =>
     bif t58.1.1 then
      (Zf4 s3_1).bind fun t61 =>
      some ((t61.1, ()), (t58.2.1, ()))
     else
      some ((x5_1, ()), (t58.2.1, ()))
    else
     bif t10_2 == 9 then
      (Yr c0_2 (4 : Int)).bind fun t67 =>
      bif t67.1.1 then
       (Zv t67.2.1 (4 : Int)).bind fun t71 =>
       (Zce s3_1 t71.1.1).bind fun t72 =>
       Z9 (
        Qf 1 (
         some ((t72.1, ()), (t71.2.1, ()))
        )
       ) (
        some ((t72.1, ()), (t71.2.1, ()))
       )
      else
       some ((x5_1, ()), (t67.2.1, ()))
     else
      some ((x5_1, ()), (c0_2, ()))
abbrev Qdy : List PE := [.box 0 110 (Xg) (.u false), .box 3 38 (Zy) (.u false), .box 4 38 (Zy) (.u true), .box 5 38 (Zy) (.u false), .val 10 (.int .i64) (.u false), .val 11 (.bool) (.u false)]
def Zg3 (c0_1 : Zw) (s3 : Zm) (t4 : Zm) (x5 : Zm) (t10_1 : Int) (t11 : Bool) : Option ((Zm × Unit) × (Zw × Unit)) :=
 bif t11 then
  (Zex c0_1 (5 : Int)).bind fun t18 =>
  (Zgr s3 t18.1.1).bind fun t19 =>
  Z9 (
   Qf 1 (
    some ((t19.1, ()), (t18.2.1, ()))
   )
  ) (
   some ((t19.1, ()), (t18.2.1, ()))
  )
 else
  bif t10_1 == 3 then
   Zg4 c0_1 s3 t4 x5 t10_1 (t10_1 == 3)
  else
   bif t10_1 == 4 then
    Zg4 c0_1 s3 t4 x5 t10_1 (t10_1 == 4)
   else
    Zg4 c0_1 s3 t4 x5 t10_1 (t10_1 == 5)
def Ztc (c0 : Zw) (s1 : Zm) : Option ((Zm × Unit) × (Zw × Unit)) :=
 (Zv c0 (10 : Int)).bind fun t10 =>
 bif t10.1.1 == 0 then
  Zg3 t10.2.1 s1 Jk s1 t10.1.1 (t10.1.1 == 0)
 else
  bif t10.1.1 == 1 then
   Zg3 t10.2.1 s1 Jk s1 t10.1.1 (t10.1.1 == 1)
  else
   Zg3 t10.2.1 s1 Jk s1 t10.1.1 (t10.1.1 == 2)
abbrev Z6r : List PE := [.box 0 110 (Xg) (.u false), .box 2 38 (Zy) (.u true), .box 3 38 (Zy) (.u false), .val 5 (.int .i64) (.u false)]
def Zds (c0_1 : Zw) (t2 : Zm) (s3 : Zm) (n5 : Int) : Nat := (n5 - 0).toNat + 1
def Zcf : Nat → Zw → Zm → Zm → Int → Option ((Zm × Unit) × (Zw × Unit))
 | 0, _, _, _, _ => none
 | N + 1, c0_1, t2, s3, n5 =>
  bif decide (n5 > (0 : Int)) then
   (Ztc c0_1 s3).bind fun t21 =>
   Zcf N t21.2.1 t2 t21.1.1 (IntKind.i64.wrap (n5 - 1))
  else
   some ((s3, ()), (c0_1, ()))
def Zpb (c0 : Zw) : Option ((Zm × Unit) × (Zw × Unit)) :=
 (Xf c0 ([(4 : Int), (8 : Int), (16 : Int)])).bind fun t9 =>
 (Zc2 t9.1.1).bind fun t10 =>
 (Zv t9.2.1 (14 : Int)).bind fun t14 =>
 Zcf (Zds t14.2.1 Jk t10.1 t14.1.1) t14.2.1 Jk t10.1 t14.1.1
def Zha (b0 : Z2) : Option (Z2 × Unit) :=
 Zb (([] : List Q2).length + b0.2.1.length ≤ Qp) <|
 some ((b0.1, (([] : List Q2) ++ b0.2.1, ())), ())
def Zka (r0 : Qb) : Option (Qb × Unit) :=
 (Zha r0.2.1).bind fun t7 =>
 some ((r0.1, (t7.1, (r0.2.2.1, (r0.2.2.2.1, (r0.2.2.2.2.1, ()))))), ())
abbrev Z6b : List PE := [.box 1 43 (Xv) (.u false), .val 3 (.int .i64) (.u false), .val 4 (.int .i64) (.u false)]
def Zis (b1 : Z2) (end3 : Int) (i4 : Int) : Nat := ((b1.2.1.length : Int) - i4).toNat + 1
def Zcb : Nat → Z2 → Int → Int → Option (Bool × Unit)
 | 0, _, _, _ => none
 | N + 1, b1, end3, i4 =>
  bif decide (i4 < (b1.2.1.length : Int)) then
   Zb (0 ≤ i4 ∧ i4 < b1.2.1.length) <|
   bif ((decide ((b1.2.1.getD i4.toNat Qm).1 ≤ end3)) || ((b1.2.1.getD i4.toNat Qm).2.1 == ([] : List UInt8))) || (decide ((b1.2.1.getD i4.toNat Qm).1 > (IntKind.i64.wrap ((4611686018427387903 : Int) - ((b1.2.1.getD i4.toNat Qm).2.1.length : Int))))) then
    some (false, ())
   else
    Zcb N b1 (IntKind.i64.wrap ((b1.2.1.getD i4.toNat Qm).1 + ((b1.2.1.getD i4.toNat Qm).2.1.length : Int))) (IntKind.i64.wrap (i4 + 1))
  else
   (Qe b1.1).bind fun t47 =>
   some (t47.1, ())
def Zb4 (b0 : Z2) : Option (Bool × Unit) :=
 Zcb (Zis b0 (IntKind.i64.wrap (b0.1 - 1)) (0 : Int)) b0 (IntKind.i64.wrap (b0.1 - 1)) (0 : Int)
def Zol (b0 : Z2) : Option (Int × Unit) :=
 (bif ((b0.2.1.length : Int) == (0 : Int)) then some (false, ()) else (Zb4 b0)).bind fun t10 =>
 bif ((b0.2.1.length : Int) == (0 : Int)) || (!t10.1) then
  some (b0.1, ())
 else
  let t20 : Int := IntKind.i64.wrap ((b0.2.1.length : Int) - (1 : Int))
  Zb (0 ≤ t20 ∧ t20 < b0.2.1.length) <|
  some (IntKind.i64.wrap ((b0.2.1.getD t20.toNat Qm).1 + ((b0.2.1.getD t20.toNat Qm).2.1.length : Int)), ())
def V7 (b0 : Z2) : Option (Int × Unit) :=
 (Zb4 b0).bind fun t4 =>
 let t11 : Bool := (!t4.1) || ((b0.2.1.length : Int) == (0 : Int))
 Zb ((t11 = false → (0 ≤ (0 : Int) ∧ (0 : Int) < b0.2.1.length))) <|
 bif t11 || ((b0.2.1.getD (0 : Int).toNat Qm).1 != b0.1) then
  some ((0 : Int), ())
 else
  Zb (0 ≤ (0 : Int) ∧ (0 : Int) < b0.2.1.length) <|
  some (((b0.2.1.getD (0 : Int).toNat Qm).2.1.length : Int), ())
abbrev Z0b : List PE := [.box 1 45 (Qt) (.u false), .val 114 (.bool) (.u false)]
def Yu (r1 : Qb) (t114 : Bool) : Option (Bool × Unit) :=
 bif t114 then
  some (((r1.2.2.1 != (-1 : Int)) && (r1.2.2.2.1 == r1.2.2.1)) && ((r1.2.1.2.1.length : Int) == (0 : Int)), ())
 else
  some (false, ())
def X9 (r0 : Qb) : Option (Bool × Unit) :=
 (Zb4 r0.2.1).bind fun t6 =>
 (bif (!t6.1) then some (false, ()) else (Qe r0.2.2.2.1)).bind fun t11 =>
 (bif ((!t6.1) || (!t11.1)) then some ((0 : Int), ()) else (Zol r0.2.1)).bind fun t17 =>
 let t21 : Bool := ((!t6.1) || (!t11.1)) || (decide (t17.1 > r0.2.2.2.1))
 (bif t21 then some (false, ()) else (Qe r0.2.2.2.2.1)).bind fun t25 =>
 bif (((t21 || (!t25.1)) || ((r0.2.2.1 != (-1 : Int)) && (decide (r0.2.2.1 < r0.2.2.2.1)))) || (decide (r0.2.2.1 > (4611686018427387903 : Int)))) || (decide (r0.2.2.1 < (-1 : Int))) then
  some (false, ())
 else
  (bif (r0.2.2.1 != (-1 : Int)) then (V7 r0.2.1) else some ((0 : Int), ())).bind fun t59 =>
  let t64 : Bool := (r0.2.2.1 != (-1 : Int)) && ((IntKind.i64.wrap (r0.2.1.1 + t59.1)) == r0.2.2.1)
  bif r0.1 == 0 then
   some ((r0.2.2.1 == (-1 : Int)) && (r0.2.2.2.2.1 == 0), ())
  else
   bif r0.1 == 1 then
    some (((r0.2.2.1 != (-1 : Int)) && (!t64)) && (r0.2.2.2.2.1 == 0), ())
   else
    bif r0.1 == 2 then
     some (t64 && (r0.2.2.2.2.1 == 0), ())
    else
     bif r0.1 == 3 then
      some ((t64 && ((r0.2.1.2.1.length : Int) == (0 : Int))) && (r0.2.2.2.2.1 == 0), ())
     else
      bif r0.1 == 4 then
       Yu r0 (r0.1 == 4)
      else
       Yu r0 (r0.1 == 5)
def Zn2 (r0 : Qb) (end1 : Int) (final2 : Bool) : Option (Int × Unit) :=
 bif ((r0.2.2.1 != (-1 : Int)) && ((decide (end1 > r0.2.2.1)) || (final2 && (end1 != r0.2.2.1)))) || (final2 && (decide (end1 < r0.2.2.2.1))) then
  some ((6 : Int), ())
 else
  some ((0 : Int), ())
abbrev Zwh : List PE := [.box 1 43 (Xv) (.u false), .val 3 (.slice 135 (Zt)) (.u true), .val 4 (.int .i64) (.u false)]
def Wc (b1 : Z2) (out3 : List Ze) (i4 : Int) : Nat := ((b1.2.1.length : Int) - i4).toNat + 1
def Yp : Nat → Z2 → List Ze → Int → Option (List Ze × Unit)
 | 0, _, _, _ => none
 | N + 1, b1, out3, i4 =>
  (bif (decide (i4 < (b1.2.1.length : Int))) then (Zb4 b1) else some (false, ())).bind fun t13 =>
  bif (decide (i4 < (b1.2.1.length : Int))) && t13.1 then
   Zb (0 ≤ i4 ∧ i4 < b1.2.1.length) <|
   Zb (0 ≤ i4 ∧ i4 < b1.2.1.length) <|
   Zb (0 ≤ i4 ∧ i4 < b1.2.1.length) <|
   let t39 : List Ze := [((b1.2.1.getD i4.toNat Qm).1, (IntKind.i64.wrap ((b1.2.1.getD i4.toNat Qm).1 + ((b1.2.1.getD i4.toNat Qm).2.1.length : Int)), ()))]
   Zb (out3.length + t39.length ≤ Qp) <|
   Yp N b1 (out3 ++ t39) (IntKind.i64.wrap (i4 + 1))
  else
   some (out3, ())
def Zeb (b0 : Z2) : Option (List Ze × Unit) :=
 Yp (Wc b0 ([] : List Ze) (0 : Int)) b0 ([] : List Ze) (0 : Int)
abbrev Qdj : List PE := [.val 1 (.int .i64) (.u false), .box 2 43 (Xv) (.u false), .val 5 (.int .i64) (.u false)]
def Zkx (offset1_1 : Int) (b2 : Z2) (i5 : Int) : Nat := ((b2.2.1.length : Int) - i5).toNat + 1
def Zf3 : Nat → Int → Z2 → Int → Option (Int × Unit)
 | 0, _, _, _ => none
 | N + 1, offset1_1, b2, i5 =>
  bif decide (i5 < (b2.2.1.length : Int)) then
   Zb (0 ≤ i5 ∧ i5 < b2.2.1.length) <|
   let t21 : Int := IntKind.i64.wrap (offset1_1 - (b2.2.1.getD i5.toNat Qm).1)
   Zb (((decide (offset1_1 ≥ (0 : Int))) = true → (0 ≤ i5 ∧ i5 < b2.2.1.length))) <|
   let t36 : Bool := ((decide (offset1_1 ≥ (0 : Int))) && (decide ((b2.2.1.getD i5.toNat Qm).1 ≥ (0 : Int)))) && (decide (t21 ≥ (0 : Int)))
   Zb ((t36 = true → (0 ≤ i5 ∧ i5 < b2.2.1.length))) <|
   bif t36 && (decide (t21 < ((b2.2.1.getD i5.toNat Qm).2.1.length : Int))) then
    Zb (0 ≤ i5 ∧ i5 < b2.2.1.length) <|
    Zb (0 ≤ t21 ∧ t21 < (b2.2.1.getD i5.toNat Qm).2.1.length) <|
    some (IntKind.i64.wrap (((b2.2.1.getD i5.toNat Qm).2.1.getD t21.toNat 0).toNat : Int), ())
   else
    Zf3 N offset1_1 b2 (IntKind.i64.wrap (i5 + 1))
  else
   some ((-1 : Int), ())
def Zs2 (b0 : Z2) (offset1 : Int) : Option (Int × Unit) :=
 Zf3 (Zkx offset1 b0 (0 : Int)) offset1 b0 (0 : Int)
abbrev Zz8 : List PE := [.val 1 (.int .i64) (.u false), .val 2 (.str) (.u false), .box 3 43 (Xv) (.u false), .box 6 43 (Xv) (.u true), .box 9 43 (Xv) (.p (.u false) (.u true)), .val 10 (.slice 135 (Zt)) (.u true), .val 11 (.int .i64) (.u false), .val 12 (.str) (.u false), .val 13 (.int .i64) (.u false), .val 14 (.int .i64) (.u false)]
def Zcw (K1 : (Int × List UInt8 × Z2 × Z2 × Z2 × List Ze × Int × Unit) → Option (Z2 × Unit)) (K2 : (Int × List UInt8 × Z2 × Z2 × Z2 × List Ze × Int × List UInt8 × Int × Unit) → Option (Z2 × Unit)) (offset1_3 : Int) (data2_3 : List UInt8) (b3_2 : Z2) (t6_2 : Z2) (x9_2 : Z2) (l10_2 : List Ze) (i11_2 : Int) (s12_2 : List UInt8) (at13_1 : Int) (v14 : Int) : Option (Z2 × Unit) :=
 (Zmu v14).bind fun t90 =>
 Zb (s12_2.length + t90.1.length ≤ Z5) <|
 K2 (offset1_3, data2_3, b3_2, t6_2, x9_2, l10_2, i11_2, s12_2 ++ t90.1, IntKind.i64.wrap (at13_1 + 1), ())
abbrev Z0a : List PE := [.val 1 (.int .i64) (.u false), .val 2 (.str) (.u false), .box 3 43 (Xv) (.u false), .box 6 43 (Xv) (.u true), .box 9 43 (Xv) (.p (.u false) (.u true)), .val 10 (.slice 135 (Zt)) (.u true), .val 11 (.int .i64) (.u false), .val 12 (.str) (.u false), .val 13 (.int .i64) (.u false)]
def Za8 (offset1_2 : Int) (data2_2 : List UInt8) (b3_1 : Z2) (t6_1 : Z2) (x9_1 : Z2) (l10_1 : List Ze) (i11_1 : Int) (s12_1 : List UInt8) (at13 : Int) : Nat := ((l10_1.getD i11_1.toNat Zu).2.1 - at13).toNat + 1
def Kr (K1 : (Int × List UInt8 × Z2 × Z2 × Z2 × List Ze × Int × Unit) → Option (Z2 × Unit)) : Nat → Int → List UInt8 → Z2 → Z2 → Z2 → List Ze → Int → List UInt8 → Int → Option (Z2 × Unit)
 | 0, _, _, _, _, _, _, _, _, _ => none
 | N + 1, offset1_2, data2_2, b3_1, t6_1, x9_1, l10_1, i11_1, s12_1, at13 =>
  Zb (0 ≤ i11_1 ∧ i11_1 < l10_1.length) <|
  bif decide (at13 < (l10_1.getD i11_1.toNat Zu).2.1) then
   (Zs2 b3_1 at13).bind fun t79 =>
   bif decide (t79.1 < (0 : Int)) then
    Zb (0 ≤ (IntKind.i64.wrap (at13 - offset1_2)) ∧ (IntKind.i64.wrap (at13 - offset1_2)) < data2_2.length) <|
    Zcw K1 (fun v => Kr K1 N v.1 v.2.1 v.2.2.1 v.2.2.2.1 v.2.2.2.2.1 v.2.2.2.2.2.1 v.2.2.2.2.2.2.1 v.2.2.2.2.2.2.2.1 v.2.2.2.2.2.2.2.2.1) offset1_2 data2_2 b3_1 t6_1 x9_1 l10_1 i11_1 s12_1 at13 (IntKind.i64.wrap ((data2_2.getD (IntKind.i64.wrap (at13 - offset1_2)).toNat 0).toNat : Int))
   else
    Zcw K1 (fun v => Kr K1 N v.1 v.2.1 v.2.2.1 v.2.2.2.1 v.2.2.2.2.1 v.2.2.2.2.2.1 v.2.2.2.2.2.2.1 v.2.2.2.2.2.2.2.1 v.2.2.2.2.2.2.2.2.1) offset1_2 data2_2 b3_1 t6_1 x9_1 l10_1 i11_1 s12_1 at13 t79.1
  else
   Zb (0 ≤ i11_1 ∧ i11_1 < l10_1.length) <|
   let t101 : List Q2 := [((l10_1.getD i11_1.toNat Zu).1, (s12_1, ()))]
   Zb (x9_1.2.1.length + t101.length ≤ Qp) <|
   K1 (offset1_2, data2_2, b3_1, t6_1, (x9_1.1, (x9_1.2.1 ++ t101, x9_1.2.2)), l10_1, IntKind.i64.wrap (i11_1 + 1), ())
abbrev Zz9 : List PE := [.val 1 (.int .i64) (.u false), .val 2 (.str) (.u false), .box 3 43 (Xv) (.u false), .box 6 43 (Xv) (.u true), .box 9 43 (Xv) (.p (.u false) (.u true)), .val 10 (.slice 135 (Zt)) (.u true), .val 11 (.int .i64) (.u false)]
def Za7 (offset1_1 : Int) (data2_1 : List UInt8) (b3 : Z2) (t6 : Z2) (x9 : Z2) (l10 : List Ze) (i11 : Int) : Nat := ((l10.length : Int) - i11).toNat + 1
def W4 : Nat → Int → List UInt8 → Z2 → Z2 → Z2 → List Ze → Int → Option (Z2 × Unit)
 | 0, _, _, _, _, _, _, _ => none
 | N + 1, offset1_1, data2_1, b3, t6, x9, l10, i11 =>
  bif decide (i11 < (l10.length : Int)) then
   Zb (0 ≤ i11 ∧ i11 < l10.length) <|
   Kr (fun v => W4 N v.1 v.2.1 v.2.2.1 v.2.2.2.1 v.2.2.2.2.1 v.2.2.2.2.2.1 v.2.2.2.2.2.2.1) (Za8 offset1_1 data2_1 b3 t6 x9 l10 i11 ([] : List UInt8) (l10.getD i11.toNat Zu).1) offset1_1 data2_1 b3 t6 x9 l10 i11 ([] : List UInt8) (l10.getD i11.toNat Zu).1
  else
   some (x9, ())
def Zlv (b0 : Z2) (offset1 : Int) (data2 : List UInt8) : Option (Z2 × Unit) :=
 (Zb4 b0).bind fun t16 =>
 bif (((!t16.1) || (data2 == ([] : List UInt8))) || (decide (offset1 < (0 : Int)))) || (decide (offset1 > (IntKind.i64.wrap ((4611686018427387903 : Int) - (data2.length : Int))))) then
  (Zha b0).bind fun t34 =>
  some (t34.1, ())
 else
  let t42 : Int := IntKind.i64.wrap (offset1 + (data2.length : Int))
  bif decide ((max offset1 b0.1) ≥ t42) then
   (Zha b0).bind fun t47 =>
   some (t47.1, ())
  else
   (Zeb b0).bind fun t52 =>
   (Vi t52.1 (max offset1 b0.1, (t42, ()))).bind fun t56 =>
   W4 (Za7 offset1 data2 b0 ((0 : Int), (([] : List Q2), ())) (b0.1, (([] : List Q2), ())) t56.1 (0 : Int)) offset1 data2 b0 ((0 : Int), (([] : List Q2), ())) (b0.1, (([] : List Q2), ())) t56.1 (0 : Int)
abbrev Zx9 : List PE := [.box 8 45 (Qt) (.u true), .box 10 45 (Qt) (.p (.u false) (.p (.u true) (.u false)))]
def Zfj (t8_1 : Qb) (x10_1 : Qb) : Option (Qb × Int × Unit) :=
 some (x10_1, (0 : Int), ())
abbrev Zx8 : List PE := [.val 1 (.int .i64) (.u false), .val 2 (.str) (.u false), .box 4 45 (Qt) (.u false), .box 8 45 (Qt) (.u true), .box 10 45 (Qt) (.p (.u false) (.p (.u true) (.u false)))]
def Zbp (offset1_1 : Int) (data2_1 : List UInt8) (r4 : Qb) (t8 : Qb) (x10 : Qb) : Option (Qb × Int × Unit) :=
 (Zlv r4.2.1 offset1_1 data2_1).bind fun t60 =>
 (bif (x10.2.2.1 != (-1 : Int)) then (V7 t60.1) else some ((0 : Int), ())).bind fun t71 =>
 bif (x10.2.2.1 != (-1 : Int)) && ((IntKind.i64.wrap (t60.1.1 + t71.1)) == x10.2.2.1) then
  Zfj t8 ((2 : Int), (t60.1, x10.2.2))
 else
  Zfj t8 (x10.1, (t60.1, x10.2.2))
def W9 (r0 : Qb) (offset1 : Int) (data2 : List UInt8) (fin3 : Bool) : Option (Qb × Int × Unit) :=
 (Zka r0).bind fun t14 =>
 (X9 r0).bind fun t16 =>
 bif ((!t16.1) || (decide (offset1 < (0 : Int)))) || (decide (offset1 > (IntKind.i64.wrap ((4611686018427387903 : Int) - (data2.length : Int))))) then
  some (t14.1, (7 : Int), ())
 else
  let t33 : Int := IntKind.i64.wrap (offset1 + (data2.length : Int))
  (Zn2 r0 t33 fin3).bind fun t37 =>
  bif (t37.1 != 0) || (decide (r0.1 > (1 : Int))) then
   some (t14.1, t37.1, ())
  else
   bif fin3 then
    Zbp offset1 data2 r0 Zrf ((1 : Int), (t14.1.2.1, (t33, (max r0.2.2.2.1 t33, t14.1.2.2.2.2))))
   else
    Zbp offset1 data2 r0 Zrf (t14.1.1, (t14.1.2.1, (t14.1.2.2.1, (max r0.2.2.2.1 t33, t14.1.2.2.2.2))))
def Znv (b0 : Z2) (most1 : Int) : Option (List UInt8 × Z2 × Unit) :=
 (V7 b0).bind fun t10 =>
 (Zha b0).bind fun t15 =>
 bif (min t10.1 (max most1 (0 : Int))) == 0 then
  some (([] : List UInt8), t15.1, ())
 else
  Zb (0 ≤ (0 : Int) ∧ (0 : Int) < t15.1.2.1.length) <|
  let t27 : Int := IntKind.i64.wrap (t15.1.1 + (min t10.1 (max most1 (0 : Int))))
  bif (min t10.1 (max most1 (0 : Int))) == ((t15.1.2.1.getD (0 : Int).toNat Qm).2.1.length : Int) then
   Zb (0 ≤ (1 : Int) ∧ (1 : Int) ≤ (t15.1.2.1.length : Int) ∧ (t15.1.2.1.length : Int) ≤ t15.1.2.1.length) <|
   (Zha (t27, ((t15.1.2.1.drop (1 : Int).toNat).take ((t15.1.2.1.length : Int).toNat - (1 : Int).toNat), t15.1.2.2))).bind fun t39 =>
   some ((t15.1.2.1.getD (0 : Int).toNat Qm).2.1, t39.1, ())
  else
   Zb (0 ≤ (min t10.1 (max most1 (0 : Int))) ∧ (min t10.1 (max most1 (0 : Int))) ≤ ((t15.1.2.1.getD (0 : Int).toNat Qm).2.1.length : Int) ∧ ((t15.1.2.1.getD (0 : Int).toNat Qm).2.1.length : Int) ≤ (t15.1.2.1.getD (0 : Int).toNat Qm).2.1.length) <|
   Zb (0 ≤ (0 : Int) ∧ (0 : Int) < t15.1.2.1.length) <|
   Zb (0 ≤ (0 : Int) ∧ (0 : Int) ≤ (min t10.1 (max most1 (0 : Int))) ∧ (min t10.1 (max most1 (0 : Int))) ≤ (t15.1.2.1.getD (0 : Int).toNat Qm).2.1.length) <|
   some (((t15.1.2.1.getD (0 : Int).toNat Qm).2.1.drop (0 : Int).toNat).take ((min t10.1 (max most1 (0 : Int))).toNat - (0 : Int).toNat), (t27, (t15.1.2.1.set (0 : Int).toNat (t27, (((t15.1.2.1.getD (0 : Int).toNat Qm).2.1.drop (min t10.1 (max most1 (0 : Int))).toNat).take (((t15.1.2.1.getD (0 : Int).toNat Qm).2.1.length : Int).toNat - (min t10.1 (max most1 (0 : Int))).toNat), ())), t15.1.2.2)), ())
abbrev Zwv : List PE := [.box 5 45 (Qt) (.u true), .box 6 45 (Qt) (.u false), .val 7 (.str) (.u false)]
def Zen (t5 : Qb) (x6 : Qb) (s7 : List UInt8) : Option ((List UInt8 × Qb × Unit) × (Unit)) :=
 some ((s7, (x6, ())), ())
def Zem (r0 : Qb) (most1 : Int) : Option ((List UInt8 × Qb × Unit) × (Unit)) :=
 (Zka r0).bind fun t10 =>
 (X9 r0).bind fun t12 =>
 bif !t12.1 then
  some ((([] : List UInt8), (t10.1, ())), ())
 else
  bif r0.1 == 4 then
   some ((([] : List UInt8), (((5 : Int), t10.1.2), ())), ())
  else
   (Znv r0.2.1 most1).bind fun t24 =>
   bif (r0.1 == 2) && (t24.2.1.1 == r0.2.2.1) then
    Zen Zrf ((3 : Int), (t24.2.1, t10.1.2.2)) t24.1
   else
    Zen Zrf (t10.1.1, (t24.2.1, t10.1.2.2)) t24.1
def Zeo (r0 : Qb) (code1 : Int) (final2 : Int) : Option (Qb × Int × Unit) :=
 (Zka r0).bind fun t11 =>
 (X9 r0).bind fun t13 =>
 (bif (!t13.1) then some (false, ()) else (Qe code1)).bind fun t17 =>
 (bif ((!t13.1) || (!t17.1)) then some (false, ()) else (Qe final2)).bind fun t22 =>
 bif ((!t13.1) || (!t17.1)) || (!t22.1) then
  some (t11.1, (7 : Int), ())
 else
  (Zn2 r0 final2 true).bind fun t28 =>
  bif (t28.1 != 0) || (decide (r0.1 > (1 : Int))) then
   some (t11.1, t28.1, ())
  else
   some (((4 : Int), ((r0.2.1.1, (([] : List Q2), ())), (final2, (final2, (code1, ()))))), (0 : Int), ())
abbrev Z00 : List PE := [.box 0 110 (Xg) (.u false), .box 2 45 (Qt) (.u true), .box 3 45 (Qt) (.u false), .val 4 (.int .i64) (.u false)]
def Zba (c0_1 : Zw) (t2 : Qb) (r3 : Qb) (n4 : Int) : Nat := (n4 - 0).toNat + 1
def Xl : Nat → Zw → Qb → Qb → Int → Option ((Qb × Unit) × (Zw × Unit))
 | 0, _, _, _, _ => none
 | N + 1, c0_1, t2, r3, n4 =>
  bif decide (n4 > (0 : Int)) then
   (Zv c0_1 (10 : Int)).bind fun t16 =>
   (Zex t16.2.1 (4 : Int)).bind fun t18 =>
   (Zv t18.2.1 (8 : Int)).bind fun t21 =>
   bif t21.1.1 == 0 then
    (W9 r3 t16.1.1 t18.1.1 true).bind fun t35 =>
    Xl N t21.2.1 t2 t35.1 (IntKind.i64.wrap (n4 - 1))
   else
    bif t21.1.1 == 1 then
     (Zv t21.2.1 (5 : Int)).bind fun t43 =>
     (Zem r3 t43.1.1).bind fun t44 =>
     Qf 1 (
      Xl N t43.2.1 t2 t44.1.2.1 (IntKind.i64.wrap (n4 - 1))
     )
    else
     bif t21.1.1 == 2 then
      (Yr t21.2.1 (3 : Int)).bind fun t50 =>
      bif t50.1.1 then
       (Zv t50.2.1 (4 : Int)).bind fun t54 =>
       (Zeo r3 t54.1.1 (IntKind.i64.wrap ((10 : Int) + t16.1.1))).bind fun t57 =>
       Z9 (
        Qf 1 (
         Xl N t54.2.1 t2 t57.1 (IntKind.i64.wrap (n4 - 1))
        )
       ) (
        Xl N t54.2.1 t2 t57.1 (IntKind.i64.wrap (n4 - 1))
       )
      else
       Xl N t50.2.1 t2 r3 (IntKind.i64.wrap (n4 - 1))
     else
      (W9 r3 t16.1.1 t18.1.1 false).bind fun t26 =>
      Xl N t21.2.1 t2 t26.1 (IntKind.i64.wrap (n4 - 1))
  else
   some ((r3, ()), (c0_1, ()))
def Zl7 (c0 : Zw) : Option ((Qb × Unit) × (Zw × Unit)) :=
 Option.bind Zkh fun t8 =>
 (Zv c0 (7 : Int)).bind fun t10 =>
 Xl (Zba t10.2.1 Zrf t8.1 t10.1.1) t10.2.1 Zrf t8.1 t10.1.1
abbrev Z21 : List PE := [.box 0 110 (Xg) (.u false), .box 2 51 (Z1) (.u true), .box 3 51 (Z1) (.u false)]
def Zes (c0_1 : Zw) (t2 : Zo) (s3 : Zo) : Option ((Zo × Unit) × (Zw × Unit)) :=
 bif s3.2.2.2.2.2.2.2.1 then
  (Zl7 c0_1).bind fun t38 =>
  some (((s3.1, (s3.2.1, (s3.2.2.1, (t38.1.1, (((30 : Int), ((60 : Int), ((30 : Int), (min (30 : Int) t38.1.1.2.2.2.1, ((0 : Int), ((0 : Int), ())))))), s3.2.2.2.2.2))))), ()), (t38.2.1, ()))
 else
  some ((s3, ()), (c0_1, ()))
def Znx (c0 : Zw) : Option ((Zo × Unit) × (Zw × Unit)) :=
 (Yr c0 (2 : Int)).bind fun t7 =>
 (Zv t7.2.1 (8 : Int)).bind fun t9 =>
 (Zer t9.2.1).bind fun t11 =>
 (Zer t11.2.1).bind fun t13 =>
 (Vu t7.1.1 t9.1.1 t11.1.1 t13.1.1).bind fun t14 =>
 bif t14.1.2.2.2.2.2.2.1 then
  (Zpb t13.2.1).bind fun t20 =>
  (Zv t20.2.1 (9 : Int)).bind fun t26 =>
  Zes t26.2.1 Q7 (t14.1.1, (t20.1.1, ((IntKind.i64.wrap (t20.1.1.2.2.2.2.2.2.2.1 + t26.1.1), (t20.1.1.2.2.2.2.2.2.2.1, t14.1.2.2.1.2.2)), t14.1.2.2.2)))
 else
  Zes t13.2.1 Q7 t14.1
def Zs5 (c0 : Zw) : Option ((Zo × Unit) × (Zw × Unit)) :=
 (Znx c0).bind fun t5 =>
 (Zv t5.2.1 (16 : Int)).bind fun t7 =>
 bif t7.1.1 == 0 then
  some (((t5.1.1.1, (t5.1.1.2.1, (t5.1.1.2.2.1, (t5.1.1.2.2.2.1, (t5.1.1.2.2.2.2.1, (t5.1.1.2.2.2.2.2.1, (t5.1.1.2.2.2.2.2.2.1, (t5.1.1.2.2.2.2.2.2.2.1, (true, t5.1.1.2.2.2.2.2.2.2.2.2))))))))), ()), (t7.2.1, ()))
 else
  bif t7.1.1 == 1 then
   some (((t5.1.1.1, (t5.1.1.2.1, (t5.1.1.2.2.1, (t5.1.1.2.2.2.1, (t5.1.1.2.2.2.2.1, (t5.1.1.2.2.2.2.2.1, (t5.1.1.2.2.2.2.2.2.1, (t5.1.1.2.2.2.2.2.2.2.1, (t5.1.1.2.2.2.2.2.2.2.2.1, (true, t5.1.1.2.2.2.2.2.2.2.2.2.2)))))))))), ()), (t7.2.1, ()))
  else
   bif t7.1.1 == 2 then
    (Xf t7.2.1 ([(-1 : Int), (3 : Int)])).bind fun t18 =>
    some (((t5.1.1.1, (t5.1.1.2.1, (t5.1.1.2.2.1, (t5.1.1.2.2.2.1, (t5.1.1.2.2.2.2.1, (t5.1.1.2.2.2.2.2.1, (t5.1.1.2.2.2.2.2.2.1, (t5.1.1.2.2.2.2.2.2.2.1, (t5.1.1.2.2.2.2.2.2.2.2.1, (t5.1.1.2.2.2.2.2.2.2.2.2.1, (t5.1.1.2.2.2.2.2.2.2.2.2.2.1, (t5.1.1.2.2.2.2.2.2.2.2.2.2.2.1, (t18.1.1, t5.1.1.2.2.2.2.2.2.2.2.2.2.2.2.2))))))))))))), ()), (t18.2.1, ()))
   else
    bif t7.1.1 == 3 then
     (Xf t7.2.1 ([(-1 : Int), (0 : Int)])).bind fun t24 =>
     some (((t5.1.1.1, (t5.1.1.2.1, ((t5.1.1.2.2.1.1, (t24.1.1, t5.1.1.2.2.1.2.2)), t5.1.1.2.2.2))), ()), (t24.2.1, ()))
    else
     some ((t5.1.1, ()), (t7.2.1, ()))
def Zdn (code0 : List Int) : Option ((Zo × Unit) × (Unit)) :=
 (Ze4 code0).bind fun t4 =>
 (Zs5 t4.1).bind fun t5 =>
 some ((t5.1.1, ()), ())
def Zo5 (limit0 : Int) : Option (Zja × Bool × Unit) :=
 (Z4 limit0 (0 : Int) (1152921504606846976 : Int)).bind fun t5 =>
 bif !t5.1 then
  some (Quh, false, ())
 else
  some ((limit0, ((0 : Int), ((-1 : Int), ()))), true, ())
def Zo3 (most0 : Int) : Option (Qq × Bool × Unit) :=
 (Z4 most0 (0 : Int) (1000 : Int)).bind fun t5 =>
 bif !t5.1 then
  some (Qvo, false, ())
 else
  some ((most0, (most0, ((0 : Int), ((0 : Int), ())))), true, ())
def Zq0 (server0 : Bool) (own1 : Zrg) (peer2 : Zrg) : Option (Zi × Bool × Unit) :=
 (Zas own1).bind fun t22 =>
 (bif (!t22.1) then some (false, ()) else (Zas peer2)).bind fun t26 =>
 bif (!t22.1) || (!t26.1) then
  some (Zbs, false, ())
 else
  (Zge peer2.2.2.2.1).bind fun t37 =>
  (Zgf own1.2.2.2.1 own1.2.2.2.2.1).bind fun t47 =>
  (Zo5 peer2.2.2.2.2.2.1).bind fun t55 =>
  (Zo5 peer2.2.2.2.2.2.2.1).bind fun t63 =>
  (Zo3 own1.2.2.2.2.2.1).bind fun t71 =>
  (Zo3 own1.2.2.2.2.2.2.1).bind fun t79 =>
  some ((server0, (own1, (peer2, (([] : List Zo), (t37.1, (t47.1, (t55.1, (t63.1, (t71.1, (t79.1, (false, (false, (false, ((-1 : Int), ((0 : Int), (([] : List Xn), ((0 : Int), ((0 : Int), ())))))))))))))))))), true, ())
def Zb0 (s0 : Zo) : Option (Zo × Unit) :=
 (Zaw s0.2.1).bind fun t7 =>
 (Zka s0.2.2.2.1).bind fun t11 =>
 some ((s0.1, (t7.1, (s0.2.2.1, (t11.1, s0.2.2.2.2)))), ())
abbrev Z0u : List PE := [.val 0 (.slice 148 (Wz)) (.u false), .val 3 (.slice 148 (Wz)) (.u true), .val 4 (.int .i64) (.u false)]
def Zgu (l0_1 : List Xn) (out3 : List Xn) (i4 : Int) : Nat := ((l0_1.length : Int) - i4).toNat + 1
def Zda : Nat → List Xn → List Xn → Int → Option (List Xn × Unit)
 | 0, _, _, _ => none
 | N + 1, l0_1, out3, i4 =>
  bif decide (i4 < (l0_1.length : Int)) then
   Zb (0 ≤ i4 ∧ i4 < l0_1.length) <|
   Zb (0 ≤ i4 ∧ i4 < l0_1.length) <|
   Zb (([] : List Zg).length + (l0_1.getD i4.toNat Jz).2.1.length ≤ Qp) <|
   let t26 : List Xn := [((l0_1.getD i4.toNat Jz).1, (([] : List Zg) ++ (l0_1.getD i4.toNat Jz).2.1, ()))]
   Zb (out3.length + t26.length ≤ Qp) <|
   Zda N l0_1 (out3 ++ t26) (IntKind.i64.wrap (i4 + 1))
  else
   some (out3, ())
def Zl4 (l0 : List Xn) : Option (List Xn × Unit) :=
 Zda (Zgu l0 ([] : List Xn) (0 : Int)) l0 ([] : List Xn) (0 : Int)
abbrev Z9z : List PE := [.box 1 62 (Zq) (.u false), .box 2 62 (Zq) (.u true), .box 3 62 (Zq) (.p (.u false) (.p (.u false) (.p (.u false) (.p (.u true) (.u false))))), .val 4 (.int .i64) (.u false)]
def Zjz (c1 : Zi) (t2 : Zi) (x3 : Zi) (i4 : Int) : Nat := ((c1.2.2.2.1.length : Int) - i4).toNat + 1
def Zh7 : Nat → Zi → Zi → Zi → Int → Option (Zi × Unit)
 | 0, _, _, _, _ => none
 | N + 1, c1, t2, x3, i4 =>
  bif decide (i4 < (c1.2.2.2.1.length : Int)) then
   Zb (0 ≤ i4 ∧ i4 < c1.2.2.2.1.length) <|
   (Zb0 (c1.2.2.2.1.getD i4.toNat Q7)).bind fun t21 =>
   Zb (x3.2.2.2.1.length + ([t21.1]).length ≤ Qp) <|
   Zh7 N c1 t2 (x3.1, (x3.2.1, (x3.2.2.1, (x3.2.2.2.1 ++ ([t21.1]), x3.2.2.2.2)))) (IntKind.i64.wrap (i4 + 1))
  else
   (Zl4 c1.2.2.2.2.2.2.2.2.2.2.2.2.2.2.2.1).bind fun t30 =>
   some ((x3.1, (x3.2.1, (x3.2.2.1, (x3.2.2.2.1, (x3.2.2.2.2.1, (x3.2.2.2.2.2.1, (x3.2.2.2.2.2.2.1, (x3.2.2.2.2.2.2.2.1, (x3.2.2.2.2.2.2.2.2.1, (x3.2.2.2.2.2.2.2.2.2.1, (x3.2.2.2.2.2.2.2.2.2.2.1, (x3.2.2.2.2.2.2.2.2.2.2.2.1, (x3.2.2.2.2.2.2.2.2.2.2.2.2.1, (x3.2.2.2.2.2.2.2.2.2.2.2.2.2.1, (x3.2.2.2.2.2.2.2.2.2.2.2.2.2.2.1, (t30.1, x3.2.2.2.2.2.2.2.2.2.2.2.2.2.2.2.2)))))))))))))))), ())
def Z8 (c0 : Zi) : Option (Zi × Unit) :=
 Zh7 (Zjz c0 Zbs (c0.1, (c0.2.1, (c0.2.2.1, (([] : List Zo), c0.2.2.2.2)))) (0 : Int)) c0 Zbs (c0.1, (c0.2.1, (c0.2.2.1, (([] : List Zo), c0.2.2.2.2)))) (0 : Int)
def Yl (c0 : Qq) : Option (Bool × Unit) :=
 (Qe c0.1).bind fun t5 =>
 (bif t5.1 then (Z4 c0.2.1 (0 : Int) c0.1) else some (false, ())).bind fun t11 =>
 (bif (t5.1 && t11.1) then (Z4 c0.2.2.1 (-1 : Int) c0.1) else some (false, ())).bind fun t18 =>
 (bif ((t5.1 && t11.1) && t18.1) then (Z4 c0.2.2.2.1 (-1 : Int) c0.1) else some (false, ())).bind fun t25 =>
 some (((t5.1 && t11.1) && t18.1) && t25.1, ())
def Kz (w0 : Y3) : Option (Bool × Unit) :=
 (Z4 w0.2.1 (1 : Int) (4096 : Int)).bind fun t5 =>
 (bif t5.1 then (Z4 w0.1 (1 : Int) w0.2.1) else some (false, ())).bind fun t11 =>
 (bif (t5.1 && t11.1) then (Z4 w0.2.2.1 (1 : Int) (4611686018427387903 : Int)) else some (false, ())).bind fun t16 =>
 (bif ((t5.1 && t11.1) && t16.1) then (Z4 w0.2.2.2.1 (0 : Int) w0.2.2.1) else some (false, ())).bind fun t23 =>
 let t24 : Bool := ((t5.1 && t11.1) && t16.1) && t23.1
 (bif t24 then (Z4 w0.2.2.2.2.1 (0 : Int) w0.2.2.2.1) else some (false, ())).bind fun t30 =>
 let t41 : Bool := (t24 && t30.1) && (decide (w0.2.2.1 ≤ (IntKind.i64.wrap (w0.2.2.2.2.1 + w0.1))))
 (bif t41 then (Z4 w0.2.2.2.2.2.1 (0 : Int) (1000000 : Int)) else some (false, ())).bind fun t45 =>
 some (t41 && t45.1, ())
def Zbf (p0 : Xm) : Option (Bool × Unit) :=
 (Z4 p0.1 (0 : Int) (7 : Int)).bind fun t5 =>
 some (t5.1, ())
def Vj (s0 : Zo) : Option (Bool × Unit) :=
 (Qe s0.1).bind fun t5 =>
 (bif (!t5.1) then some (false, ()) else (Ym s0.2.1)).bind fun t10 =>
 (bif ((!t5.1) || (!t10.1)) then some (false, ()) else (Yl s0.2.2.1)).bind fun t16 =>
 let t18 : Bool := ((!t5.1) || (!t10.1)) || (!t16.1)
 (bif t18 then some (false, ()) else (X9 s0.2.2.2.1)).bind fun t22 =>
 (bif (t18 || (!t22.1)) then some (false, ()) else (Kz s0.2.2.2.2.1)).bind fun t28 =>
 let t30 : Bool := (t18 || (!t22.1)) || (!t28.1)
 (bif t30 then some (false, ()) else (Zbf s0.2.2.2.2.2.1)).bind fun t34 =>
 (bif (t30 || (!t34.1)) then some (false, ()) else (Qe s0.2.2.2.2.2.2.2.2.2.2.2.2.1)).bind fun t40 =>
 bif ((t30 || (!t34.1)) || (!t40.1)) || ((!s0.2.2.2.2.2.2.1) && (!s0.2.2.2.2.2.2.2.1)) then
  some (false, ())
 else
  bif ((((decide (s0.2.1.2.2.2.2.2.2.2.1 > s0.2.2.1.2.1)) || (decide (s0.2.2.2.1.2.2.2.1 > s0.2.2.2.2.1.2.2.2.1))) || (s0.2.2.2.2.2.2.2.2.1 && (s0.2.1.1 != 4))) || (s0.2.2.2.2.2.2.2.2.2.1 && (!s0.2.2.2.2.2.2.2.2.2.2.2.1))) || ((s0.2.2.2.2.2.2.2.2.2.2.2.2.1 != 0) && (!s0.2.2.2.2.2.2.2.2.2.2.2.1)) then
   some (false, ())
  else
   some ((s0.2.2.2.2.2.2.1 || (((s0.2.1.1 == 0) && (s0.2.1.2.1.2.2.1 == 0)) && (s0.2.1.2.2.2.2.2.1 == (-1 : Int)))) && (s0.2.2.2.2.2.2.2.1 || (((s0.2.2.2.1.1 == 0) && (s0.2.2.2.1.2.2.2.1 == 0)) && (!s0.2.2.2.2.2.2.2.2.2.2.2.1))), ())
abbrev Zz1 : List PE := [.val 0 (.slice 51 (Z1)) (.u false), .val 3 (.int .i64) (.u false)]
def Za3 (l0_1 : List Zo) (i3 : Int) : Nat := ((l0_1.length : Int) - i3).toNat + 1
def Yt : Nat → List Zo → Int → Option (Bool × Unit)
 | 0, _, _ => none
 | N + 1, l0_1, i3 =>
  bif decide (i3 < (l0_1.length : Int)) then
   Zb (0 ≤ i3 ∧ i3 < l0_1.length) <|
   (Vj (l0_1.getD i3.toNat Q7)).bind fun t14 =>
   Zb (((!t14.1) = false → ((decide (i3 > (0 : Int))) = true → (0 ≤ i3 ∧ i3 < l0_1.length)))) <|
   Zb (((!t14.1) = false → ((decide (i3 > (0 : Int))) = true → (0 ≤ (IntKind.i64.wrap (i3 - 1)) ∧ (IntKind.i64.wrap (i3 - 1)) < l0_1.length)))) <|
   bif (!t14.1) || ((decide (i3 > (0 : Int))) && (decide ((l0_1.getD i3.toNat Q7).1 ≤ (l0_1.getD (IntKind.i64.wrap (i3 - 1)).toNat Q7).1))) then
    some (false, ())
   else
    Yt N l0_1 (IntKind.i64.wrap (i3 + 1))
  else
   some (decide ((l0_1.length : Int) ≤ (24 : Int)), ())
def Ky (l0 : List Zo) : Option (Bool × Unit) :=
 Yt (Za3 l0 (0 : Int)) l0 (0 : Int)
def Zeh (c0 : Zja) : Option (Bool × Unit) :=
 (Z4 c0.1 (0 : Int) (1152921504606846976 : Int)).bind fun t5 =>
 (bif t5.1 then (Z4 c0.2.1 (0 : Int) c0.1) else some (false, ())).bind fun t11 =>
 (bif (t5.1 && t11.1) then (Z4 c0.2.2.1 (-1 : Int) c0.1) else some (false, ())).bind fun t18 =>
 some ((t5.1 && t11.1) && t18.1, ())
def Vr (a0 : Qq) : Option (Bool × Unit) :=
 (Z4 a0.1 (0 : Int) (1000 : Int)).bind fun t5 =>
 (bif t5.1 then (Z4 a0.2.1 a0.1 (1152921504606846976 : Int)) else some (false, ())).bind fun t11 =>
 (bif (t5.1 && t11.1) then (Z4 a0.2.2.1 (0 : Int) a0.2.1) else some (false, ())).bind fun t18 =>
 (bif ((t5.1 && t11.1) && t18.1) then (Z4 a0.2.2.2.1 (0 : Int) a0.2.2.1) else some (false, ())).bind fun t25 =>
 some ((((t5.1 && t11.1) && t18.1) && t25.1) && (decide (a0.2.1 ≤ (IntKind.i64.wrap (a0.2.2.2.1 + a0.1)))), ())
abbrev Z22 : List PE := [.val 0 (.slice 25 (Zr)) (.u false), .val 3 (.int .i64) (.u false)]
def K8 (l0_1 : List Zg) (i3 : Int) : Nat := ((l0_1.length : Int) - i3).toNat + 1
def Vx : Nat → List Zg → Int → Option (Bool × Unit)
 | 0, _, _ => none
 | N + 1, l0_1, i3 =>
  bif decide (i3 < (l0_1.length : Int)) then
   Zb (0 ≤ i3 ∧ i3 < l0_1.length) <|
   (Vt (l0_1.getD i3.toNat Qg)).bind fun t14 =>
   bif !t14.1 then
    some (false, ())
   else
    Vx N l0_1 (IntKind.i64.wrap (i3 + 1))
  else
   some (true, ())
def Zgt (l0 : List Zg) : Option (Bool × Unit) :=
 Vx (K8 l0 (0 : Int)) l0 (0 : Int)
abbrev Z2z : List PE := [.val 0 (.slice 51 (Z1)) (.u false), .val 3 (.int .i64) (.u false), .val 4 (.int .i64) (.u false)]
def Yx (l0_1 : List Zo) (n3 : Int) (i4 : Int) : Nat := ((l0_1.length : Int) - i4).toNat + 1
def Ji : Nat → List Zo → Int → Int → Option (Int × Unit)
 | 0, _, _, _ => none
 | N + 1, l0_1, n3, i4 =>
  (bif (decide (i4 < (l0_1.length : Int))) then (Ky l0_1) else some (false, ())).bind fun t11 =>
  bif (decide (i4 < (l0_1.length : Int))) && t11.1 then
   Zb (0 ≤ i4 ∧ i4 < l0_1.length) <|
   Ji N l0_1 (min (IntKind.i64.wrap (n3 + (l0_1.getD i4.toNat Q7).2.1.2.2.2.2.2.2.2.1)) (4611686018427387904 : Int)) (IntKind.i64.wrap (i4 + 1))
  else
   some (n3, ())
def Zgq (l0 : List Zo) : Option (Int × Unit) :=
 Ji (Yx l0 (0 : Int) (0 : Int)) l0 (0 : Int) (0 : Int)
abbrev Z2w : List PE := [.val 0 (.slice 51 (Z1)) (.u false), .val 3 (.int .i64) (.u false), .val 4 (.int .i64) (.u false)]
def Yw (l0_1 : List Zo) (n3 : Int) (i4 : Int) : Nat := ((l0_1.length : Int) - i4).toNat + 1
def Jh : Nat → List Zo → Int → Int → Option (Int × Unit)
 | 0, _, _, _ => none
 | N + 1, l0_1, n3, i4 =>
  (bif (decide (i4 < (l0_1.length : Int))) then (Ky l0_1) else some (false, ())).bind fun t11 =>
  bif (decide (i4 < (l0_1.length : Int))) && t11.1 then
   Zb (0 ≤ i4 ∧ i4 < l0_1.length) <|
   Jh N l0_1 (min (IntKind.i64.wrap (n3 + (l0_1.getD i4.toNat Q7).2.2.2.1.2.2.2.1)) (4611686018427387904 : Int)) (IntKind.i64.wrap (i4 + 1))
  else
   some (n3, ())
def Zgp (l0 : List Zo) : Option (Int × Unit) :=
 Jh (Yw l0 (0 : Int) (0 : Int)) l0 (0 : Int) (0 : Int)
abbrev Qdk : List PE := [.box 1 62 (Zq) (.u false), .val 3 (.int .i64) (.u false)]
def Jc (c1 : Zi) (i3 : Int) : Nat := ((c1.2.2.2.2.2.2.2.2.2.2.2.2.2.2.2.1.length : Int) - i3).toNat + 1
def Vs : Nat → Zi → Int → Option (Bool × Unit)
 | 0, _, _ => none
 | N + 1, c1, i3 =>
  bif decide (i3 < (c1.2.2.2.2.2.2.2.2.2.2.2.2.2.2.2.1.length : Int)) then
   Zb (0 ≤ i3 ∧ i3 < c1.2.2.2.2.2.2.2.2.2.2.2.2.2.2.2.1.length) <|
   (Z4 (c1.2.2.2.2.2.2.2.2.2.2.2.2.2.2.2.1.getD i3.toNat Jz).1 (0 : Int) (IntKind.i64.wrap (c1.2.2.2.2.2.2.2.2.2.2.2.2.2.2.1 - 1))).bind fun t72 =>
   Zb (((!t72.1) = false → ((decide (i3 > (0 : Int))) = true → (0 ≤ i3 ∧ i3 < c1.2.2.2.2.2.2.2.2.2.2.2.2.2.2.2.1.length)))) <|
   Zb (((!t72.1) = false → ((decide (i3 > (0 : Int))) = true → (0 ≤ (IntKind.i64.wrap (i3 - 1)) ∧ (IntKind.i64.wrap (i3 - 1)) < c1.2.2.2.2.2.2.2.2.2.2.2.2.2.2.2.1.length)))) <|
   let t93 : Bool := (!t72.1) || ((decide (i3 > (0 : Int))) && (decide ((c1.2.2.2.2.2.2.2.2.2.2.2.2.2.2.2.1.getD i3.toNat Jz).1 ≤ (c1.2.2.2.2.2.2.2.2.2.2.2.2.2.2.2.1.getD (IntKind.i64.wrap (i3 - 1)).toNat Jz).1)))
   Zb ((t93 = false → (0 ≤ i3 ∧ i3 < c1.2.2.2.2.2.2.2.2.2.2.2.2.2.2.2.1.length))) <|
   (bif t93 then some (false, ()) else (Zgt (c1.2.2.2.2.2.2.2.2.2.2.2.2.2.2.2.1.getD i3.toNat Jz).2.1)).bind fun t101 =>
   bif t93 || (!t101.1) then
    some (false, ())
   else
    Vs N c1 (IntKind.i64.wrap (i3 + 1))
  else
   (Z4 c1.2.2.2.2.2.2.2.2.2.2.2.2.2.1 (-1 : Int) (4611686018427387903 : Int)).bind fun t106 =>
   (bif t106.1 then (Z4 c1.2.2.2.2.2.2.2.2.2.2.2.2.2.2.1 (0 : Int) (1000000 : Int)) else some (false, ())).bind fun t110 =>
   (bif (t106.1 && t110.1) then (Z4 c1.2.2.2.2.2.2.2.2.2.2.2.2.2.2.2.2.1 (0 : Int) (1000000 : Int)) else some (false, ())).bind fun t115 =>
   (bif ((t106.1 && t110.1) && t115.1) then (Z4 c1.2.2.2.2.2.2.2.2.2.2.2.2.2.2.2.2.2.1 (0 : Int) (255 : Int)) else some (false, ())).bind fun t120 =>
   let t121 : Bool := ((t106.1 && t110.1) && t115.1) && t120.1
   (bif t121 then (Zgq c1.2.2.2.1) else some ((0 : Int), ())).bind fun t125 =>
   (bif (t121 && (decide (t125.1 ≤ c1.2.2.2.2.1.2.1))) then (Zgp c1.2.2.2.1) else some ((0 : Int), ())).bind fun t134 =>
   some ((t121 && (decide (t125.1 ≤ c1.2.2.2.2.1.2.1))) && (decide (t134.1 ≤ c1.2.2.2.2.2.1.2.2.2.1)), ())
def Xy (c0 : Zi) : Option (Bool × Unit) :=
 (Zas c0.2.1).bind fun t6 =>
 (bif (!t6.1) then some (false, ()) else (Zas c0.2.2.1)).bind fun t11 =>
 (bif ((!t6.1) || (!t11.1)) then some (false, ()) else (Ky c0.2.2.2.1)).bind fun t17 =>
 let t19 : Bool := ((!t6.1) || (!t11.1)) || (!t17.1)
 (bif t19 then some (false, ()) else (Yl c0.2.2.2.2.1)).bind fun t23 =>
 (bif (t19 || (!t23.1)) then some (false, ()) else (Kz c0.2.2.2.2.2.1)).bind fun t29 =>
 let t31 : Bool := (t19 || (!t23.1)) || (!t29.1)
 (bif t31 then some (false, ()) else (Zeh c0.2.2.2.2.2.2.1)).bind fun t35 =>
 (bif (t31 || (!t35.1)) then some (false, ()) else (Zeh c0.2.2.2.2.2.2.2.1)).bind fun t41 =>
 let t43 : Bool := (t31 || (!t35.1)) || (!t41.1)
 (bif t43 then some (false, ()) else (Vr c0.2.2.2.2.2.2.2.2.1)).bind fun t47 =>
 (bif (t43 || (!t47.1)) then some (false, ()) else (Vr c0.2.2.2.2.2.2.2.2.2.1)).bind fun t53 =>
 bif (t43 || (!t47.1)) || (!t53.1) then
  some (false, ())
 else
  Vs (Jc c0 (0 : Int)) c0 (0 : Int)
def Zo2 (c0 : Zi) : Option (Bool × Unit) :=
 some (c0.2.2.2.2.2.2.2.2.2.2.2.2.2.2.2.2.2.1 != 0, ())
def Kd (c0 : Zi) : Option (Bool × Unit) :=
 (Xy c0).bind fun t4 =>
 (bif t4.1 then (Zo2 c0) else some (false, ())).bind fun t7 =>
 some (t4.1 && (!t7.1), ())
def Zo6 (c0 : Zja) : Option (Int × Zja × Bool × Unit) :=
 (Zeh c0).bind fun t7 =>
 bif !t7.1 then
  some ((-1 : Int), c0, false, ())
 else
  bif c0.2.1 == c0.1 then
   some ((-1 : Int), (c0.1, (c0.2.1, (c0.1, c0.2.2.2))), false, ())
  else
   some (c0.2.1, (c0.1, (IntKind.i64.wrap (c0.2.1 + 1), c0.2.2)), true, ())
abbrev Qdm : List PE := [.val 2 (.bool) (.u false), .val 7 (.int .i64) (.u false)]
def Zjq (uni2_1 : Bool) (id7 : Int) : Option (Int × Unit) :=
 bif uni2_1 then
  some (IntKind.i64.wrap (id7 + 2), ())
 else
  some (id7, ())
def Zs4 (index0 : Int) (server1 : Bool) (uni2 : Bool) : Option (Int × Unit) :=
 (Z4 index0 (0 : Int) (1152921504606846975 : Int)).bind fun t9 =>
 bif !t9.1 then
  some ((-1 : Int), ())
 else
  Zb (0 ≤ (2 : Int)) <|
  let t12 : Int := IntKind.i64.wrap (index0 * 2 ^ (min (2 : Int).toNat IntKind.i64.bits))
  bif server1 then
   Zjq uni2 (IntKind.i64.wrap (t12 + 1))
  else
   Zjq uni2 t12
abbrev Zz6 : List PE := [.val 0 (.slice 51 (Z1)) (.u false), .val 1 (.int .i64) (.u false), .val 5 (.int .i64) (.u false)]
def Zf9 (l0_1 : List Zo) (id1_1 : Int) (i5 : Int) : Nat := ((l0_1.length : Int) - i5).toNat + 1
def Zcs : Nat → List Zo → Int → Int → Option (Int × Unit)
 | 0, _, _, _ => none
 | N + 1, l0_1, id1_1, i5 =>
  bif decide (i5 < (l0_1.length : Int)) then
   Zb (0 ≤ i5 ∧ i5 < l0_1.length) <|
   bif (l0_1.getD i5.toNat Q7).1 == id1_1 then
    some (i5, ())
   else
    Zcs N l0_1 id1_1 (IntKind.i64.wrap (i5 + 1))
  else
   some ((-1 : Int), ())
def Zd3 (l0 : List Zo) (id1 : Int) : Option (Int × Unit) :=
 Zcs (Zf9 l0 id1 (0 : Int)) l0 id1 (0 : Int)
abbrev Z2u : List PE := [.val 0 (.slice 51 (Z1)) (.u false), .box 3 51 (Z1) (.u false), .val 5 (.slice 51 (Z1)) (.u true), .val 6 (.int .i64) (.u false), .val 7 (.bool) (.u false), .val 8 (.int .i64) (.u false), .box 9 51 (Z1) (.u true)]
def Za9 (K1 : (List Zo × Zo × List Zo × Int × Bool × Int × Unit) → Option (List Zo × Unit)) (l0_2 : List Zo) (s3_1 : Zo) (out5_1 : List Zo) (at6_1 : Int) (placed7_1 : Bool) (i8_1 : Int) (x9 : Zo) : Option (List Zo × Unit) :=
 Zb (out5_1.length + ([x9]).length ≤ Qp) <|
 K1 (l0_2, s3_1, out5_1 ++ ([x9]), at6_1, placed7_1, IntKind.i64.wrap (i8_1 + 1), ())
abbrev Z2v : List PE := [.val 0 (.slice 51 (Z1)) (.u false), .box 3 51 (Z1) (.u false), .val 5 (.slice 51 (Z1)) (.u true), .val 6 (.int .i64) (.u false), .val 7 (.bool) (.u false), .val 8 (.int .i64) (.u false)]
def Zht (l0_1 : List Zo) (s3 : Zo) (out5 : List Zo) (at6 : Int) (placed7 : Bool) (i8 : Int) : Nat := ((l0_1.length : Int) - i8).toNat + 1
def Jg : Nat → List Zo → Zo → List Zo → Int → Bool → Int → Option (List Zo × Unit)
 | 0, _, _, _, _, _, _ => none
 | N + 1, l0_1, s3, out5, at6, placed7, i8 =>
  bif decide (i8 < (l0_1.length : Int)) then
   Zb (0 ≤ i8 ∧ i8 < l0_1.length) <|
   (Zb0 (l0_1.getD i8.toNat Q7)).bind fun t29 =>
   bif i8 == at6 then
    (Zb0 s3).bind fun t34 =>
    Za9 (fun v => Jg N v.1 v.2.1 v.2.2.1 v.2.2.2.1 v.2.2.2.2.1 v.2.2.2.2.2.1) l0_1 s3 out5 at6 placed7 i8 t34.1
   else
    Zb (((!placed7) = true → (0 ≤ i8 ∧ i8 < l0_1.length))) <|
    bif (!placed7) && (decide ((l0_1.getD i8.toNat Q7).1 > s3.1)) then
     (Zb0 s3).bind fun t48 =>
     Zb (out5.length + ([t48.1]).length ≤ Qp) <|
     Za9 (fun v => Jg N v.1 v.2.1 v.2.2.1 v.2.2.2.1 v.2.2.2.2.1 v.2.2.2.2.2.1) l0_1 s3 (out5 ++ ([t48.1])) at6 true i8 t29.1
    else
     Za9 (fun v => Jg N v.1 v.2.1 v.2.2.1 v.2.2.2.1 v.2.2.2.2.1 v.2.2.2.2.2.1) l0_1 s3 out5 at6 placed7 i8 t29.1
  else
   bif !placed7 then
    (Zb0 s3).bind fun t60 =>
    Zb (out5.length + ([t60.1]).length ≤ Qp) <|
    some (out5 ++ ([t60.1]), ())
   else
    some (out5, ())
def Xu (l0 : List Zo) (s1 : Zo) : Option (List Zo × Unit) :=
 (Zd3 l0 s1.1).bind fun t16 =>
 Jg (Zht l0 s1 ([] : List Zo) t16.1 (decide (t16.1 ≥ (0 : Int))) (0 : Int)) l0 s1 ([] : List Zo) t16.1 (decide (t16.1 ≥ (0 : Int))) (0 : Int)
abbrev Z0k : List PE := [.val 1 (.bool) (.u false), .box 2 62 (Zq) (.u false), .box 5 62 (Zq) (.u true), .box 7 62 (Zq) (.p (.u false) (.p (.u false) (.p (.u false) (.p (.u true) (.p (.u false) (.p (.u false) (.p (.u false) (.p (.u false) (.u true))))))))), .val 9 (.int .i64) (.u false), .val 11 (.bool) (.u false)]
def Zc6 (uni1_2 : Bool) (c2_1 : Zi) (t5_1 : Zi) (x7_1 : Zi) (index9 : Int) (is11 : Bool) : Option (Int × Zi × Bool × Unit) :=
 bif !is11 then
  some ((-1 : Int), x7_1, false, ())
 else
  (Zs4 index9 c2_1.1 uni1_2).bind fun t50 =>
  (Vu c2_1.1 t50.1 c2_1.2.1 c2_1.2.2.1).bind fun t59 =>
  (Xu x7_1.2.2.2.1 t59.1).bind fun t65 =>
  some (t50.1, (x7_1.1, (x7_1.2.1, (x7_1.2.2.1, (t65.1, x7_1.2.2.2.2)))), true, ())
abbrev Z0j : List PE := [.val 1 (.bool) (.u false), .box 2 62 (Zq) (.u false), .box 5 62 (Zq) (.u true), .box 7 62 (Zq) (.u true), .box 8 57 (Zi7) (.u false)]
def Zc5 (uni1_1 : Bool) (c2 : Zi) (t5 : Zi) (x7 : Zi) (n8 : Zja) : Option (Int × Zi × Bool × Unit) :=
 (Zo6 n8).bind fun t34 =>
 bif uni1_1 then
  Zc6 uni1_1 c2 t5 (x7.1, (x7.2.1, (x7.2.2.1, (x7.2.2.2.1, (x7.2.2.2.2.1, (x7.2.2.2.2.2.1, (x7.2.2.2.2.2.2.1, (t34.2.1, x7.2.2.2.2.2.2.2.2)))))))) t34.1 t34.2.2.1
 else
  Zc6 uni1_1 c2 t5 (x7.1, (x7.2.1, (x7.2.2.1, (x7.2.2.2.1, (x7.2.2.2.2.1, (x7.2.2.2.2.2.1, (t34.2.1, x7.2.2.2.2.2.2.2))))))) t34.1 t34.2.2.1
def Zl1 (c0 : Zi) (uni1 : Bool) : Option (Int × Zi × Bool × Unit) :=
 (Z8 c0).bind fun t16 =>
 (Kd c0).bind fun t18 =>
 bif (!t18.1) || (decide ((c0.2.2.2.1.length : Int) ≥ (24 : Int))) then
  some ((-1 : Int), t16.1, false, ())
 else
  bif uni1 then
   Zc5 uni1 c0 Zbs t16.1 c0.2.2.2.2.2.2.2.1
  else
   Zc5 uni1 c0 Zbs t16.1 c0.2.2.2.2.2.2.1
def Q0 (c0 : Zi) (id1 : Int) : Option (Zo × Bool × Unit) :=
 (Zd3 c0.2.2.2.1 id1).bind fun t10 =>
 bif decide (t10.1 < (0 : Int)) then
  some (Q7, false, ())
 else
  Zb (0 ≤ t10.1 ∧ t10.1 < c0.2.2.2.1.length) <|
  (Zb0 (c0.2.2.2.1.getD t10.1.toNat Q7)).bind fun t19 =>
  some (t19.1, true, ())
def Zkk (c0 : Zi) (id1 : Int) (data2 : List UInt8) : Option (Int × Zi × Unit) :=
 (Z8 c0).bind fun t14 =>
 (Q0 c0 id1).bind fun t18 =>
 (Kd c0).bind fun t22 =>
 bif ((!t22.1) || (!t18.2.1)) || (!t18.1.2.2.2.2.2.2.1) then
  some ((0 : Int), t14.1, ())
 else
  (Zgr t18.1.2.1 data2).bind fun t38 =>
  (Xu t14.1.2.2.2.1 (t18.1.1, (t38.1, t18.1.2.2))).bind fun t46 =>
  some (t38.2.1, (t14.1.1, (t14.1.2.1, (t14.1.2.2.1, (t46.1, t14.1.2.2.2.2)))), ())
def Zi4 (c0 : Zi) (id1 : Int) : Option (Zi × Bool × Unit) :=
 (Z8 c0).bind fun t12 =>
 (Q0 c0 id1).bind fun t16 =>
 (Kd c0).bind fun t20 =>
 bif ((!t20.1) || (!t16.2.1)) || (!t16.1.2.2.2.2.2.2.1) then
  some (t12.1, false, ())
 else
  (Zf4 t16.1.2.1).bind fun t35 =>
  bif !t35.2.1 then
   some (t12.1, false, ())
  else
   (Xu t12.1.2.2.2.1 (t16.1.1, (t35.1, t16.1.2.2))).bind fun t46 =>
   some ((t12.1.1, (t12.1.2.1, (t12.1.2.2.1, (t46.1, t12.1.2.2.2.2)))), true, ())
def Zjt (w0 : Y3) (n1 : Int) : Option (Y3 × Bool × Unit) :=
 (Kz w0).bind fun t7 =>
 bif ((!t7.1) || (decide (n1 < (0 : Int)))) || (decide (n1 > (IntKind.i64.wrap (w0.2.2.2.1 - w0.2.2.2.2.1)))) then
  some (w0, false, ())
 else
  some ((w0.1, (w0.2.1, (w0.2.2.1, (w0.2.2.2.1, (IntKind.i64.wrap (w0.2.2.2.2.1 + n1), w0.2.2.2.2.2))))), true, ())
def Znz (x0 : Zi) (s1 : Zo) (to2 : Int) : Option ((Unit) × (Zi × Zo × Unit)) :=
 let t18 : Int := max (0 : Int) (IntKind.i64.wrap (to2 - s1.2.2.2.2.1.2.2.2.2.1))
 (Zjt s1.2.2.2.2.1 t18).bind fun t25 =>
 (Zjt x0.2.2.2.2.2.1 t18).bind fun t38 =>
 some ((), ((x0.1, (x0.2.1, (x0.2.2.1, (x0.2.2.2.1, (x0.2.2.2.2.1, (t38.1, x0.2.2.2.2.2.2)))))), ((s1.1, (s1.2.1, (s1.2.2.1, (s1.2.2.2.1, (t25.1, s1.2.2.2.2.2))))), ())))
def Zqc (s0 : Zo) : Option (Bool × Unit) :=
 some (((!s0.2.2.2.2.2.2.1) || (s0.2.1.1 == 3)) || (s0.2.1.1 == 5), ())
def Zlx (r0 : Qb) : Option (Bool × Unit) :=
 (X9 r0).bind fun t4 =>
 some (t4.1 && ((r0.1 == 3) || (r0.1 == 5)), ())
def Zqb (s0 : Zo) : Option (Bool × Unit) :=
 (bif (!s0.2.2.2.2.2.2.2.1) then some (false, ()) else (Zlx s0.2.2.2.1)).bind fun t9 =>
 some ((!s0.2.2.2.2.2.2.2.1) || t9.1, ())
def Zs3 (s0 : Zo) : Option (Bool × Unit) :=
 (Vj s0).bind fun t4 =>
 (bif t4.1 then (Zqc s0) else some (false, ())).bind fun t7 =>
 (bif (t4.1 && t7.1) then (Zqb s0) else some (false, ())).bind fun t11 =>
 some ((t4.1 && t7.1) && t11.1, ())
def Zk8 (a0 : Qq) : Option (Qq × Bool × Unit) :=
 (Vr a0).bind fun t5 =>
 bif (!t5.1) || (a0.2.2.2.1 == a0.2.2.1) then
  some (a0, false, ())
 else
  some ((a0.1, (a0.2.1, (a0.2.2.1, (IntKind.i64.wrap (a0.2.2.2.1 + 1), a0.2.2.2.2)))), true, ())
def Zq5 (x0 : Zi) (s1 : Zo) : Option ((Unit) × (Zi × Zo × Unit)) :=
 (bif s1.2.2.2.2.2.2.2.2.2.2.2.2.2.1 then some (false, ()) else (Zhp x0.1 s1.1)).bind fun t21 =>
 (bif (s1.2.2.2.2.2.2.2.2.2.2.2.2.2.1 || t21.1) then some (false, ()) else (Zs3 s1)).bind fun t27 =>
 bif (s1.2.2.2.2.2.2.2.2.2.2.2.2.2.1 || t21.1) || (!t27.1) then
  some ((), (x0, (s1, ())))
 else
  (Zad s1.1).bind fun t37 =>
  bif t37.1 then
   (Zk8 x0.2.2.2.2.2.2.2.2.2.1).bind fun t43 =>
   some ((), ((x0.1, (x0.2.1, (x0.2.2.1, (x0.2.2.2.1, (x0.2.2.2.2.1, (x0.2.2.2.2.2.1, (x0.2.2.2.2.2.2.1, (x0.2.2.2.2.2.2.2.1, (x0.2.2.2.2.2.2.2.2.1, (t43.1, x0.2.2.2.2.2.2.2.2.2.2)))))))))), ((s1.1, (s1.2.1, (s1.2.2.1, (s1.2.2.2.1, (s1.2.2.2.2.1, (s1.2.2.2.2.2.1, (s1.2.2.2.2.2.2.1, (s1.2.2.2.2.2.2.2.1, (s1.2.2.2.2.2.2.2.2.1, (s1.2.2.2.2.2.2.2.2.2.1, (s1.2.2.2.2.2.2.2.2.2.2.1, (s1.2.2.2.2.2.2.2.2.2.2.2.1, (s1.2.2.2.2.2.2.2.2.2.2.2.2.1, (true, s1.2.2.2.2.2.2.2.2.2.2.2.2.2.2)))))))))))))), ())))
  else
   (Zk8 x0.2.2.2.2.2.2.2.2.1).bind fun t55 =>
   some ((), ((x0.1, (x0.2.1, (x0.2.2.1, (x0.2.2.2.1, (x0.2.2.2.2.1, (x0.2.2.2.2.2.1, (x0.2.2.2.2.2.2.1, (x0.2.2.2.2.2.2.2.1, (t55.1, x0.2.2.2.2.2.2.2.2.2))))))))), ((s1.1, (s1.2.1, (s1.2.2.1, (s1.2.2.2.1, (s1.2.2.2.2.1, (s1.2.2.2.2.2.1, (s1.2.2.2.2.2.2.1, (s1.2.2.2.2.2.2.2.1, (s1.2.2.2.2.2.2.2.2.1, (s1.2.2.2.2.2.2.2.2.2.1, (s1.2.2.2.2.2.2.2.2.2.2.1, (s1.2.2.2.2.2.2.2.2.2.2.2.1, (s1.2.2.2.2.2.2.2.2.2.2.2.2.1, (true, s1.2.2.2.2.2.2.2.2.2.2.2.2.2.2)))))))))))))), ())))
def Zb1 (x0 : Zi) (s1 : Zo) : Option ((Unit) × (Zi × Unit)) :=
 (Zq5 x0 s1).bind fun t5 =>
 (Xu t5.2.1.2.2.2.1 t5.2.2.1).bind fun t12 =>
 some ((), ((t5.2.1.1, (t5.2.1.2.1, (t5.2.1.2.2.1, (t12.1, t5.2.1.2.2.2.2)))), ()))
abbrev Z0s : List PE := [.box 8 62 (Zq) (.u true), .box 9 62 (Zq) (.u false), .box 10 51 (Z1) (.u false), .val 12 (.str) (.u false), .box 13 45 (Qt) (.u false)]
def Zc8 (t8 : Zi) (x9 : Zi) (s10 : Zo) (data12 : List UInt8) (r13 : Qb) : Option ((List UInt8 × Bool × Zi × Unit) × (Unit)) :=
 (Zb1 x9 s10).bind fun t52 =>
 some ((data12, ((r13.1 == 3) || (r13.1 == 5), (t52.2.1, ()))), ())
def Zl3 (c0 : Zi) (id1 : Int) (most2 : Int) : Option ((List UInt8 × Bool × Zi × Unit) × (Unit)) :=
 (Z8 c0).bind fun t15 =>
 (Q0 c0 id1).bind fun t19 =>
 (Kd c0).bind fun t23 =>
 bif ((!t23.1) || (!t19.2.1)) || (!t19.1.2.2.2.2.2.2.2.1) then
  some ((([] : List UInt8), (false, (t15.1, ()))), ())
 else
  (Zem t19.1.2.2.2.1 most2).bind fun t39 =>
  bif decide (t39.1.2.1.1 < (4 : Int)) then
   (Znz t15.1 (t19.1.1, (t19.1.2.1, (t19.1.2.2.1, (t39.1.2.1, t19.1.2.2.2.2)))) t39.1.2.1.2.1.1).bind fun t50 =>
   Zc8 Zbs t50.2.1 t50.2.2.1 t39.1.1 t39.1.2.1
  else
   Zc8 Zbs t15.1 (t19.1.1, (t19.1.2.1, (t19.1.2.2.1, (t39.1.2.1, t19.1.2.2.2.2)))) t39.1.1 t39.1.2.1
def Zki (c0 : Zi) (id1 : Int) (code2 : Int) : Option ((Zi × Bool × Unit) × (Unit)) :=
 (Z8 c0).bind fun t14 =>
 (Q0 c0 id1).bind fun t18 =>
 (Kd c0).bind fun t22 =>
 bif ((!t22.1) || (!t18.2.1)) || (!t18.1.2.2.2.2.2.2.1) then
  some ((t14.1, (false, ())), ())
 else
  (Zce t18.1.2.1 code2).bind fun t38 =>
  bif !t38.2.1 then
   some ((t14.1, (false, ())), ())
  else
   Option.bind (Zb1 t14.1 (t18.1.1, (t38.1, (t18.1.2.2.1, (t18.1.2.2.2.1, (t18.1.2.2.2.2.1, (t18.1.2.2.2.2.2.1, (t18.1.2.2.2.2.2.2.1, (t18.1.2.2.2.2.2.2.2.1, (true, t18.1.2.2.2.2.2.2.2.2.2)))))))))) fun t48 =>
   some ((t48.2.1, (true, ())), ())
abbrev Z9y : List PE := [.val 0 (.str) (.u false)]
def Zjy (s0_2 : List UInt8) : Nat := ((s0_2.length : Int) - (0 : Int)).toNat + 1
def Zh6 : Nat → List UInt8 → Option (List UInt8 × Unit)
 | 0, _ => none
 | N + 1, s0_2 =>
  let t20 : Int := IntKind.i64.wrap ((s0_2.length : Int) - (1 : Int))
  Zb (((decide ((s0_2.length : Int) > (0 : Int))) = true → (0 ≤ t20 ∧ t20 < s0_2.length))) <|
  bif (decide ((s0_2.length : Int) > (0 : Int))) && (((s0_2.getD t20.toNat 0).toNat : Int) == (32 : Int)) then
   let t27 : Int := IntKind.i64.wrap ((s0_2.length : Int) - (1 : Int))
   Zb (0 ≤ (0 : Int) ∧ (0 : Int) ≤ t27 ∧ t27 ≤ s0_2.length) <|
   Zh6 N ((s0_2.drop (0 : Int).toNat).take (t27.toNat - (0 : Int).toNat))
  else
   some (s0_2, ())
abbrev Z9x : List PE := [.val 0 (.str) (.u false)]
def Zjx (s0_1 : List UInt8) : Nat := ((s0_1.length : Int) - (0 : Int)).toNat + 1
def Zh5 : Nat → List UInt8 → Option (List UInt8 × Unit)
 | 0, _ => none
 | N + 1, s0_1 =>
  Zb (((decide ((s0_1.length : Int) > (0 : Int))) = true → (0 ≤ (0 : Int) ∧ (0 : Int) < s0_1.length))) <|
  bif (decide ((s0_1.length : Int) > (0 : Int))) && (((s0_1.getD (0 : Int).toNat 0).toNat : Int) == (32 : Int)) then
   Zb (0 ≤ (1 : Int) ∧ (1 : Int) ≤ (s0_1.length : Int) ∧ (s0_1.length : Int) ≤ s0_1.length) <|
   Zh5 N ((s0_1.drop (1 : Int).toNat).take ((s0_1.length : Int).toNat - (1 : Int).toNat))
  else
   Zh6 (Zjy s0_1) s0_1
def Zq3 (s0 : List UInt8) : Option (List UInt8 × Unit) :=
 Zh5 (Zjx s0) s0
abbrev Zu7 : List PE := [.box 2 49 (Kw) (.u false), .box 4 49 (Kw) (.u false), .val 5 (.slice 9 (.str)) (.u true), .val 6 (.int .i64) (.u false)]
def Y8 (K1 : (Xm × Xm × List (List UInt8) × Int × Unit) → Option (Xm × Unit)) (base2_2 : Xm) (t4_2 : Xm) (l5_1 : List (List UInt8)) (i6_1 : Int) : Option (Xm × Unit) :=
 K1 (base2_2, t4_2, l5_1, IntKind.i64.wrap (i6_1 + 1), ())
abbrev Zu8 : List PE := [.box 2 49 (Kw) (.u false), .box 4 49 (Kw) (.u false), .val 5 (.slice 9 (.str)) (.u true), .val 6 (.int .i64) (.u false)]
def Zcz (base2_1 : Xm) (t4_1 : Xm) (l5 : List (List UInt8)) (i6 : Int) : Nat := ((l5.length : Int) - i6).toNat + 1
def Xx : Nat → Xm → Xm → List (List UInt8) → Int → Option (Xm × Unit)
 | 0, _, _, _, _ => none
 | N + 1, base2_1, t4_1, l5, i6 =>
  bif decide (i6 < (l5.length : Int)) then
   Zb (0 ≤ i6 ∧ i6 < l5.length) <|
   (Zq3 (l5.getD i6.toNat ([] : List UInt8))).bind fun t24 =>
   bif (t24.1 == ([105] : List UInt8)) || (t24.1 == ([105, 61, 63, 49] : List UInt8)) then
    Y8 (fun v => Xx N v.1 v.2.1 v.2.2.1 v.2.2.2.1) (base2_1.1, (true, base2_1.2.2)) t4_1 l5 i6
   else
    bif t24.1 == ([105, 61, 63, 48] : List UInt8) then
     Y8 (fun v => Xx N v.1 v.2.1 v.2.2.1 v.2.2.2.1) (base2_1.1, (false, base2_1.2.2)) t4_1 l5 i6
    else
     Zb ((((t24.1.length : Int) == (3 : Int)) = true → (0 ≤ (0 : Int) ∧ (0 : Int) ≤ (2 : Int) ∧ (2 : Int) ≤ t24.1.length))) <|
     let t45 : Bool := ((t24.1.length : Int) == (3 : Int)) && (((t24.1.drop (0 : Int).toNat).take ((2 : Int).toNat - (0 : Int).toNat)) == ([117, 61] : List UInt8))
     Zb ((t45 = true → (0 ≤ (2 : Int) ∧ (2 : Int) < t24.1.length))) <|
     let t50 : Bool := t45 && (decide (((t24.1.getD (2 : Int).toNat 0).toNat : Int) ≥ (48 : Int)))
     Zb ((t50 = true → (0 ≤ (2 : Int) ∧ (2 : Int) < t24.1.length))) <|
     bif t50 && (decide (((t24.1.getD (2 : Int).toNat 0).toNat : Int) ≤ (55 : Int))) then
      Zb (0 ≤ (2 : Int) ∧ (2 : Int) < t24.1.length) <|
      Y8 (fun v => Xx N v.1 v.2.1 v.2.2.1 v.2.2.2.1) (IntKind.i64.wrap (IntKind.u8.wrap (((t24.1.getD (2 : Int).toNat 0).toNat : Int) - (48 : Int))), base2_1.2) t4_1 l5 i6
     else
      Y8 (fun v => Xx N v.1 v.2.1 v.2.2.1 v.2.2.2.1) base2_1 t4_1 l5 i6
  else
   some (base2_1, ())
abbrev Zu6 : List PE := [.val 1 (.str) (.u false), .box 2 49 (Kw) (.u false), .box 4 49 (Kw) (.u false)]
def Wx (s1_1 : List UInt8) (base2 : Xm) (t4 : Xm) : Option (Xm × Unit) :=
 (Zjw s1_1 (44 : Int)).bind fun t13 =>
 Xx (Zcz base2 t4 t13.1 (0 : Int)) base2 t4 t13.1 (0 : Int)
def Zhr (base0 : Xm) (s1 : List UInt8) : Option (Xm × Unit) :=
 (Zbf base0).bind fun t9 =>
 bif !t9.1 then
  Option.bind Ve fun t11 =>
  Wx s1 t11.1 ((0 : Int), (false, ()))
 else
  Wx s1 base0 ((0 : Int), (false, ()))
def Zkj (c0 : Zi) (id1 : Int) (text2 : List UInt8) : Option (Zi × Bool × Unit) :=
 (Z8 c0).bind fun t12 =>
 (Q0 c0 id1).bind fun t16 =>
 (Kd c0).bind fun t20 =>
 bif ((!t20.1) || (!t16.2.1)) || (!t16.1.2.2.2.2.2.2.1) then
  some (t12.1, false, ())
 else
  (Zhr t16.1.2.2.2.2.2.1 text2).bind fun t35 =>
  Option.bind (Xu t12.1.2.2.2.1 (t16.1.1, (t16.1.2.1, (t16.1.2.2.1, (t16.1.2.2.2.1, (t16.1.2.2.2.2.1, (t35.1, t16.1.2.2.2.2.2.2))))))) fun t40 =>
  some ((t12.1.1, (t12.1.2.1, (t12.1.2.2.1, (t40.1, t12.1.2.2.2.2)))), true, ())
def Zgd (w0 : Y3) : Option (Bool × Unit) :=
 (Kz w0).bind fun t4 =>
 let t9 : Bool := t4.1 && (decide (w0.2.2.1 < (4611686018427387903 : Int)))
 Zb ((t9 = true → ((2 : Int) ≠ 0))) <|
 some (t9 && (decide ((IntKind.i64.wrap ((IntKind.i64.wrap (w0.2.2.2.2.1 + w0.1)) - w0.2.2.1)) ≥ (IntKind.i64.wrap (Int.tdiv (IntKind.i64.wrap (w0.1 + 1)) (2 : Int))))), ())
abbrev Zx7 : List PE := [.val 1 (.int .i64) (.u false), .box 3 47 (Jw) (.u false), .box 6 47 (Jw) (.u false)]
def Zfi (now1_1 : Int) (w3 : Y3) (t6 : Y3) : Option (Y3 × Bool × Unit) :=
 some ((w3.1, (w3.2.1, (min (IntKind.i64.wrap (w3.2.2.2.2.1 + w3.1)) (4611686018427387903 : Int), (w3.2.2.2.1, (w3.2.2.2.2.1, (now1_1, w3.2.2.2.2.2.2)))))), true, ())
def Zgo (w0 : Y3) (now1 : Int) (trip2 : Int) : Option (Y3 × Bool × Unit) :=
 (Zgd w0).bind fun t9 =>
 (bif (!t9.1) then some (false, ()) else (Z4 now1 w0.2.2.2.2.2.1 (1000000 : Int))).bind fun t15 =>
 (bif ((!t9.1) || (!t15.1)) then some (false, ()) else (Z4 trip2 (1 : Int) (1000 : Int))).bind fun t20 =>
 bif ((!t9.1) || (!t15.1)) || (!t20.1) then
  some (w0, false, ())
 else
  bif decide ((IntKind.i64.wrap (now1 - w0.2.2.2.2.2.1)) < (IntKind.i64.wrap ((2 : Int) * trip2))) then
   Zfi now1 (min (IntKind.i64.wrap ((2 : Int) * w0.1)) w0.2.1, w0.2) Qqi
  else
   Zfi now1 w0 Qqi
def Zlg (c0 : Zi) : Option (Y3 × Bool × Unit) :=
 (Zgd c0.2.2.2.2.2.1).bind fun t8 =>
 bif t8.1 then
  (Zgo c0.2.2.2.2.2.1 c0.2.2.2.2.2.2.2.2.2.2.2.2.2.2.2.2.1 c0.2.1.2.2.2.2.2.2.2.1).bind fun t17 =>
  some (t17.1, t17.2.1, ())
 else
  some (c0.2.2.2.2.2.1, c0.2.2.2.2.2.2.2.2.2.2.1, ())
def Zjs (a0 : Qq) : Option (Bool × Unit) :=
 (Vr a0).bind fun t4 =>
 Zb ((t4.1 = true → ((2 : Int) ≠ 0))) <|
 some ((t4.1 && (decide ((IntKind.i64.wrap ((IntKind.i64.wrap (a0.2.2.2.1 + a0.1)) - a0.2.1)) ≥ (IntKind.i64.wrap (Int.tdiv (IntKind.i64.wrap (a0.1 + 1)) (2 : Int)))))) && (decide (a0.1 > (0 : Int))), ())
def Zl2 (a0 : Qq) : Option (Qq × Bool × Unit) :=
 (Zjs a0).bind fun t5 =>
 bif (!t5.1) || (decide ((IntKind.i64.wrap (a0.2.2.2.1 + a0.1)) > 1152921504606846976)) then
  some (a0, false, ())
 else
  some ((a0.1, (IntKind.i64.wrap (a0.2.2.2.1 + a0.1), a0.2.2)), true, ())
def Ze5 (a0 : Qq) (tell1 : Bool) : Option (Qq × Bool × Unit) :=
 (Zjs a0).bind fun t9 =>
 bif t9.1 then
  (Zl2 a0).bind fun t12 =>
  some (t12.1, t12.2.1, ())
 else
  some (a0, tell1, ())
def Zj8 (c0 : Zi) (s1 : Zo) : Option (Y3 × Bool × Unit) :=
 bif ((!s1.2.2.2.2.2.2.2.1) || (s1.2.2.2.1.1 != 0)) || s1.2.2.2.2.2.2.2.2.2.2.2.1 then
  some (s1.2.2.2.2.1, false, ())
 else
  (Zgd s1.2.2.2.2.1).bind fun t25 =>
  bif t25.1 then
   (Zgo s1.2.2.2.2.1 c0.2.2.2.2.2.2.2.2.2.2.2.2.2.2.2.2.1 c0.2.1.2.2.2.2.2.2.2.1).bind fun t34 =>
   some (t34.1, t34.2.1, ())
  else
   some (s1.2.2.2.2.1, s1.2.2.2.2.2.2.2.2.2.2.1, ())
def Zla (c0 : Qq) : Option (Bool × Unit) :=
 (Yl c0).bind fun t4 =>
 some (t4.1 && (c0.2.2.1 == c0.1), ())
abbrev Z26 : List PE := [.box 3 51 (Z1) (.u false), .val 5 (.slice 25 (Zr)) (.u true)]
def Zew (s3_2 : Zo) (out5_2 : List Zg) : Option (List Zg × Unit) :=
 (Zla s3_2.2.2.1).bind fun t56 =>
 bif (t56.1 && s3_2.2.2.2.2.2.2.1) && (decide ((s3_2.2.1.2.2.1.length : Int) > (0 : Int))) then
  let t75 : List Zg := [((21 : Int), (s3_2.1, ((0 : Int), (([] : List UInt8), (false, ((0 : Int), (s3_2.2.2.1.1, ((0 : Int), (false, ())))))))))]
  Zb (out5_2.length + t75.length ≤ Qp) <|
  some (out5_2 ++ t75, ())
 else
  some (out5_2, ())
abbrev Z25 : List PE := [.box 2 62 (Zq) (.u false), .box 3 51 (Z1) (.u false), .val 5 (.slice 25 (Zr)) (.u true)]
def Zev (c2_1 : Zi) (s3_1 : Zo) (out5_1 : List Zg) : Option (List Zg × Unit) :=
 (Zj8 c2_1 s3_1).bind fun t42 =>
 bif t42.2.1 then
  let t52 : List Zg := [((17 : Int), (s3_1.1, ((0 : Int), (([] : List UInt8), (false, ((0 : Int), (t42.1.2.2.1, ((0 : Int), (false, ())))))))))]
  Zb (out5_1.length + t52.length ≤ Qp) <|
  Zew s3_1 (out5_1 ++ t52)
 else
  Zew s3_1 out5_1
abbrev Z24 : List PE := [.box 2 62 (Zq) (.u false), .box 3 51 (Z1) (.u false), .val 5 (.slice 25 (Zr)) (.u true)]
def Zeu (c2 : Zi) (s3 : Zo) (out5 : List Zg) : Option (List Zg × Unit) :=
 bif s3.2.2.2.2.2.2.2.2.2.1 && (decide (s3.2.2.2.1.1 < (2 : Int))) then
  let t37 : List Zg := [((5 : Int), (s3.1, ((0 : Int), (([] : List UInt8), (false, (s3.2.2.2.2.2.2.2.2.2.2.2.2.1, ((0 : Int), ((0 : Int), (false, ())))))))))]
  Zb (out5.length + t37.length ≤ Qp) <|
  Zev c2 s3 (out5 ++ t37)
 else
  Zev c2 s3 out5
def Zn0 (c0 : Zi) (s1 : Zo) : Option (List Zg × Unit) :=
 bif s1.2.2.2.2.2.2.2.2.1 then
  let t21 : List Zg := [((4 : Int), (s1.1, ((0 : Int), (([] : List UInt8), (false, (s1.2.1.2.2.2.2.2.2.2.2.1, ((0 : Int), (s1.2.1.2.2.2.2.2.2.2.1, (false, ())))))))))]
  Zb (([] : List Zg).length + t21.length ≤ Qp) <|
  Zeu c0 s1 (([] : List Zg) ++ t21)
 else
  Zeu c0 s1 ([] : List Zg)
abbrev Zu0 : List PE := [.box 1 62 (Zq) (.u false), .val 3 (.slice 25 (Zr)) (.u true)]
def Wr (c1_5 : Zi) (out3_5 : List Zg) : Option (List Zg × Unit) :=
 bif c1_5.2.2.2.2.2.2.2.1.2.2.1 == c1_5.2.2.2.2.2.2.2.1.1 then
  let t110 : List Zg := [((22 : Int), ((0 : Int), ((0 : Int), (([] : List UInt8), (false, ((0 : Int), (c1_5.2.2.2.2.2.2.2.1.1, ((0 : Int), (true, ())))))))))]
  Zb (out3_5.length + t110.length ≤ Qp) <|
  some (out3_5 ++ t110, ())
 else
  some (out3_5, ())
abbrev Zuz : List PE := [.box 1 62 (Zq) (.u false), .val 3 (.slice 25 (Zr)) (.u true)]
def Wq (c1_4 : Zi) (out3_4 : List Zg) : Option (List Zg × Unit) :=
 bif c1_4.2.2.2.2.2.2.1.2.2.1 == c1_4.2.2.2.2.2.2.1.1 then
  let t96 : List Zg := [((22 : Int), ((0 : Int), ((0 : Int), (([] : List UInt8), (false, ((0 : Int), (c1_4.2.2.2.2.2.2.1.1, ((0 : Int), (false, ())))))))))]
  Zb (out3_4.length + t96.length ≤ Qp) <|
  Wr c1_4 (out3_4 ++ t96)
 else
  Wr c1_4 out3_4
abbrev Zu1 : List PE := [.box 1 62 (Zq) (.u false), .val 3 (.slice 25 (Zr)) (.u true), .val 10 (.int .i64) (.u false)]
def Zcp (c1_3 : Zi) (out3_3 : List Zg) (i10 : Int) : Nat := ((c1_3.2.2.2.1.length : Int) - i10).toNat + 1
def Ws : Nat → Zi → List Zg → Int → Option (List Zg × Unit)
 | 0, _, _, _ => none
 | N + 1, c1_3, out3_3, i10 =>
  bif decide (i10 < (c1_3.2.2.2.1.length : Int)) then
   Zb (0 ≤ i10 ∧ i10 < c1_3.2.2.2.1.length) <|
   (Zn0 c1_3 (c1_3.2.2.2.1.getD i10.toNat Q7)).bind fun t72 =>
   Zb (out3_3.length + t72.1.length ≤ Qp) <|
   Ws N c1_3 (out3_3 ++ t72.1) (IntKind.i64.wrap (i10 + 1))
  else
   (Zla c1_3.2.2.2.2.1).bind fun t76 =>
   bif t76.1 then
    let t82 : List Zg := [((20 : Int), ((0 : Int), ((0 : Int), (([] : List UInt8), (false, ((0 : Int), (c1_3.2.2.2.2.1.1, ((0 : Int), (false, ())))))))))]
    Zb (out3_3.length + t82.length ≤ Qp) <|
    Wq c1_3 (out3_3 ++ t82)
   else
    Wq c1_3 out3_3
abbrev Zuy : List PE := [.box 1 62 (Zq) (.u false), .val 3 (.slice 25 (Zr)) (.u true)]
def Wp (c1_2 : Zi) (out3_2 : List Zg) : Option (List Zg × Unit) :=
 Ws (Zcp c1_2 out3_2 (0 : Int)) c1_2 out3_2 (0 : Int)
abbrev Zux : List PE := [.box 1 62 (Zq) (.u false), .val 3 (.slice 25 (Zr)) (.u true)]
def Wo (c1_1 : Zi) (out3_1 : List Zg) : Option (List Zg × Unit) :=
 (Ze5 c1_1.2.2.2.2.2.2.2.2.2.1 c1_1.2.2.2.2.2.2.2.2.2.2.2.2.1).bind fun t48 =>
 bif t48.2.1 then
  let t56 : List Zg := [((18 : Int), ((0 : Int), ((0 : Int), (([] : List UInt8), (false, ((0 : Int), (t48.1.2.1, ((0 : Int), (true, ())))))))))]
  Zb (out3_1.length + t56.length ≤ Qp) <|
  Wp c1_1 (out3_1 ++ t56)
 else
  Wp c1_1 out3_1
abbrev Zuw : List PE := [.box 1 62 (Zq) (.u false), .val 3 (.slice 25 (Zr)) (.u true)]
def Wn (c1 : Zi) (out3 : List Zg) : Option (List Zg × Unit) :=
 (Ze5 c1.2.2.2.2.2.2.2.2.1 c1.2.2.2.2.2.2.2.2.2.2.2.1).bind fun t33 =>
 bif t33.2.1 then
  let t41 : List Zg := [((18 : Int), ((0 : Int), ((0 : Int), (([] : List UInt8), (false, ((0 : Int), (t33.1.2.1, ((0 : Int), (false, ())))))))))]
  Zb (out3.length + t41.length ≤ Qp) <|
  Wo c1 (out3 ++ t41)
 else
  Wo c1 out3
def Zhj (c0 : Zi) : Option (List Zg × Unit) :=
 (Kd c0).bind fun t13 =>
 bif !t13.1 then
  some (([] : List Zg), ())
 else
  (Zlg c0).bind fun t18 =>
  bif t18.2.1 then
   let t26 : List Zg := [((16 : Int), ((0 : Int), ((0 : Int), (([] : List UInt8), (false, ((0 : Int), (t18.1.2.2.1, ((0 : Int), (false, ())))))))))]
   Zb (([] : List Zg).length + t26.length ≤ Qp) <|
   Wn c0 (([] : List Zg) ++ t26)
  else
   Wn c0 ([] : List Zg)
def Zle (n0 : Int) : Option (Int × Unit) :=
 bif (decide (n0 < (0 : Int))) || (decide (n0 > (4611686018427387903 : Int))) then
  some ((0 : Int), ())
 else
  bif decide (n0 < (64 : Int)) then
   some ((1 : Int), ())
  else
   bif decide (n0 < (16384 : Int)) then
    some ((2 : Int), ())
   else
    bif decide (n0 < (1073741824 : Int)) then
     some ((4 : Int), ())
    else
     some ((8 : Int), ())
abbrev Zz4 : List PE := [.val 0 (.int .i64) (.u false), .val 3 (.int .i64) (.u false), .val 4 (.str) (.u false), .val 5 (.int .i64) (.u false), .val 6 (.int .i64) (.u false)]
def Kp (K1 : (Int × Int × List UInt8 × Int × Unit) → Option (List UInt8 × Unit)) (n0_2 : Int) (k3_1 : Int) (s4_2 : List UInt8) (i5_1 : Int) (b6 : Int) : Option (List UInt8 × Unit) :=
 (Zmu b6).bind fun t39 =>
 Zb (s4_2.length + t39.1.length ≤ Z5) <|
 K1 (n0_2, k3_1, s4_2 ++ t39.1, IntKind.i64.wrap (i5_1 - 1), ())
abbrev Zz5 : List PE := [.val 0 (.int .i64) (.u false), .val 3 (.int .i64) (.u false), .val 4 (.str) (.u false), .val 5 (.int .i64) (.u false)]
def Zf8 (n0_1 : Int) (k3 : Int) (s4_1 : List UInt8) (i5 : Int) : Nat := (i5 - 0).toNat + 2
def Xt : Nat → Int → Int → List UInt8 → Int → Option (List UInt8 × Unit)
 | 0, _, _, _, _ => none
 | N + 1, n0_1, k3, s4_1, i5 =>
  bif decide (i5 ≥ (0 : Int)) then
   Zb (0 ≤ (IntKind.i64.wrap ((8 : Int) * i5))) <|
   let t19 : Int := bits .and .i64 (n0_1.fdiv (2 ^ (min (IntKind.i64.wrap ((8 : Int) * i5)).toNat IntKind.i64.bits))) (255 : Int)
   bif i5 == (IntKind.i64.wrap (k3 - 1)) then
    bif k3 == 2 then
     Kp (fun v => Xt N v.1 v.2.1 v.2.2.1 v.2.2.2.1) n0_1 k3 s4_1 i5 (bits .or .i64 t19 (64 : Int))
    else
     bif k3 == 4 then
      Kp (fun v => Xt N v.1 v.2.1 v.2.2.1 v.2.2.2.1) n0_1 k3 s4_1 i5 (bits .or .i64 t19 (128 : Int))
     else
      bif k3 == 8 then
       Kp (fun v => Xt N v.1 v.2.1 v.2.2.1 v.2.2.2.1) n0_1 k3 s4_1 i5 (bits .or .i64 t19 (192 : Int))
      else
       Kp (fun v => Xt N v.1 v.2.1 v.2.2.1 v.2.2.2.1) n0_1 k3 s4_1 i5 t19
   else
    Kp (fun v => Xt N v.1 v.2.1 v.2.2.1 v.2.2.2.1) n0_1 k3 s4_1 i5 t19
  else
   some (s4_1, ())
def Zlr (n0 : Int) : Option (List UInt8 × Unit) :=
 (Zle n0).bind fun t8 =>
 Xt (Zf8 n0 t8.1 ([] : List UInt8) (IntKind.i64.wrap (t8.1 - 1))) n0 t8.1 ([] : List UInt8) (IntKind.i64.wrap (t8.1 - 1))
abbrev Zxz : List PE := [.val 0 (.slice 3 (.int .i64)) (.u false), .val 3 (.str) (.u false), .val 4 (.int .i64) (.u false)]
def Ze1 (l0_1 : List Int) (s3_1 : List UInt8) (i4 : Int) : Nat := ((l0_1.length : Int) - i4).toNat + 1
def Zbl : Nat → List Int → List UInt8 → Int → Option (List UInt8 × Unit)
 | 0, _, _, _ => none
 | N + 1, l0_1, s3_1, i4 =>
  bif decide (i4 < (l0_1.length : Int)) then
   Zb (0 ≤ i4 ∧ i4 < l0_1.length) <|
   (Zle (l0_1.getD i4.toNat (0 : Int))).bind fun t15 =>
   bif t15.1 == 0 then
    some (([] : List UInt8), ())
   else
    Zb (0 ≤ i4 ∧ i4 < l0_1.length) <|
    (Zlr (l0_1.getD i4.toNat (0 : Int))).bind fun t22 =>
    Zb (s3_1.length + t22.1.length ≤ Z5) <|
    Zbl N l0_1 (s3_1 ++ t22.1) (IntKind.i64.wrap (i4 + 1))
  else
   some (s3_1, ())
def Xq (l0 : List Int) : Option (List UInt8 × Unit) :=
 Zbl (Ze1 l0 ([] : List UInt8) (0 : Int)) l0 ([] : List UInt8) (0 : Int)
abbrev Zxv : List PE := [.box 1 25 (Zr) (.u false), .val 3 (.int .i64) (.u false)]
def Zfd (f1 : Zg) (kind3 : Int) : Option (List UInt8 × Unit) :=
 bif f1.2.2.1 == 0 then
  (Xq ([kind3, f1.2.1, (f1.2.2.2.1.length : Int)])).bind fun t44 =>
  Zb (t44.1.length + f1.2.2.2.1.length ≤ Z5) <|
  some (t44.1 ++ f1.2.2.2.1, ())
 else
  (Xq ([(IntKind.i64.wrap (kind3 + 4)), f1.2.1, f1.2.2.1, (f1.2.2.2.1.length : Int)])).bind fun t58 =>
  Zb (t58.1.length + f1.2.2.2.1.length ≤ Z5) <|
  some (t58.1 ++ f1.2.2.2.1, ())
abbrev Zxy : List PE := [.box 1 25 (Zr) (.u false), .val 4 (.int .i64) (.u false)]
def Zfg (f1_3 : Zg) (kind4 : Int) : Option (List UInt8 × Unit) :=
 (Xq ([kind4, f1_3.2.2.2.2.2.2.1])).bind fun t92 =>
 some (t92.1, ())
abbrev Zxx : List PE := [.box 1 25 (Zr) (.u false), .val 71 (.bool) (.u false)]
def Zff (f1_2 : Zg) (t71 : Bool) : Option (List UInt8 × Unit) :=
 bif t71 then
  (Xq ([f1_2.1, f1_2.2.1, f1_2.2.2.2.2.2.2.1])).bind fun t81 =>
  some (t81.1, ())
 else
  bif f1_2.2.2.2.2.2.2.2.2.1 then
   Zfg f1_2 (IntKind.i64.wrap (f1_2.1 + 1))
  else
   Zfg f1_2 f1_2.1
abbrev Zxw : List PE := [.box 1 25 (Zr) (.u false), .val 9 (.int .i64) (.u false), .val 62 (.bool) (.u false)]
def Zfe (f1_1 : Zg) (t9 : Int) (t62 : Bool) : Option (List UInt8 × Unit) :=
 bif t62 then
  (Xq ([f1_1.1, f1_1.2.2.2.2.2.2.1])).bind fun t70 =>
  some (t70.1, ())
 else
  bif t9 == 17 then
   Zff f1_1 (t9 == 17)
  else
   Zff f1_1 (t9 == 21)
def Zf7 (f0 : Zg) : Option (List UInt8 × Unit) :=
 (Vt f0).bind fun t6 =>
 bif !t6.1 then
  some (([] : List UInt8), ())
 else
  bif f0.1 == 4 then
   (Xq ([(4 : Int), f0.2.1, f0.2.2.2.2.2.1, f0.2.2.2.2.2.2.2.1])).bind fun t19 =>
   some (t19.1, ())
  else
   bif f0.1 == 5 then
    (Xq ([(5 : Int), f0.2.1, f0.2.2.2.2.2.1])).bind fun t27 =>
    some (t27.1, ())
   else
    bif f0.1 == 8 then
     bif f0.2.2.2.2.1 then
      Zfd f0 (IntKind.i64.wrap ((10 : Int) + (1 : Int)))
     else
      Zfd f0 (10 : Int)
    else
     bif f0.1 == 16 then
      Zfe f0 f0.1 (f0.1 == 16)
     else
      Zfe f0 f0.1 (f0.1 == 20)
def Zcu (f0 : Zg) : Option (Int × Unit) :=
 (Zf7 f0).bind fun t4 =>
 some ((t4.1.length : Int), ())
def Zec (c0 : Qq) : Option (Qq × Unit) :=
 (Yl c0).bind fun t4 =>
 bif t4.1 && (c0.2.2.1 != (-1 : Int)) then
  some ((c0.1, (c0.2.1, ((-1 : Int), (c0.2.2.1, c0.2.2.2.2)))), ())
 else
  some (c0, ())
def Zq8 (c0 : Zi) (s1 : Zo) (kind2 : Int) : Option ((Zo × Unit) × (Unit)) :=
 bif kind2 == 4 then
  some (((s1.1, (s1.2.1, (s1.2.2.1, (s1.2.2.2.1, (s1.2.2.2.2.1, (s1.2.2.2.2.2.1, (s1.2.2.2.2.2.2.1, (s1.2.2.2.2.2.2.2.1, (false, s1.2.2.2.2.2.2.2.2.2))))))))), ()), ())
 else
  bif kind2 == 5 then
   some (((s1.1, (s1.2.1, (s1.2.2.1, (s1.2.2.2.1, (s1.2.2.2.2.1, (s1.2.2.2.2.2.1, (s1.2.2.2.2.2.2.1, (s1.2.2.2.2.2.2.2.1, (s1.2.2.2.2.2.2.2.2.1, (false, s1.2.2.2.2.2.2.2.2.2.2)))))))))), ()), ())
  else
   bif kind2 == 17 then
    (Zj8 c0 s1).bind fun t21 =>
    bif t21.2.1 then
     some (((s1.1, (s1.2.1, (s1.2.2.1, (s1.2.2.2.1, (t21.1, (s1.2.2.2.2.2.1, (s1.2.2.2.2.2.2.1, (s1.2.2.2.2.2.2.2.1, (s1.2.2.2.2.2.2.2.2.1, (s1.2.2.2.2.2.2.2.2.2.1, (false, s1.2.2.2.2.2.2.2.2.2.2.2))))))))))), ()), ())
    else
     some (((s1.1, (s1.2.1, (s1.2.2.1, (s1.2.2.2.1, (s1.2.2.2.2.1, (s1.2.2.2.2.2.1, (s1.2.2.2.2.2.2.1, (s1.2.2.2.2.2.2.2.1, (s1.2.2.2.2.2.2.2.2.1, (s1.2.2.2.2.2.2.2.2.2.1, (false, s1.2.2.2.2.2.2.2.2.2.2.2))))))))))), ()), ())
   else
    bif kind2 == 21 then
     (Zec s1.2.2.1).bind fun t32 =>
     some (((s1.1, (s1.2.1, (t32.1, s1.2.2.2))), ()), ())
    else
     some ((s1, ()), ())
def Zkg (c0 : Zi) (f1 : Zg) : Option (Zi × Unit) :=
 (Z8 c0).bind fun t15 =>
 (Xy c0).bind fun t17 =>
 bif !t17.1 then
  some (t15.1, ())
 else
  bif f1.1 == 16 then
   (Zlg c0).bind fun t43 =>
   some ((t15.1.1, (t15.1.2.1, (t15.1.2.2.1, (t15.1.2.2.2.1, (t15.1.2.2.2.2.1, (t43.1, (t15.1.2.2.2.2.2.2.1, (t15.1.2.2.2.2.2.2.2.1, (t15.1.2.2.2.2.2.2.2.2.1, (t15.1.2.2.2.2.2.2.2.2.2.1, (false, t15.1.2.2.2.2.2.2.2.2.2.2.2))))))))))), ())
  else
   bif f1.1 == 18 then
    bif f1.2.2.2.2.2.2.2.2.1 then
     (Ze5 c0.2.2.2.2.2.2.2.2.2.1 false).bind fun t56 =>
     some ((t15.1.1, (t15.1.2.1, (t15.1.2.2.1, (t15.1.2.2.2.1, (t15.1.2.2.2.2.1, (t15.1.2.2.2.2.2.1, (t15.1.2.2.2.2.2.2.1, (t15.1.2.2.2.2.2.2.2.1, (t15.1.2.2.2.2.2.2.2.2.1, (t56.1, (t15.1.2.2.2.2.2.2.2.2.2.2.1, (t15.1.2.2.2.2.2.2.2.2.2.2.2.1, (false, t15.1.2.2.2.2.2.2.2.2.2.2.2.2.2))))))))))))), ())
    else
     (Ze5 c0.2.2.2.2.2.2.2.2.1 false).bind fun t65 =>
     some ((t15.1.1, (t15.1.2.1, (t15.1.2.2.1, (t15.1.2.2.2.1, (t15.1.2.2.2.2.1, (t15.1.2.2.2.2.2.1, (t15.1.2.2.2.2.2.2.1, (t15.1.2.2.2.2.2.2.2.1, (t65.1, (t15.1.2.2.2.2.2.2.2.2.2.1, (t15.1.2.2.2.2.2.2.2.2.2.2.1, (false, t15.1.2.2.2.2.2.2.2.2.2.2.2.2)))))))))))), ())
   else
    bif f1.1 == 20 then
     (Zec c0.2.2.2.2.1).bind fun t75 =>
     some ((t15.1.1, (t15.1.2.1, (t15.1.2.2.1, (t15.1.2.2.2.1, (t75.1, t15.1.2.2.2.2.2))))), ())
    else
     bif f1.1 == 22 then
      bif f1.2.2.2.2.2.2.2.2.1 then
       some ((t15.1.1, (t15.1.2.1, (t15.1.2.2.1, (t15.1.2.2.2.1, (t15.1.2.2.2.2.1, (t15.1.2.2.2.2.2.1, (t15.1.2.2.2.2.2.2.1, ((t15.1.2.2.2.2.2.2.2.1.1, (t15.1.2.2.2.2.2.2.2.1.2.1, ((-1 : Int), t15.1.2.2.2.2.2.2.2.1.2.2.2))), t15.1.2.2.2.2.2.2.2.2)))))))), ())
      else
       some ((t15.1.1, (t15.1.2.1, (t15.1.2.2.1, (t15.1.2.2.2.1, (t15.1.2.2.2.2.1, (t15.1.2.2.2.2.2.1, ((t15.1.2.2.2.2.2.2.1.1, (t15.1.2.2.2.2.2.2.1.2.1, ((-1 : Int), t15.1.2.2.2.2.2.2.1.2.2.2))), t15.1.2.2.2.2.2.2.2))))))), ())
     else
      (Q0 c0 f1.2.1).bind fun t26 =>
      bif t26.2.1 then
       (Zq8 c0 t26.1 f1.1).bind fun t36 =>
       (Xu t15.1.2.2.2.1 t36.1.1).bind fun t37 =>
       some ((t15.1.1, (t15.1.2.1, (t15.1.2.2.1, (t37.1, t15.1.2.2.2.2)))), ())
      else
       some (t15.1, ())
abbrev Z0v : List PE := [.box 1 62 (Zq) (.u false), .val 3 (.slice 332 (Q6)) (.u true), .val 4 (.int .i64) (.u false)]
def Zdb (K1 : (Zi × List Zz × Int × Unit) → Option (List Zz × Unit)) (c1_1 : Zi) (out3_1 : List Zz) (i4_1 : Int) : Option (List Zz × Unit) :=
 K1 (c1_1, out3_1, IntKind.i64.wrap (i4_1 + 1), ())
abbrev Z0w : List PE := [.box 1 62 (Zq) (.u false), .val 3 (.slice 332 (Q6)) (.u true), .val 4 (.int .i64) (.u false)]
def Zgw (c1 : Zi) (out3 : List Zz) (i4 : Int) : Nat := ((c1.2.2.2.1.length : Int) - i4).toNat + 1
def J4 : Nat → Zi → List Zz → Int → Option (List Zz × Unit)
 | 0, _, _, _ => none
 | N + 1, c1, out3, i4 =>
  bif decide (i4 < (c1.2.2.2.1.length : Int)) then
   Zb (0 ≤ i4 ∧ i4 < c1.2.2.2.1.length) <|
   bif ((c1.2.2.2.1.getD i4.toNat Q7).2.2.2.2.2.2.1 && (decide ((c1.2.2.2.1.getD i4.toNat Q7).2.1.1 < (3 : Int)))) && ((decide (((c1.2.2.2.1.getD i4.toNat Q7).2.1.2.2.1.length : Int) > (0 : Int))) || ((c1.2.2.2.1.getD i4.toNat Q7).2.1.2.2.2.2.2.2.1 == 1)) then
    let t46 : List Zz := [((c1.2.2.2.1.getD i4.toNat Q7).1, ((c1.2.2.2.1.getD i4.toNat Q7).2.2.2.2.2.1, ()))]
    Zb (out3.length + t46.length ≤ Qp) <|
    Zdb (fun v => J4 N v.1 v.2.1 v.2.2.1) c1 (out3 ++ t46) i4
   else
    Zdb (fun v => J4 N v.1 v.2.1 v.2.2.1) c1 out3 i4
  else
   some (out3, ())
def Zl5 (c0 : Zi) : Option (List Zz × Unit) :=
 J4 (Zgw c0 ([] : List Zz) (0 : Int)) c0 ([] : List Zz) (0 : Int)
abbrev Z0x : List PE := [.val 0 (.slice 332 (Q6)) (.u false), .val 1 (.int .i64) (.u false), .val 5 (.slice 332 (Q6)) (.u true), .val 6 (.int .i64) (.u false)]
def Zdc (K1 : (List Zz × Int × List Zz × Int × Unit) → Option (List Zz × Unit)) (l0_2 : List Zz) (id1_2 : Int) (out5_1 : List Zz) (i6_1 : Int) : Option (List Zz × Unit) :=
 K1 (l0_2, id1_2, out5_1, IntKind.i64.wrap (i6_1 + 1), ())
abbrev Z0y : List PE := [.val 0 (.slice 332 (Q6)) (.u false), .val 1 (.int .i64) (.u false), .val 5 (.slice 332 (Q6)) (.u true), .val 6 (.int .i64) (.u false)]
def Zgx (l0_1 : List Zz) (id1_1 : Int) (out5 : List Zz) (i6 : Int) : Nat := ((l0_1.length : Int) - i6).toNat + 1
def J5 : Nat → List Zz → Int → List Zz → Int → Option (List Zz × Unit)
 | 0, _, _, _, _ => none
 | N + 1, l0_1, id1_1, out5, i6 =>
  bif decide (i6 < (l0_1.length : Int)) then
   Zb (0 ≤ i6 ∧ i6 < l0_1.length) <|
   bif (l0_1.getD i6.toNat Y9).1 != id1_1 then
    Zb (0 ≤ i6 ∧ i6 < l0_1.length) <|
    Zb (out5.length + ([(l0_1.getD i6.toNat Y9)]).length ≤ Qp) <|
    Zdc (fun v => J5 N v.1 v.2.1 v.2.2.1 v.2.2.2.1) l0_1 id1_1 (out5 ++ ([(l0_1.getD i6.toNat Y9)])) i6
   else
    Zdc (fun v => J5 N v.1 v.2.1 v.2.2.1 v.2.2.2.1) l0_1 id1_1 out5 i6
  else
   some (out5, ())
def Zl6 (l0 : List Zz) (id1 : Int) : Option (List Zz × Unit) :=
 J5 (Zgx l0 id1 ([] : List Zz) (0 : Int)) l0 id1 ([] : List Zz) (0 : Int)
abbrev Zuu : List PE := [.val 0 (.slice 332 (Q6)) (.u false), .val 3 (.int .i64) (.u false)]
def Zcn (l0_1 : List Zz) (i3 : Int) : Nat := ((l0_1.length : Int) - i3).toNat + 1
def Wm : Nat → List Zz → Int → Option (Bool × Unit)
 | 0, _, _ => none
 | N + 1, l0_1, i3 =>
  bif decide (i3 < (l0_1.length : Int)) then
   Zb (0 ≤ i3 ∧ i3 < l0_1.length) <|
   (Qe (l0_1.getD i3.toNat Y9).1).bind fun t15 =>
   Zb (((!t15.1) = false → (0 ≤ i3 ∧ i3 < l0_1.length))) <|
   (bif (!t15.1) then some (false, ()) else (Zbf (l0_1.getD i3.toNat Y9).2.1)).bind fun t23 =>
   Zb ((((!t15.1) || (!t23.1)) = false → ((decide (i3 > (0 : Int))) = true → (0 ≤ i3 ∧ i3 < l0_1.length)))) <|
   Zb ((((!t15.1) || (!t23.1)) = false → ((decide (i3 > (0 : Int))) = true → (0 ≤ (IntKind.i64.wrap (i3 - 1)) ∧ (IntKind.i64.wrap (i3 - 1)) < l0_1.length)))) <|
   bif ((!t15.1) || (!t23.1)) || ((decide (i3 > (0 : Int))) && (decide ((l0_1.getD i3.toNat Y9).1 ≤ (l0_1.getD (IntKind.i64.wrap (i3 - 1)).toNat Y9).1))) then
    some (false, ())
   else
    Wm N l0_1 (IntKind.i64.wrap (i3 + 1))
  else
   some (true, ())
def Zhh (l0 : List Zz) : Option (Bool × Unit) :=
 Wm (Zcn l0 (0 : Int)) l0 (0 : Int)
abbrev Z0d : List PE := [.val 0 (.slice 332 (Q6)) (.u false), .val 3 (.slice 3 (.int .i64)) (.u true), .val 4 (.int .i64) (.u false), .val 5 (.int .i64) (.u false)]
def Zc0 (K1 : (List Zz × List Int × Int × Int × Unit) → Option (List Int × Unit)) (l0_2 : List Zz) (out3_1 : List Int) (best4_1 : Int) (i5_1 : Int) : Option (List Int × Unit) :=
 K1 (l0_2, out3_1, best4_1, IntKind.i64.wrap (i5_1 + 1), ())
abbrev Z0e : List PE := [.val 0 (.slice 332 (Q6)) (.u false), .val 3 (.slice 3 (.int .i64)) (.u true), .val 4 (.int .i64) (.u false), .val 5 (.int .i64) (.u false)]
def Zc1 (K1 : (List Zz × List Int × Int × Int × Unit) → Option (List Int × Unit)) (l0_3 : List Zz) (out3_2 : List Int) (best4_2 : Int) (i5_2 : Int) : Option (List Int × Unit) :=
 Zb (0 ≤ i5_2 ∧ i5_2 < l0_3.length) <|
 bif (l0_3.getD i5_2.toNat Y9).2.1.1 == best4_2 then
  Zb (0 ≤ i5_2 ∧ i5_2 < l0_3.length) <|
  Zb (out3_2.length + ([(l0_3.getD i5_2.toNat Y9).1]).length ≤ Qp) <|
  Zc0 K1 l0_3 (out3_2 ++ ([(l0_3.getD i5_2.toNat Y9).1])) best4_2 i5_2
 else
  Zc0 K1 l0_3 out3_2 best4_2 i5_2
abbrev Z0f : List PE := [.val 0 (.slice 332 (Q6)) (.u false), .val 3 (.slice 3 (.int .i64)) (.u true), .val 4 (.int .i64) (.u false), .val 5 (.int .i64) (.u false)]
def Zgc (l0_1 : List Zz) (out3 : List Int) (best4 : Int) (i5 : Int) : Nat := ((l0_1.length : Int) - i5).toNat + 1
def Ks : Nat → List Zz → List Int → Int → Int → Option (List Int × Unit)
 | 0, _, _, _, _ => none
 | N + 1, l0_1, out3, best4, i5 =>
  (bif (decide (i5 < (l0_1.length : Int))) then (Zhh l0_1) else some (false, ())).bind fun t13 =>
  bif (decide (i5 < (l0_1.length : Int))) && t13.1 then
   Zb (0 ≤ i5 ∧ i5 < l0_1.length) <|
   bif decide ((l0_1.getD i5.toNat Y9).2.1.1 < best4) then
    Zb (0 ≤ i5 ∧ i5 < l0_1.length) <|
    Zc1 (fun v => Ks N v.1 v.2.1 v.2.2.1 v.2.2.2.1) l0_1 ([] : List Int) (l0_1.getD i5.toNat Y9).2.1.1 i5
   else
    Zc1 (fun v => Ks N v.1 v.2.1 v.2.2.1 v.2.2.2.1) l0_1 out3 best4 i5
  else
   some (out3, ())
def Zlz (l0 : List Zz) : Option (List Int × Unit) :=
 Ks (Zgc l0 ([] : List Int) (8 : Int) (0 : Int)) l0 ([] : List Int) (8 : Int) (0 : Int)
abbrev Z6n : List PE := [.val 0 (.slice 3 (.int .i64)) (.u false), .val 1 (.int .i64) (.u false), .val 5 (.int .i64) (.u false)]
def Ziw (l0_1 : List Int) (last1_1 : Int) (i5 : Int) : Nat := ((l0_1.length : Int) - i5).toNat + 1
def Zgs : Nat → List Int → Int → Int → Option (Int × Unit)
 | 0, _, _, _ => none
 | N + 1, l0_1, last1_1, i5 =>
  bif decide (i5 < (l0_1.length : Int)) then
   Zb (0 ≤ i5 ∧ i5 < l0_1.length) <|
   bif decide ((l0_1.getD i5.toNat (0 : Int)) > last1_1) then
    Zb (0 ≤ i5 ∧ i5 < l0_1.length) <|
    some (l0_1.getD i5.toNat (0 : Int), ())
   else
    Zgs N l0_1 last1_1 (IntKind.i64.wrap (i5 + 1))
  else
   bif (l0_1.length : Int) == (0 : Int) then
    some ((-1 : Int), ())
   else
    Zb (0 ≤ (0 : Int) ∧ (0 : Int) < l0_1.length) <|
    some (l0_1.getD (0 : Int).toNat (0 : Int), ())
def Zo8 (l0 : List Int) (last1 : Int) : Option (Int × Unit) :=
 Zgs (Ziw l0 last1 (0 : Int)) l0 last1 (0 : Int)
abbrev Z0g : List PE := [.val 0 (.slice 332 (Q6)) (.u false), .val 1 (.int .i64) (.u false), .val 5 (.slice 3 (.int .i64)) (.u true), .val 6 (.slice 3 (.int .i64)) (.u true), .val 7 (.int .i64) (.u false), .val 8 (.int .i64) (.u false)]
def Zc4 (K1 : (List Zz × Int × List Int × List Int × Int × Unit) → Option (Int × Unit)) (K2 : (List Zz × Int × List Int × List Int × Int × Int × Unit) → Option (Int × Unit)) (l0_3 : List Zz) (last1_3 : Int) (m5_2 : List Int) (some6_2 : List Int) (i7_2 : Int) (k8_1 : Int) : Option (Int × Unit) :=
 K2 (l0_3, last1_3, m5_2, some6_2, i7_2, IntKind.i64.wrap (k8_1 + 1), ())
abbrev Z0i : List PE := [.val 0 (.slice 332 (Q6)) (.u false), .val 1 (.int .i64) (.u false), .val 5 (.slice 3 (.int .i64)) (.u true), .val 6 (.slice 3 (.int .i64)) (.u true), .val 7 (.int .i64) (.u false), .val 8 (.int .i64) (.u false)]
def Zgh (l0_2 : List Zz) (last1_2 : Int) (m5_1 : List Int) (some6_1 : List Int) (i7_1 : Int) (k8 : Int) : Nat := ((m5_1.length : Int) - k8).toNat + 1
def J3 (K1 : (List Zz × Int × List Int × List Int × Int × Unit) → Option (Int × Unit)) : Nat → List Zz → Int → List Int → List Int → Int → Int → Option (Int × Unit)
 | 0, _, _, _, _, _, _ => none
 | N + 1, l0_2, last1_2, m5_1, some6_1, i7_1, k8 =>
  bif decide (k8 < (m5_1.length : Int)) then
   Zb (0 ≤ k8 ∧ k8 < m5_1.length) <|
   Zb (0 ≤ i7_1 ∧ i7_1 < l0_2.length) <|
   let t33 : Bool := (m5_1.getD k8.toNat (0 : Int)) == (l0_2.getD i7_1.toNat Y9).1
   Zb ((t33 = true → (0 ≤ i7_1 ∧ i7_1 < l0_2.length))) <|
   bif t33 && (!(l0_2.getD i7_1.toNat Y9).2.1.2.1) then
    Zb (0 ≤ i7_1 ∧ i7_1 < l0_2.length) <|
    some ((l0_2.getD i7_1.toNat Y9).1, ())
   else
    Zb (0 ≤ k8 ∧ k8 < m5_1.length) <|
    Zb (0 ≤ i7_1 ∧ i7_1 < l0_2.length) <|
    bif (m5_1.getD k8.toNat (0 : Int)) == (l0_2.getD i7_1.toNat Y9).1 then
     Zb (0 ≤ i7_1 ∧ i7_1 < l0_2.length) <|
     Zb (some6_1.length + ([(l0_2.getD i7_1.toNat Y9).1]).length ≤ Qp) <|
     Zc4 K1 (fun v => J3 K1 N v.1 v.2.1 v.2.2.1 v.2.2.2.1 v.2.2.2.2.1 v.2.2.2.2.2.1) l0_2 last1_2 m5_1 (some6_1 ++ ([(l0_2.getD i7_1.toNat Y9).1])) i7_1 k8
    else
     Zc4 K1 (fun v => J3 K1 N v.1 v.2.1 v.2.2.1 v.2.2.2.1 v.2.2.2.2.1 v.2.2.2.2.2.1) l0_2 last1_2 m5_1 some6_1 i7_1 k8
  else
   K1 (l0_2, last1_2, m5_1, some6_1, IntKind.i64.wrap (i7_1 + 1), ())
abbrev Z0h : List PE := [.val 0 (.slice 332 (Q6)) (.u false), .val 1 (.int .i64) (.u false), .val 5 (.slice 3 (.int .i64)) (.u true), .val 6 (.slice 3 (.int .i64)) (.u true), .val 7 (.int .i64) (.u false)]
def Zgg (l0_1 : List Zz) (last1_1 : Int) (m5 : List Int) (some6 : List Int) (i7 : Int) : Nat := ((l0_1.length : Int) - i7).toNat + 1
def Kt : Nat → List Zz → Int → List Int → List Int → Int → Option (Int × Unit)
 | 0, _, _, _, _, _ => none
 | N + 1, l0_1, last1_1, m5, some6, i7 =>
  bif decide (i7 < (l0_1.length : Int)) then
   J3 (fun v => Kt N v.1 v.2.1 v.2.2.1 v.2.2.2.1 v.2.2.2.2.1) (Zgh l0_1 last1_1 m5 some6 i7 (0 : Int)) l0_1 last1_1 m5 some6 i7 (0 : Int)
  else
   (Zo8 some6 last1_1).bind fun t68 =>
   some (t68.1, ())
def Zl0 (l0 : List Zz) (last1 : Int) : Option (Int × Unit) :=
 (Zlz l0).bind fun t10 =>
 Kt (Zgg l0 last1 t10.1 ([] : List Int) (0 : Int)) l0 last1 t10.1 ([] : List Int) (0 : Int)
def V6 (c0 : Qq) : Option (Int × Unit) :=
 (Yl c0).bind fun t4 =>
 bif !t4.1 then
  some ((0 : Int), ())
 else
  some (IntKind.i64.wrap (c0.1 - c0.2.1), ())
def Zqd (id0 : Int) (p1 : Yh) : Option (Zg × Unit) :=
 some (((8 : Int), (id0, (p1.1, (p1.2.1, (p1.2.2.1, ((0 : Int), ((0 : Int), ((0 : Int), (false, ()))))))))), ())
abbrev Z6m : List PE := [.val 1 (.int .i64) (.u false), .val 2 (.int .i64) (.u false), .box 6 242 (Vg) (.u false), .box 8 51 (Z1) (.u true), .val 10 (.int .i64) (.u false), .val 11 (.int .i64) (.u false)]
def Ziv (id1_1 : Int) (room2_1 : Int) (t6 : Yh) (s8 : Zo) (limit10 : Int) (n11 : Int) : Nat := (n11 - 0).toNat + 1
def Zgn : Nat → Int → Int → Yh → Zo → Int → Int → Option (Yh × Bool × Unit)
 | 0, _, _, _, _, _, _ => none
 | N + 1, id1_1, room2_1, t6, s8, limit10, n11 =>
  bif decide (n11 > (0 : Int)) then
   (Zc3 s8.2.1 n11 limit10).bind fun t59 =>
   bif !t59.2.1 then
    some (Zmm, false, ())
   else
    (Zqd id1_1 t59.1).bind fun t67 =>
    (Zcu t67.1).bind fun t68 =>
    bif decide (t68.1 ≤ room2_1) then
     some (t59.1, true, ())
    else
     Zgn N id1_1 room2_1 t6 s8 limit10 (IntKind.i64.wrap (n11 - 1))
  else
   some (Zmm, false, ())
def Zo7 (c0 : Zi) (id1 : Int) (room2 : Int) : Option (Yh × Bool × Unit) :=
 (Q0 c0 id1).bind fun t17 =>
 (Xy c0).bind fun t21 =>
 bif (((!t21.1) || (!t17.2.1)) || (!t17.1.2.2.2.2.2.2.1)) || (decide (room2 < (3 : Int))) then
  some (Zmm, false, ())
 else
  (V6 c0.2.2.2.2.1).bind fun t45 =>
  let t47 : Int := min t17.1.2.2.1.1 (IntKind.i64.wrap (t17.1.2.1.2.2.2.2.2.2.2.1 + t45.1))
  Zgn (Ziv id1 room2 Zmm t17.1 t47 (min room2 (60 : Int))) id1 room2 Zmm t17.1 t47 (min room2 (60 : Int))
def Zgi (c0 : Qq) : Option (Qq × Unit) :=
 (Yl c0).bind fun t4 =>
 bif ((t4.1 && (c0.2.1 == c0.1)) && (c0.2.2.1 == (-1 : Int))) && (c0.2.2.2.1 != c0.1) then
  some ((c0.1, (c0.2.1, (c0.1, c0.2.2.2))), ())
 else
  some (c0, ())
def Zpa (x0 : Zi) (id1 : Int) : Option ((Unit) × (Zi × Unit)) :=
 (Q0 x0 id1).bind fun t11 =>
 (Zgi t11.1.2.2.1).bind fun t16 =>
 (Zgi x0.2.2.2.2.1).bind fun t23 =>
 (Xu x0.2.2.2.1 (t11.1.1, (t11.1.2.1, (t16.1, t11.1.2.2.2)))).bind fun t32 =>
 some ((), ((x0.1, (x0.2.1, (x0.2.2.1, (t32.1, (t23.1, x0.2.2.2.2.2))))), ()))
def Zjv (c0 : Qq) (n1 : Int) : Option (Qq × Bool × Unit) :=
 (Yl c0).bind fun t7 =>
 bif ((!t7.1) || (decide (n1 < (0 : Int)))) || (decide (n1 > (IntKind.i64.wrap (c0.1 - c0.2.1)))) then
  some (c0, false, ())
 else
  some ((c0.1, (IntKind.i64.wrap (c0.2.1 + n1), c0.2.2)), true, ())
def Zjr (c0 : Zi) (id1 : Int) (p2 : Yh) : Option (Zi × Bool × Unit) :=
 (Z8 c0).bind fun t19 =>
 (Q0 c0 id1).bind fun t23 =>
 (Xy c0).bind fun t27 =>
 bif ((!t27.1) || (!t23.2.1)) || (!t23.1.2.2.2.2.2.2.1) then
  some (t19.1, false, ())
 else
  (Zju t23.1.2.1 p2).bind fun t43 =>
  (Zjv t23.1.2.2.1 (IntKind.i64.wrap (t43.1.2.2.2.2.2.2.2.1 - t23.1.2.1.2.2.2.2.2.2.2.1))).bind fun t56 =>
  (Zjv c0.2.2.2.2.1 (IntKind.i64.wrap (t43.1.2.2.2.2.2.2.2.1 - t23.1.2.1.2.2.2.2.2.2.2.1))).bind fun t63 =>
  bif ((!t43.2.1) || (!t56.2.1)) || (!t63.2.1) then
   some (t19.1, false, ())
  else
   (Xu t19.1.2.2.2.1 (t23.1.1, (t43.1, (t56.1, t23.1.2.2.2)))).bind fun t88 =>
   some ((t19.1.1, (t19.1.2.1, (t19.1.2.2.1, (t88.1, (t63.1, (t19.1.2.2.2.2.2.1, (t19.1.2.2.2.2.2.2.1, (t19.1.2.2.2.2.2.2.2.1, (t19.1.2.2.2.2.2.2.2.2.1, (t19.1.2.2.2.2.2.2.2.2.2.1, (t19.1.2.2.2.2.2.2.2.2.2.2.1, (t19.1.2.2.2.2.2.2.2.2.2.2.2.1, (t19.1.2.2.2.2.2.2.2.2.2.2.2.2.1, (id1, t19.1.2.2.2.2.2.2.2.2.2.2.2.2.2.2)))))))))))))), true, ())
abbrev Z93 : List PE := [.box 0 62 (Zq) (.u true), .val 1 (.slice 25 (Zr)) (.u true), .val 2 (.int .i64) (.u false), .val 7 (.slice 3 (.int .i64)) (.u true), .val 8 (.int .i64) (.u false)]
def Zh9 (K1 : (Zi × List Zg × Int × List Int × Int × Unit) → Option ((List Zg × Unit) × (Zi × Unit))) (x0_2 : Zi) (frames1_2 : List Zg) (room2_2 : Int) (skip7_1 : List Int) (i8_1 : Int) : Option ((List Zg × Unit) × (Zi × Unit)) :=
 K1 (x0_2, frames1_2, room2_2, skip7_1, IntKind.i64.wrap (i8_1 + 1), ())
abbrev Z94 : List PE := [.box 0 62 (Zq) (.u true), .val 1 (.slice 25 (Zr)) (.u true), .val 2 (.int .i64) (.u false), .val 7 (.slice 3 (.int .i64)) (.u true), .val 8 (.int .i64) (.u false), .val 11 (.int .i64) (.u false), .box 12 242 (Vg) (.u false), .box 14 62 (Zq) (.u true), .val 15 (.bool) (.u false)]
def Yf (K1 : (Zi × List Zg × Int × List Int × Int × Unit) → Option ((List Zg × Unit) × (Zi × Unit))) (x0_4 : Zi) (frames1_4 : List Zg) (room2_4 : Int) (skip7_3 : List Int) (i8_3 : Int) (id11 : Int) (p12 : Yh) (y14 : Zi) (fine15 : Bool) : Option ((List Zg × Unit) × (Zi × Unit)) :=
 bif !fine15 then
  some ((frames1_4, ()), (x0_4, ()))
 else
  (Zqd id11 p12).bind fun t82 =>
  Zb (frames1_4.length + ([t82.1]).length ≤ Qp) <|
  (Zcu t82.1).bind fun t89 =>
  Zh9 K1 y14 (frames1_4 ++ ([t82.1])) (IntKind.i64.wrap (room2_4 - t89.1)) skip7_3 i8_3
abbrev Z96 : List PE := [.box 0 62 (Zq) (.u true), .val 1 (.slice 25 (Zr)) (.u true), .val 2 (.int .i64) (.u false), .val 7 (.slice 3 (.int .i64)) (.u true), .val 8 (.int .i64) (.u false), .val 9 (.slice 332 (Q6)) (.u true), .val 10 (.int .i64) (.u false)]
def Zj7 (x0_3 : Zi) (frames1_3 : List Zg) (room2_3 : Int) (skip7_2 : List Int) (i8_2 : Int) (l9 : List Zz) (k10 : Int) : Nat := ((skip7_2.length : Int) - k10).toNat + 1
def Zia (K1 : (Zi × List Zg × Int × List Int × Int × Unit) → Option ((List Zg × Unit) × (Zi × Unit))) : Nat → Zi → List Zg → Int → List Int → Int → List Zz → Int → Option ((List Zg × Unit) × (Zi × Unit))
 | 0, _, _, _, _, _, _, _ => none
 | N + 1, x0_3, frames1_3, room2_3, skip7_2, i8_2, l9, k10 =>
  bif decide (k10 < (skip7_2.length : Int)) then
   Zb (0 ≤ k10 ∧ k10 < skip7_2.length) <|
   (Zl6 l9 (skip7_2.getD k10.toNat (0 : Int))).bind fun t37 =>
   Zia K1 N x0_3 frames1_3 room2_3 skip7_2 i8_2 t37.1 (IntKind.i64.wrap (k10 + 1))
  else
   (Zl0 l9 x0_3.2.2.2.2.2.2.2.2.2.2.2.2.2.1).bind fun t43 =>
   bif decide (t43.1 < (0 : Int)) then
    some ((frames1_3, ()), (x0_3, ()))
   else
    (Zo7 x0_3 t43.1 room2_3).bind fun t53 =>
    bif !t53.2.1 then
     (Zpa x0_3 t43.1).bind fun t60 =>
     Zb (skip7_2.length + ([t43.1]).length ≤ Qp) <|
     Zh9 K1 t60.2.1 frames1_3 room2_3 (skip7_2 ++ ([t43.1])) i8_2
    else
     Z9 (
      (Zjr x0_3 t43.1 t53.1).bind fun t71 =>
      Z9 (
       Z9 (
        Z9 (
         Yf K1 x0_3 frames1_3 room2_3 skip7_2 i8_2 t43.1 t53.1 t71.1 t71.2.1
        ) (
         Qf 1 (
          Yf K1 x0_3 frames1_3 room2_3 skip7_2 i8_2 t43.1 t53.1 t71.1 t71.2.1
         )
        )
       ) (
       Z9 (
        Qf 1 (
         Yf K1 x0_3 frames1_3 room2_3 skip7_2 i8_2 t43.1 t53.1 t71.1 t71.2.1
        )
       ) (
        Z9 (
         Qf 1 (
          Yf K1 x0_3 frames1_3 room2_3 skip7_2 i8_2 t43.1 t53.1 t71.1 t71.2.1
         )
        ) (
         Yf K1 x0_3 frames1_3 room2_3 skip7_2 i8_2 t43.1 t53.1 t71.1 t71.2.1
        )
       )
       )
      ) (
       Z9 (
        Qf 1 (
         Yf K1 x0_3 frames1_3 room2_3 skip7_2 i8_2 t43.1 t53.1 t71.1 t71.2.1
        )
       ) (
        Yf K1 x0_3 frames1_3 room2_3 skip7_2 i8_2 t43.1 t53.1 t71.1 t71.2.1
       )
      )
     ) (
      (Zjr x0_3 t43.1 t53.1).bind fun t71 =>
      Z9 (
       Qf 1 (
        Yf K1 x0_3 frames1_3 room2_3 skip7_2 i8_2 t43.1 t53.1 t71.1 t71.2.1
       )
      ) (
       Yf K1 x0_3 frames1_3 room2_3 skip7_2 i8_2 t43.1 t53.1 t71.1 t71.2.1
      )
     )
abbrev Z95 : List PE := [.box 0 62 (Zq) (.u true), .val 1 (.slice 25 (Zr)) (.u true), .val 2 (.int .i64) (.u false), .val 7 (.slice 3 (.int .i64)) (.u true), .val 8 (.int .i64) (.u false)]
def Zj6 (x0_1 : Zi) (frames1_1 : List Zg) (room2_1 : Int) (skip7 : List Int) (i8 : Int) : Nat := ((200 : Int) - i8).toNat + 1
def V8 : Nat → Zi → List Zg → Int → List Int → Int → Option ((List Zg × Unit) × (Zi × Unit))
 | 0, _, _, _, _, _ => none
 | N + 1, x0_1, frames1_1, room2_1, skip7, i8 =>
  bif decide (i8 < (200 : Int)) then
   (Zl5 x0_1).bind fun t25 =>
   Zia (fun v => V8 N v.1 v.2.1 v.2.2.1 v.2.2.2.1 v.2.2.2.2.1) (Zj7 x0_1 frames1_1 room2_1 skip7 i8 t25.1 (0 : Int)) x0_1 frames1_1 room2_1 skip7 i8 t25.1 (0 : Int)
  else
   some ((frames1_1, ()), (x0_1, ()))
def Zq9 (x0 : Zi) (frames1 : List Zg) (room2 : Int) : Option ((List Zg × Unit) × (Zi × Unit)) :=
 V8 (Zj6 x0 frames1 room2 ([] : List Int) (0 : Int)) x0 frames1 room2 ([] : List Int) (0 : Int)
abbrev Zu2 : List PE := [.val 0 (.slice 25 (Zr)) (.u false), .val 3 (.str) (.u false), .val 4 (.int .i64) (.u false)]
def Zcr (l0_1 : List Zg) (s3_1 : List UInt8) (i4 : Int) : Nat := ((l0_1.length : Int) - i4).toNat + 1
def Wt : Nat → List Zg → List UInt8 → Int → Option (List UInt8 × Unit)
 | 0, _, _, _ => none
 | N + 1, l0_1, s3_1, i4 =>
  bif decide (i4 < (l0_1.length : Int)) then
   Zb (0 ≤ i4 ∧ i4 < l0_1.length) <|
   (Zf7 (l0_1.getD i4.toNat Qg)).bind fun t16 =>
   bif t16.1 == ([] : List UInt8) then
    some (([] : List UInt8), ())
   else
    Zb (s3_1.length + t16.1.length ≤ Z5) <|
    Wt N l0_1 (s3_1 ++ t16.1) (IntKind.i64.wrap (i4 + 1))
  else
   bif decide ((s3_1.length : Int) > (400 : Int)) then
    some (([] : List UInt8), ())
   else
    some (s3_1, ())
def Zhm (l0 : List Zg) : Option (List UInt8 × Unit) :=
 Wt (Zcr l0 ([] : List UInt8) (0 : Int)) l0 ([] : List UInt8) (0 : Int)
abbrev Zz2 : List PE := [.box 2 62 (Zq) (.u false), .box 6 62 (Zq) (.u true), .box 7 62 (Zq) (.u true), .val 8 (.slice 25 (Zr)) (.u true), .val 9 (.int .i64) (.u false), .val 10 (.slice 25 (Zr)) (.u true), .val 11 (.int .i64) (.u false)]
def Zcq (K1 : (Zi × Zi × Zi × List Zg × Int × List Zg × Int × Unit) → Option ((List UInt8 × Int × Zi × Unit) × (Unit))) (c2_1 : Zi) (t6_1 : Zi) (x7_1 : Zi) (frames8_1 : List Zg) (room9_1 : Int) (l10_1 : List Zg) (i11_1 : Int) : Option ((List UInt8 × Int × Zi × Unit) × (Unit)) :=
 K1 (c2_1, t6_1, x7_1, frames8_1, room9_1, l10_1, IntKind.i64.wrap (i11_1 + 1), ())
abbrev Zz3 : List PE := [.box 2 62 (Zq) (.u false), .box 6 62 (Zq) (.u true), .box 7 62 (Zq) (.u true), .val 8 (.slice 25 (Zr)) (.u true), .val 9 (.int .i64) (.u false), .val 10 (.slice 25 (Zr)) (.u true), .val 11 (.int .i64) (.u false)]
def Zf6 (c2 : Zi) (t6 : Zi) (x7 : Zi) (frames8 : List Zg) (room9 : Int) (l10 : List Zg) (i11 : Int) : Nat := ((l10.length : Int) - i11).toNat + 1
def J2 : Nat → Zi → Zi → Zi → List Zg → Int → List Zg → Int → Option ((List UInt8 × Int × Zi × Unit) × (Unit))
 | 0, _, _, _, _, _, _, _ => none
 | N + 1, c2, t6, x7, frames8, room9, l10, i11 =>
  bif decide (i11 < (l10.length : Int)) then
   Zb (0 ≤ i11 ∧ i11 < l10.length) <|
   (Zcu (l10.getD i11.toNat Qg)).bind fun t42 =>
   bif decide (t42.1 ≤ room9) then
    Zb (0 ≤ i11 ∧ i11 < l10.length) <|
    (Zcu (l10.getD i11.toNat Qg)).bind fun t50 =>
    Zb (0 ≤ i11 ∧ i11 < l10.length) <|
    (Zkg x7 (l10.getD i11.toNat Qg)).bind fun t57 =>
    Zb (0 ≤ i11 ∧ i11 < l10.length) <|
    Zb (frames8.length + ([(l10.getD i11.toNat Qg)]).length ≤ Qp) <|
    Zcq (fun v => J2 N v.1 v.2.1 v.2.2.1 v.2.2.2.1 v.2.2.2.2.1 v.2.2.2.2.2.1 v.2.2.2.2.2.2.1) c2 t6 t57.1 (frames8 ++ ([(l10.getD i11.toNat Qg)])) (IntKind.i64.wrap (room9 - t50.1)) l10 i11
   else
    Zcq (fun v => J2 N v.1 v.2.1 v.2.2.1 v.2.2.2.1 v.2.2.2.2.1 v.2.2.2.2.2.1 v.2.2.2.2.2.2.1) c2 t6 x7 frames8 room9 l10 i11
  else
   (Zq9 x7 frames8 room9).bind fun t67 =>
   bif (t67.1.1.length : Int) == (0 : Int) then
    some ((([] : List UInt8), ((-1 : Int), (t67.2.1, ()))), ())
   else
    Zb (t67.2.1.2.2.2.2.2.2.2.2.2.2.2.2.2.2.2.1.length + ([(c2.2.2.2.2.2.2.2.2.2.2.2.2.2.2.1, (t67.1.1, ()))]).length ≤ Qp) <|
    (Zhm t67.1.1).bind fun t86 =>
    some ((t86.1, (c2.2.2.2.2.2.2.2.2.2.2.2.2.2.2.1, ((t67.2.1.1, (t67.2.1.2.1, (t67.2.1.2.2.1, (t67.2.1.2.2.2.1, (t67.2.1.2.2.2.2.1, (t67.2.1.2.2.2.2.2.1, (t67.2.1.2.2.2.2.2.2.1, (t67.2.1.2.2.2.2.2.2.2.1, (t67.2.1.2.2.2.2.2.2.2.2.1, (t67.2.1.2.2.2.2.2.2.2.2.2.1, (t67.2.1.2.2.2.2.2.2.2.2.2.2.1, (t67.2.1.2.2.2.2.2.2.2.2.2.2.2.1, (t67.2.1.2.2.2.2.2.2.2.2.2.2.2.2.1, (t67.2.1.2.2.2.2.2.2.2.2.2.2.2.2.2.1, (IntKind.i64.wrap (c2.2.2.2.2.2.2.2.2.2.2.2.2.2.2.1 + 1), (t67.2.1.2.2.2.2.2.2.2.2.2.2.2.2.2.2.2.1 ++ ([(c2.2.2.2.2.2.2.2.2.2.2.2.2.2.2.1, (t67.1.1, ()))]), t67.2.1.2.2.2.2.2.2.2.2.2.2.2.2.2.2.2.2)))))))))))))))), ()))), ())
def Zlq (c0 : Zi) (budget1 : Int) : Option ((List UInt8 × Int × Zi × Unit) × (Unit)) :=
 (Z8 c0).bind fun t13 =>
 (Kd c0).bind fun t15 =>
 (bif (!t15.1) then some (false, ()) else (Z4 budget1 (1 : Int) (400 : Int))).bind fun t19 =>
 bif ((!t15.1) || (!t19.1)) || (decide (c0.2.2.2.2.2.2.2.2.2.2.2.2.2.2.1 ≥ (1000000 : Int))) then
  some ((([] : List UInt8), ((-1 : Int), (t13.1, ()))), ())
 else
  (Zhj c0).bind fun t31 =>
  J2 (Zf6 c0 Zbs t13.1 ([] : List Zg) budget1 t31.1 (0 : Int)) c0 Zbs t13.1 ([] : List Zg) budget1 t31.1 (0 : Int)
def Znt (id0 : Int) : Option (Int × Unit) :=
 (Qe id0).bind fun t4 =>
 bif !t4.1 then
  some ((-1 : Int), ())
 else
  Zb (0 ≤ (2 : Int)) <|
  some (id0.fdiv (2 ^ (min (2 : Int).toNat IntKind.i64.bits)), ())
def Zij (a0 : Qq) (index1 : Int) : Option (Qq × Int × Bool × Unit) :=
 (Vr a0).bind fun t9 =>
 bif ((!t9.1) || (decide (index1 < (0 : Int)))) || (decide (index1 ≥ a0.2.1)) then
  some (a0, (0 : Int), false, ())
 else
  let t27 : Int := max (0 : Int) (IntKind.i64.wrap ((IntKind.i64.wrap (index1 + 1)) - a0.2.2.1))
  some ((a0.1, (a0.2.1, (IntKind.i64.wrap (a0.2.2.1 + t27), a0.2.2.2))), t27, true, ())
abbrev Z90 : List PE := [.box 0 62 (Zq) (.u true), .val 1 (.int .i64) (.u false), .val 6 (.int .i64) (.u false), .box 7 51 (Z1) (.u true)]
def Y0 (K1 : (Zi × Int × Int × Unit) → Option ((Unit) × (Zi × Unit))) (x0_2 : Zi) (id1_2 : Int) (i6_1 : Int) (s7 : Zo) : Option ((Unit) × (Zi × Unit)) :=
 (Xu x0_2.2.2.2.1 s7).bind fun t41 =>
 K1 ((x0_2.1, (x0_2.2.1, (x0_2.2.2.1, (t41.1, x0_2.2.2.2.2)))), id1_2, IntKind.i64.wrap (i6_1 - 1), ())
abbrev Z91 : List PE := [.box 0 62 (Zq) (.u true), .val 1 (.int .i64) (.u false), .val 6 (.int .i64) (.u false)]
def Zj0 (x0_1 : Zi) (id1_1 : Int) (i6 : Int) : Nat := (i6 - 0).toNat + 2
def Xs : Nat → Zi → Int → Int → Option ((Unit) × (Zi × Unit))
 | 0, _, _, _ => none
 | N + 1, x0_1, id1_1, i6 =>
  bif decide (i6 ≥ (0 : Int)) then
   let t23 : Int := IntKind.i64.wrap (id1_1 - (IntKind.i64.wrap ((4 : Int) * i6)))
   Z9 (
    (Vu x0_1.1 t23 x0_1.2.1 x0_1.2.2.1).bind fun t32 =>
    Z9 (
     Z9 (
      Z9 (
       Y0 (fun v => Xs N v.1 v.2.1 v.2.2.1) x0_1 id1_1 i6 t32.1
      ) (
       Qf 1 (
        Y0 (fun v => Xs N v.1 v.2.1 v.2.2.1) x0_1 id1_1 i6 t32.1
       )
      )
     ) (
     Z9 (
      Qf 1 (
       Y0 (fun v => Xs N v.1 v.2.1 v.2.2.1) x0_1 id1_1 i6 t32.1
      )
     ) (
      Z9 (
       Qf 1 (
        Y0 (fun v => Xs N v.1 v.2.1 v.2.2.1) x0_1 id1_1 i6 t32.1
       )
      ) (
       Y0 (fun v => Xs N v.1 v.2.1 v.2.2.1) x0_1 id1_1 i6 t32.1
      )
     )
     )
    ) (
     Z9 (
      Qf 1 (
       Y0 (fun v => Xs N v.1 v.2.1 v.2.2.1) x0_1 id1_1 i6 t32.1
      )
     ) (
      Y0 (fun v => Xs N v.1 v.2.1 v.2.2.1) x0_1 id1_1 i6 t32.1
     )
    )
   ) (
    (Vu x0_1.1 t23 x0_1.2.1 x0_1.2.2.1).bind fun t32 =>
    Z9 (
     Qf 1 (
      Y0 (fun v => Xs N v.1 v.2.1 v.2.2.1) x0_1 id1_1 i6 t32.1
     )
    ) (
     Y0 (fun v => Xs N v.1 v.2.1 v.2.2.1) x0_1 id1_1 i6 t32.1
    )
   )
  else
   some ((), (x0_1, ()))
def Zq4 (x0 : Zi) (id1 : Int) (n2 : Int) : Option ((Unit) × (Zi × Unit)) :=
 Xs (Zj0 x0 id1 (IntKind.i64.wrap (n2 - 1))) x0 id1 (IntKind.i64.wrap (n2 - 1))
abbrev Zwp : List PE := [.val 1 (.int .i64) (.u false), .box 4 62 (Zq) (.u true), .box 6 62 (Zq) (.p (.u false) (.p (.u false) (.p (.u false) (.p (.u true) (.p (.u false) (.p (.u false) (.p (.u false) (.p (.u false) (.p (.u false) (.p (.u false) (.u true))))))))))), .val 9 (.int .i64) (.u false)]
def Zap (id1_3 : Int) (t4_2 : Zi) (x6_2 : Zi) (n9_1 : Int) : Option (Zi × Int × Unit) :=
 (Zq4 x6_2 id1_3 n9_1).bind fun t70 =>
 some (t70.2.1, (0 : Int), ())
abbrev Zwo : List PE := [.val 1 (.int .i64) (.u false), .box 2 62 (Zq) (.u false), .box 4 62 (Zq) (.u true), .box 6 62 (Zq) (.u true), .box 8 59 (Q4) (.u false), .val 9 (.int .i64) (.u false), .val 10 (.bool) (.u false)]
def Zp (id1_2 : Int) (c2_1 : Zi) (t4_1 : Zi) (x6_1 : Zi) (b8 : Qq) (n9 : Int) (is10 : Bool) : Option (Zi × Int × Unit) :=
 bif ((!is10) || (n9 == 0)) || (decide ((IntKind.i64.wrap ((c2_1.2.2.2.1.length : Int) + n9)) > 24)) then
  some (x6_1, (4 : Int), ())
 else
  (Zad id1_2).bind fun t63 =>
  bif t63.1 then
   Zap id1_2 t4_1 (x6_1.1, (x6_1.2.1, (x6_1.2.2.1, (x6_1.2.2.2.1, (x6_1.2.2.2.2.1, (x6_1.2.2.2.2.2.1, (x6_1.2.2.2.2.2.2.1, (x6_1.2.2.2.2.2.2.2.1, (x6_1.2.2.2.2.2.2.2.2.1, (b8, x6_1.2.2.2.2.2.2.2.2.2.2)))))))))) n9
  else
   Zap id1_2 t4_1 (x6_1.1, (x6_1.2.1, (x6_1.2.2.1, (x6_1.2.2.2.1, (x6_1.2.2.2.2.1, (x6_1.2.2.2.2.2.1, (x6_1.2.2.2.2.2.2.1, (x6_1.2.2.2.2.2.2.2.1, (b8, x6_1.2.2.2.2.2.2.2.2.2))))))))) n9
abbrev Zwn : List PE := [.val 1 (.int .i64) (.u false), .box 2 62 (Zq) (.u false), .box 4 62 (Zq) (.u true), .box 6 62 (Zq) (.u true), .box 7 59 (Q4) (.u false)]
def Zao (id1_1 : Int) (c2 : Zi) (t4 : Zi) (x6 : Zi) (a7 : Qq) : Option (Zi × Int × Unit) :=
 Z9 (
  (Znt id1_1).bind fun t42 =>
  Z9 (
   (Zij a7 t42.1).bind fun t43 =>
   Z9 (
    Z9 (
     Z9 (
      Z9 (
       Zp id1_1 c2 t4 x6 t43.1 t43.2.1 t43.2.2.1
      ) (
       Qf 1 (
        Zp id1_1 c2 t4 x6 t43.1 t43.2.1 t43.2.2.1
       )
      )
     ) (
     Z9 (
      Z9 (
       Zp id1_1 c2 t4 x6 t43.1 t43.2.1 t43.2.2.1
      ) (
       Qf 1 (
        Zp id1_1 c2 t4 x6 t43.1 t43.2.1 t43.2.2.1
       )
      )
     ) (
      Qf 2 (
       Qf 1 (
        Zp id1_1 c2 t4 x6 t43.1 t43.2.1 t43.2.2.1
       )
      )
     )
     )
    ) (
    Z9 (
     Z9 (
      Z9 (
       Zp id1_1 c2 t4 x6 t43.1 t43.2.1 t43.2.2.1
      ) (
       Qf 1 (
        Zp id1_1 c2 t4 x6 t43.1 t43.2.1 t43.2.2.1
       )
      )
     ) (
     Z9 (
      Qf 1 (
       Zp id1_1 c2 t4 x6 t43.1 t43.2.1 t43.2.2.1
      )
     ) (
      Z9 (
       Qf 1 (
        Zp id1_1 c2 t4 x6 t43.1 t43.2.1 t43.2.2.1
       )
      ) (
       Zp id1_1 c2 t4 x6 t43.1 t43.2.1 t43.2.2.1
      )
     )
     )
    ) (
    Z9 (
     Z9 (
      Z9 (
       Zp id1_1 c2 t4 x6 t43.1 t43.2.1 t43.2.2.1
      ) (
       Qf 1 (
        Zp id1_1 c2 t4 x6 t43.1 t43.2.1 t43.2.2.1
       )
      )
     ) (
     Z9 (
      Qf 1 (
       Zp id1_1 c2 t4 x6 t43.1 t43.2.1 t43.2.2.1
      )
     ) (
      Z9 (
       Qf 1 (
        Zp id1_1 c2 t4 x6 t43.1 t43.2.1 t43.2.2.1
       )
      ) (
       Zp id1_1 c2 t4 x6 t43.1 t43.2.1 t43.2.2.1
      )
     )
     )
    ) (
     Z9 (
      Qf 2 (
       Qf 1 (
        Zp id1_1 c2 t4 x6 t43.1 t43.2.1 t43.2.2.1
       )
      )
     ) (
     Z9 (
      Z9 (
       Qf 1 (
        Zp id1_1 c2 t4 x6 t43.1 t43.2.1 t43.2.2.1
       )
      ) (
       Zp id1_1 c2 t4 x6 t43.1 t43.2.1 t43.2.2.1
      )
     ) (
      Z9 (
       Qf 1 (
        Zp id1_1 c2 t4 x6 t43.1 t43.2.1 t43.2.2.1
       )
      ) (
       Zp id1_1 c2 t4 x6 t43.1 t43.2.1 t43.2.2.1
      )
     )
     )
    )
    )
    )
   ) (
    Z9 (
     Qf 2 (
      Qf 1 (
       Zp id1_1 c2 t4 x6 t43.1 t43.2.1 t43.2.2.1
      )
     )
    ) (
    Z9 (
     Z9 (
      Qf 1 (
       Zp id1_1 c2 t4 x6 t43.1 t43.2.1 t43.2.2.1
      )
     ) (
      Zp id1_1 c2 t4 x6 t43.1 t43.2.1 t43.2.2.1
     )
    ) (
     Z9 (
      Qf 1 (
       Zp id1_1 c2 t4 x6 t43.1 t43.2.1 t43.2.2.1
      )
     ) (
      Zp id1_1 c2 t4 x6 t43.1 t43.2.1 t43.2.2.1
     )
    )
    )
   )
  ) (
   (Zij a7 t42.1).bind fun t43 =>
   Z9 (
    Qf 2 (
     Qf 1 (
      Zp id1_1 c2 t4 x6 t43.1 t43.2.1 t43.2.2.1
     )
    )
   ) (
   Z9 (
    Z9 (
     Qf 1 (
      Zp id1_1 c2 t4 x6 t43.1 t43.2.1 t43.2.2.1
     )
    ) (
     Zp id1_1 c2 t4 x6 t43.1 t43.2.1 t43.2.2.1
    )
   ) (
    Z9 (
     Qf 1 (
      Zp id1_1 c2 t4 x6 t43.1 t43.2.1 t43.2.2.1
     )
    ) (
     Zp id1_1 c2 t4 x6 t43.1 t43.2.1 t43.2.2.1
    )
   )
   )
  )
 ) (
  (Znt id1_1).bind fun t42 =>
  (Zij a7 t42.1).bind fun t43 =>
  Z9 (
   Qf 2 (
    Qf 1 (
     Zp id1_1 c2 t4 x6 t43.1 t43.2.1 t43.2.2.1
    )
   )
  ) (
  Z9 (
   Z9 (
    Qf 1 (
     Zp id1_1 c2 t4 x6 t43.1 t43.2.1 t43.2.2.1
    )
   ) (
    Zp id1_1 c2 t4 x6 t43.1 t43.2.1 t43.2.2.1
   )
  ) (
   Z9 (
    Qf 1 (
     Zp id1_1 c2 t4 x6 t43.1 t43.2.1 t43.2.2.1
    )
   ) (
    Zp id1_1 c2 t4 x6 t43.1 t43.2.1 t43.2.2.1
   )
  )
  )
 )
def Vp (c0 : Zi) (id1 : Int) : Option (Zi × Int × Unit) :=
 (Z8 c0).bind fun t12 =>
 (Xy c0).bind fun t14 =>
 (bif (!t14.1) then some (false, ()) else (Qe id1)).bind fun t18 =>
 bif (!t14.1) || (!t18.1) then
  some (t12.1, (7 : Int), ())
 else
  (Zd3 c0.2.2.2.1 id1).bind fun t25 =>
  bif decide (t25.1 ≥ (0 : Int)) then
   some (t12.1, (0 : Int), ())
  else
   (Zhp c0.1 id1).bind fun t31 =>
   bif t31.1 then
    some (t12.1, (5 : Int), ())
   else
    (Zad id1).bind fun t36 =>
    bif t36.1 then
     Zao id1 c0 Zbs t12.1 c0.2.2.2.2.2.2.2.2.2.1
    else
     Zao id1 c0 Zbs t12.1 c0.2.2.2.2.2.2.2.2.1
def Zo4 (r0 : Qb) (end1 : Int) : Option (Int × Unit) :=
 (X9 r0).bind fun t6 =>
 (bif (!t6.1) then some (false, ()) else (Qe end1)).bind fun t10 =>
 bif (!t6.1) || (!t10.1) then
  some ((0 : Int), ())
 else
  some (max (0 : Int) (IntKind.i64.wrap (end1 - r0.2.2.2.1)), ())
def Zld (w0 : Y3) (n1 : Int) : Option (Y3 × Bool × Unit) :=
 (Kz w0).bind fun t7 =>
 bif ((!t7.1) || (decide (n1 < (0 : Int)))) || (decide (n1 > (IntKind.i64.wrap (w0.2.2.1 - w0.2.2.2.1)))) then
  some (w0, false, ())
 else
  some ((w0.1, (w0.2.1, (w0.2.2.1, (IntKind.i64.wrap (w0.2.2.2.1 + n1), w0.2.2.2.2)))), true, ())
def Zny (x0 : Zi) (s1 : Zo) (end2 : Int) : Option ((Int × Unit) × (Zi × Zo × Unit)) :=
 (Zo4 s1.2.2.2.1 end2).bind fun t17 =>
 bif t17.1 == 0 then
  some (((0 : Int), ()), (x0, (s1, ())))
 else
  (Zld s1.2.2.2.2.1 t17.1).bind fun t26 =>
  (Zld x0.2.2.2.2.2.1 t17.1).bind fun t35 =>
  bif (!t26.2.1) || (!t35.2.1) then
   some (((3 : Int), ()), (x0, (s1, ())))
  else
   some (((0 : Int), ()), ((x0.1, (x0.2.1, (x0.2.2.1, (x0.2.2.2.1, (x0.2.2.2.2.1, (t35.1, x0.2.2.2.2.2.2)))))), ((s1.1, (s1.2.1, (s1.2.2.1, (s1.2.2.2.1, (t26.1, s1.2.2.2.2.2))))), ())))
def Zlt (c0 : Zi) (f1 : Zg) : Option ((Zi × Int × Unit) × (Unit)) :=
 (Xy c0).bind fun t13 =>
 (bif (!t13.1) then some (false, ()) else (Vt f1)).bind fun t17 =>
 bif ((!t13.1) || (!t17.1)) || (f1.1 != 8) then
  (Z8 c0).bind fun t26 =>
  some ((t26.1, ((7 : Int), ())), ())
 else
  (Je c0.1 f1.2.1).bind fun t31 =>
  bif !t31.1 then
   (Z8 c0).bind fun t34 =>
   some ((t34.1, ((5 : Int), ())), ())
  else
   (Vp c0 f1.2.1).bind fun t39 =>
   bif t39.2.1 != 0 then
    (Z8 c0).bind fun t45 =>
    some ((t45.1, (t39.2.1, ())), ())
   else
    (Q0 t39.1 f1.2.1).bind fun t51 =>
    (W9 t51.1.2.2.2.1 f1.2.2.1 f1.2.2.2.1 f1.2.2.2.2.1).bind fun t63 =>
    (Zny t39.1 t51.1 (IntKind.i64.wrap (f1.2.2.1 + (f1.2.2.2.1.length : Int)))).bind fun t72 =>
    bif t72.1.1 != 0 then
     (Z8 c0).bind fun t76 =>
     some ((t76.1, (t72.1.1, ())), ())
    else
     bif t63.2.1 != 0 then
      (Z8 c0).bind fun t81 =>
      some ((t81.1, (t63.2.1, ())), ())
     else
      (Zb1 t72.2.1 (t72.2.2.1.1, (t72.2.2.1.2.1, (t72.2.2.1.2.2.1, (t63.1, t72.2.2.1.2.2.2.2))))).bind fun t86 =>
      some ((t86.2.1, ((0 : Int), ())), ())
abbrev Zx6 : List PE := [.box 4 62 (Zq) (.u true), .box 6 62 (Zq) (.u false), .box 8 51 (Z1) (.u false), .box 10 45 (Qt) (.u true)]
def Zbo (t4 : Zi) (x6 : Zi) (s8 : Zo) (r10 : Qb) : Option ((Zi × Int × Unit) × (Unit)) :=
 (Zb1 x6 (s8.1, (s8.2.1, (s8.2.2.1, (r10, s8.2.2.2.2))))).bind fun t92 =>
 some ((t92.2.1, ((0 : Int), ())), ())
def Zkf (c0 : Zi) (f1 : Zg) : Option ((Zi × Int × Unit) × (Unit)) :=
 (Xy c0).bind fun t13 =>
 (bif (!t13.1) then some (false, ()) else (Vt f1)).bind fun t17 =>
 bif ((!t13.1) || (!t17.1)) || (f1.1 != 4) then
  (Z8 c0).bind fun t26 =>
  some ((t26.1, ((7 : Int), ())), ())
 else
  (Je c0.1 f1.2.1).bind fun t31 =>
  bif !t31.1 then
   (Z8 c0).bind fun t34 =>
   some ((t34.1, ((5 : Int), ())), ())
  else
   (Vp c0 f1.2.1).bind fun t39 =>
   bif t39.2.1 != 0 then
    (Z8 c0).bind fun t45 =>
    some ((t45.1, (t39.2.1, ())), ())
   else
    (Q0 t39.1 f1.2.1).bind fun t51 =>
    (Zeo t51.1.2.2.2.1 f1.2.2.2.2.2.1 f1.2.2.2.2.2.2.2.1).bind fun t61 =>
    (Zny t39.1 t51.1 f1.2.2.2.2.2.2.2.1).bind fun t66 =>
    bif t66.1.1 != 0 then
     (Z8 c0).bind fun t70 =>
     some ((t70.1, (t66.1.1, ())), ())
    else
     bif t61.2.1 != 0 then
      (Z8 c0).bind fun t75 =>
      some ((t75.1, (t61.2.1, ())), ())
     else
      bif (t61.1.1 == 4) && (t66.2.2.1.2.2.2.1.1 != 4) then
       (Znz t66.2.1 t66.2.2.1 f1.2.2.2.2.2.2.2.1).bind fun t88 =>
       Zbo Zbs t88.2.1 t88.2.2.1 t61.1
      else
       Zbo Zbs t66.2.1 t66.2.2.1 t61.1
abbrev Zz7 : List PE := [.box 4 62 (Zq) (.u true), .box 6 62 (Zq) (.u true), .box 8 51 (Z1) (.p (.u false) (.p (.u true) (.p (.u false) (.p (.u true) (.u false)))))]
def Zcv (t4 : Zi) (x6 : Zi) (s8 : Zo) : Option ((Zi × Int × Unit) × (Unit)) :=
 (Zb1 x6 s8).bind fun t67 =>
 some ((t67.2.1, ((0 : Int), ())), ())
def Zlu (c0 : Zi) (f1 : Zg) : Option ((Zi × Int × Unit) × (Unit)) :=
 (Xy c0).bind fun t13 =>
 (bif (!t13.1) then some (false, ()) else (Vt f1)).bind fun t17 =>
 bif ((!t13.1) || (!t17.1)) || (f1.1 != 5) then
  (Z8 c0).bind fun t26 =>
  some ((t26.1, ((7 : Int), ())), ())
 else
  (Zco c0.1 f1.2.1).bind fun t31 =>
  bif !t31.1 then
   (Z8 c0).bind fun t34 =>
   some ((t34.1, ((5 : Int), ())), ())
  else
   (Vp c0 f1.2.1).bind fun t39 =>
   bif t39.2.1 != 0 then
    (Z8 c0).bind fun t45 =>
    some ((t45.1, (t39.2.1, ())), ())
   else
    (Q0 t39.1 f1.2.1).bind fun t51 =>
    (Zce t51.1.2.1 f1.2.2.2.2.2.1).bind fun t59 =>
    bif t59.2.1 then
     Zcv Zbs t39.1 (t51.1.1, (t59.1, (t51.1.2.2.1, (t51.1.2.2.2.1, (t51.1.2.2.2.2.1, (t51.1.2.2.2.2.2.1, (t51.1.2.2.2.2.2.2.1, (t51.1.2.2.2.2.2.2.2.1, (true, t51.1.2.2.2.2.2.2.2.2.2)))))))))
    else
     Zcv Zbs t39.1 t51.1
def Zh4 (c0 : Qq) (limit1 : Int) : Option (Qq × Unit) :=
 (Yl c0).bind fun t6 =>
 (bif (!t6.1) then some (false, ()) else (Qe limit1)).bind fun t10 =>
 bif ((!t6.1) || (!t10.1)) || (decide (limit1 ≤ c0.1)) then
  some (c0, ())
 else
  some ((limit1, (c0.2.1, ((-1 : Int), c0.2.2.2))), ())
def Zh3 (c0 : Zja) (limit1 : Int) : Option (Zja × Unit) :=
 (Zeh c0).bind fun t6 =>
 bif ((!t6.1) || (decide (limit1 ≤ c0.1))) || (decide (limit1 > (1152921504606846976 : Int))) then
  some (c0, ())
 else
  some ((limit1, (c0.2.1, ((-1 : Int), c0.2.2.2))), ())
abbrev Z6p : List PE := [.box 4 62 (Zq) (.u true), .box 7 62 (Zq) (.p (.u false) (.p (.u false) (.p (.u false) (.u true))))]
def Zkl (t4_1 : Zi) (x7 : Zi) : Option (Zi × Int × Unit) :=
 some (x7, (0 : Int), ())
abbrev Z6o : List PE := [.box 2 62 (Zq) (.u false), .box 3 25 (Zr) (.u false), .box 4 62 (Zq) (.u true), .val 6 (.bool) (.u false)]
def Zgv (c2 : Zi) (f3 : Zg) (t4 : Zi) (fine6 : Bool) : Option (Zi × Int × Unit) :=
 bif !fine6 then
  (Z8 c2).bind fun t27 =>
  some (t27.1, (5 : Int), ())
 else
  (Vp c2 f3.2.1).bind fun t32 =>
  bif t32.2.1 != 0 then
   (Z8 c2).bind fun t38 =>
   some (t38.1, t32.2.1, ())
  else
   bif f3.1 == 17 then
    (Q0 t32.1 f3.2.1).bind fun t47 =>
    (Zh4 t47.1.2.2.1 f3.2.2.2.2.2.2.1).bind fun t54 =>
    (Xu t32.1.2.2.2.1 (t47.1.1, (t47.1.2.1, (t54.1, t47.1.2.2.2)))).bind fun t59 =>
    Zkl t4 (t32.1.1, (t32.1.2.1, (t32.1.2.2.1, (t59.1, t32.1.2.2.2.2))))
   else
    Zkl t4 t32.1
def Zo9 (c0 : Zi) (f1 : Zg) : Option (Zi × Int × Unit) :=
 (Zco c0.1 f1.2.1).bind fun t15 =>
 bif f1.1 == 21 then
  (Je c0.1 f1.2.1).bind fun t23 =>
  Zgv c0 f1 Zbs t23.1
 else
  Zgv c0 f1 Zbs t15.1
abbrev Zx3 : List PE := [.box 4 62 (Zq) (.u true), .box 6 62 (Zq) (.p (.u false) (.p (.u false) (.p (.u false) (.p (.u true) (.p (.u false) (.p (.u false) (.p (.u false) (.p (.u false) (.u true)))))))))]
def Zfh (t4 : Zi) (x6 : Zi) : Option (Zi × Int × Unit) :=
 some (x6, (0 : Int), ())
abbrev Zx5 : List PE := [.box 2 62 (Zq) (.u false), .box 3 25 (Zr) (.u false), .box 4 62 (Zq) (.u true), .box 6 62 (Zq) (.u true), .val 52 (.bool) (.u false)]
def Zbn (c2_1 : Zi) (f3_1 : Zg) (t4_2 : Zi) (x6_2 : Zi) (t52 : Bool) : Option (Zi × Int × Unit) :=
 bif t52 then
  (Zo9 c2_1 f3_1).bind fun t58 =>
  some (t58.1, t58.2.1, ())
 else
  some (x6_2, (7 : Int), ())
abbrev Zx4 : List PE := [.box 2 62 (Zq) (.u false), .box 3 25 (Zr) (.u false), .box 4 62 (Zq) (.u true), .box 6 62 (Zq) (.u true), .val 21 (.int .i64) (.u false), .val 48 (.bool) (.u false)]
def Zbm (c2 : Zi) (f3 : Zg) (t4_1 : Zi) (x6_1 : Zi) (t21 : Int) (t48 : Bool) : Option (Zi × Int × Unit) :=
 bif t48 then
  some (x6_1, (0 : Int), ())
 else
  bif t21 == 17 then
   Zbn c2 f3 t4_1 x6_1 (t21 == 17)
  else
   Zbn c2 f3 t4_1 x6_1 (t21 == 21)
def Zke (c0 : Zi) (f1 : Zg) : Option (Zi × Int × Unit) :=
 (Z8 c0).bind fun t10 =>
 (Xy c0).bind fun t12 =>
 (bif (!t12.1) then some (false, ()) else (Vt f1)).bind fun t16 =>
 bif (!t12.1) || (!t16.1) then
  some (t10.1, (7 : Int), ())
 else
  bif f1.1 == 16 then
   (Zh4 c0.2.2.2.2.1 f1.2.2.2.2.2.2.1).bind fun t28 =>
   some ((t10.1.1, (t10.1.2.1, (t10.1.2.2.1, (t10.1.2.2.2.1, (t28.1, t10.1.2.2.2.2.2))))), (0 : Int), ())
  else
   bif f1.1 == 18 then
    bif f1.2.2.2.2.2.2.2.2.1 then
     (Zh3 c0.2.2.2.2.2.2.2.1 f1.2.2.2.2.2.2.1).bind fun t39 =>
     Zfh Zbs (t10.1.1, (t10.1.2.1, (t10.1.2.2.1, (t10.1.2.2.2.1, (t10.1.2.2.2.2.1, (t10.1.2.2.2.2.2.1, (t10.1.2.2.2.2.2.2.1, (t39.1, t10.1.2.2.2.2.2.2.2.2))))))))
    else
     (Zh3 c0.2.2.2.2.2.2.1 f1.2.2.2.2.2.2.1).bind fun t45 =>
     Zfh Zbs (t10.1.1, (t10.1.2.1, (t10.1.2.2.1, (t10.1.2.2.2.1, (t10.1.2.2.2.2.1, (t10.1.2.2.2.2.2.1, (t45.1, t10.1.2.2.2.2.2.2.2)))))))
   else
    bif f1.1 == 20 then
     Zbm c0 f1 Zbs t10.1 f1.1 (f1.1 == 20)
    else
     Zbm c0 f1 Zbs t10.1 f1.1 (f1.1 == 22)
abbrev Zx2 : List PE := [.box 4 62 (Zq) (.u true), .box 6 62 (Zq) (.u false), .val 7 (.int .i64) (.u false)]
def V2 (t4 : Zi) (x6 : Zi) (e7 : Int) : Option ((Zi × Int × Unit) × (Unit)) :=
 some ((x6, (e7, ())), ())
def Zkd (c0 : Zi) (f1 : Zg) : Option ((Zi × Int × Unit) × (Unit)) :=
 (Z8 c0).bind fun t9 =>
 bif f1.1 == 8 then
  (Zlt c0 f1).bind fun t23 =>
  V2 Zbs t23.1.1 t23.1.2.1
 else
  bif f1.1 == 4 then
   (Zkf c0 f1).bind fun t31 =>
   V2 Zbs t31.1.1 t31.1.2.1
  else
   bif f1.1 == 5 then
    (Zlu c0 f1).bind fun t39 =>
    V2 Zbs t39.1.1 t39.1.2.1
   else
    (Zke c0 f1).bind fun t15 =>
    V2 Zbs t15.1 t15.2.1
abbrev Z6h : List PE := [.val 1 (.int .i64) (.u false), .box 2 62 (Zq) (.u false), .box 4 148 (Wz) (.u true), .val 6 (.int .i64) (.u false)]
def Zit (number1_1 : Int) (c2 : Zi) (t4 : Xn) (i6 : Int) : Nat := ((c2.2.2.2.2.2.2.2.2.2.2.2.2.2.2.2.1.length : Int) - i6).toNat + 1
def Zgj : Nat → Int → Zi → Xn → Int → Option (Xn × Bool × Unit)
 | 0, _, _, _, _ => none
 | N + 1, number1_1, c2, t4, i6 =>
  bif decide (i6 < (c2.2.2.2.2.2.2.2.2.2.2.2.2.2.2.2.1.length : Int)) then
   Zb (0 ≤ i6 ∧ i6 < c2.2.2.2.2.2.2.2.2.2.2.2.2.2.2.2.1.length) <|
   bif (c2.2.2.2.2.2.2.2.2.2.2.2.2.2.2.2.1.getD i6.toNat Jz).1 == number1_1 then
    Zb (0 ≤ i6 ∧ i6 < c2.2.2.2.2.2.2.2.2.2.2.2.2.2.2.2.1.length) <|
    Zb (([] : List Zg).length + (c2.2.2.2.2.2.2.2.2.2.2.2.2.2.2.2.1.getD i6.toNat Jz).2.1.length ≤ Qp) <|
    some ((number1_1, (([] : List Zg) ++ (c2.2.2.2.2.2.2.2.2.2.2.2.2.2.2.2.1.getD i6.toNat Jz).2.1, ())), true, ())
   else
    Zgj N number1_1 c2 t4 (IntKind.i64.wrap (i6 + 1))
  else
   some (((0 : Int), (([] : List Zg), ())), false, ())
def Zlb (c0 : Zi) (number1 : Int) : Option (Xn × Bool × Unit) :=
 Zgj (Zit number1 c0 ((0 : Int), (([] : List Zg), ())) (0 : Int)) number1 c0 ((0 : Int), (([] : List Zg), ())) (0 : Int)
abbrev Qaa : List PE := [.box 0 62 (Zq) (.u false), .val 1 (.int .i64) (.u false), .val 4 (.slice 148 (Wz)) (.p (.u true) (.u false)), .val 5 (.int .i64) (.u false)]
def Zie (K1 : (Zi × Int × List Xn × Int × Unit) → Option ((Unit) × (Zi × Unit))) (x0_2 : Zi) (number1_2 : Int) (out4_1 : List Xn) (i5_1 : Int) : Option ((Unit) × (Zi × Unit)) :=
 K1 (x0_2, number1_2, out4_1, IntKind.i64.wrap (i5_1 + 1), ())
abbrev Qab : List PE := [.box 0 62 (Zq) (.u false), .val 1 (.int .i64) (.u false), .val 4 (.slice 148 (Wz)) (.p (.u true) (.u false)), .val 5 (.int .i64) (.u false)]
def Zj9 (x0_1 : Zi) (number1_1 : Int) (out4 : List Xn) (i5 : Int) : Nat := ((x0_1.2.2.2.2.2.2.2.2.2.2.2.2.2.2.2.1.length : Int) - i5).toNat + 1
def Zbg : Nat → Zi → Int → List Xn → Int → Option ((Unit) × (Zi × Unit))
 | 0, _, _, _, _ => none
 | N + 1, x0_1, number1_1, out4, i5 =>
  bif decide (i5 < (x0_1.2.2.2.2.2.2.2.2.2.2.2.2.2.2.2.1.length : Int)) then
   Zb (0 ≤ i5 ∧ i5 < x0_1.2.2.2.2.2.2.2.2.2.2.2.2.2.2.2.1.length) <|
   bif (x0_1.2.2.2.2.2.2.2.2.2.2.2.2.2.2.2.1.getD i5.toNat Jz).1 != number1_1 then
    Zb (0 ≤ i5 ∧ i5 < x0_1.2.2.2.2.2.2.2.2.2.2.2.2.2.2.2.1.length) <|
    Zb (out4.length + ([(x0_1.2.2.2.2.2.2.2.2.2.2.2.2.2.2.2.1.getD i5.toNat Jz)]).length ≤ Qp) <|
    Zie (fun v => Zbg N v.1 v.2.1 v.2.2.1 v.2.2.2.1) x0_1 number1_1 (out4 ++ ([(x0_1.2.2.2.2.2.2.2.2.2.2.2.2.2.2.2.1.getD i5.toNat Jz)])) i5
   else
    Zie (fun v => Zbg N v.1 v.2.1 v.2.2.1 v.2.2.2.1) x0_1 number1_1 out4 i5
  else
   some ((), ((x0_1.1, (x0_1.2.1, (x0_1.2.2.1, (x0_1.2.2.2.1, (x0_1.2.2.2.2.1, (x0_1.2.2.2.2.2.1, (x0_1.2.2.2.2.2.2.1, (x0_1.2.2.2.2.2.2.2.1, (x0_1.2.2.2.2.2.2.2.2.1, (x0_1.2.2.2.2.2.2.2.2.2.1, (x0_1.2.2.2.2.2.2.2.2.2.2.1, (x0_1.2.2.2.2.2.2.2.2.2.2.2.1, (x0_1.2.2.2.2.2.2.2.2.2.2.2.2.1, (x0_1.2.2.2.2.2.2.2.2.2.2.2.2.2.1, (x0_1.2.2.2.2.2.2.2.2.2.2.2.2.2.2.1, (out4, x0_1.2.2.2.2.2.2.2.2.2.2.2.2.2.2.2.2)))))))))))))))), ()))
def Zn1 (x0 : Zi) (number1 : Int) : Option ((Unit) × (Zi × Unit)) :=
 Zbg (Zj9 x0 number1 ([] : List Xn) (0 : Int)) x0 number1 ([] : List Xn) (0 : Int)
def Ztt (f0 : Zg) : Option (Yh × Unit) :=
 some ((f0.2.2.1, (f0.2.2.2.1, (f0.2.2.2.2.1, ()))), ())
end Go.Proofs.YtahooemkbchdeaaGreatDoor

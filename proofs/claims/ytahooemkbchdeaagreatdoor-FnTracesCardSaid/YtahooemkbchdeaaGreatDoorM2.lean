/- FnTraces: what the functions that it reaches compute, as plain functions, part 2. No condition. -/
import Derived.Test.YtahooemkbchdeaaGreatDoorM1
noncomputable section
namespace Go.Proofs.YtahooemkbchdeaaGreatDoor
open Go.Am
set_option maxRecDepth 100000
set_option linter.unusedVariables false
abbrev Qad : List PE := [.box 0 62 (Zq) (.u false), .box 4 51 (Z1) (.p (.u false) (.p (.u true) (.p (.u false) (.p (.u true) (.u false)))))]
def V9 (x0_2 : Zi) (s4_1 : Zo) : Option ((Unit) × (Zi × Unit)) :=
 (Xu x0_2.2.2.2.1 s4_1).bind fun t72 =>
 some ((), ((x0_2.1, (x0_2.2.1, (x0_2.2.2.1, (t72.1, x0_2.2.2.2.2)))), ()))
abbrev Qac : List PE := [.box 0 62 (Zq) (.u false), .box 3 25 (Zr) (.u false), .box 4 51 (Z1) (.u true), .val 5 (.bool) (.u false)]
def Yg (x0_1 : Zi) (f3 : Zg) (s4 : Zo) (is5 : Bool) : Option ((Unit) × (Zi × Unit)) :=
 (bif (!is5) then some (false, ()) else (Qa f3)).bind fun t36 =>
 bif (!is5) || (!t36.1) then
  some ((), (x0_1, ()))
 else
  bif f3.1 == 8 then
   (Ztt f3).bind fun t46 =>
   (Zjp s4.2.1 t46.1).bind fun t47 =>
   V9 x0_1 (s4.1, (t47.1, s4.2.2))
  else
   bif f3.1 == 4 then
    V9 x0_1 (s4.1, (s4.2.1, (s4.2.2.1, (s4.2.2.2.1, (s4.2.2.2.2.1, (s4.2.2.2.2.2.1, (s4.2.2.2.2.2.2.1, (s4.2.2.2.2.2.2.2.1, (s4.2.1.1 == 4, s4.2.2.2.2.2.2.2.2.2)))))))))
   else
    bif f3.1 == 5 then
     V9 x0_1 (s4.1, (s4.2.1, (s4.2.2.1, (s4.2.2.2.1, (s4.2.2.2.2.1, (s4.2.2.2.2.2.1, (s4.2.2.2.2.2.2.1, (s4.2.2.2.2.2.2.2.1, (s4.2.2.2.2.2.2.2.2.1, (decide (s4.2.2.2.1.1 < (2 : Int)), s4.2.2.2.2.2.2.2.2.2.2))))))))))
    else
     bif f3.1 == 17 then
      V9 x0_1 (s4.1, (s4.2.1, (s4.2.2.1, (s4.2.2.2.1, (s4.2.2.2.2.1, (s4.2.2.2.2.2.1, (s4.2.2.2.2.2.2.1, (s4.2.2.2.2.2.2.2.1, (s4.2.2.2.2.2.2.2.2.1, (s4.2.2.2.2.2.2.2.2.2.1, (true, s4.2.2.2.2.2.2.2.2.2.2.2)))))))))))
     else
      V9 x0_1 s4
def Zrb (x0 : Zi) (f1 : Zg) : Option ((Unit) × (Zi × Unit)) :=
 bif f1.1 == 16 then
  some ((), ((x0.1, (x0.2.1, (x0.2.2.1, (x0.2.2.2.1, (x0.2.2.2.2.1, (x0.2.2.2.2.2.1, (x0.2.2.2.2.2.2.1, (x0.2.2.2.2.2.2.2.1, (x0.2.2.2.2.2.2.2.2.1, (x0.2.2.2.2.2.2.2.2.2.1, (true, x0.2.2.2.2.2.2.2.2.2.2.2))))))))))), ()))
 else
  bif f1.1 == 18 then
   bif f1.2.2.2.2.2.2.2.2.1 then
    some ((), ((x0.1, (x0.2.1, (x0.2.2.1, (x0.2.2.2.1, (x0.2.2.2.2.1, (x0.2.2.2.2.2.1, (x0.2.2.2.2.2.2.1, (x0.2.2.2.2.2.2.2.1, (x0.2.2.2.2.2.2.2.2.1, (x0.2.2.2.2.2.2.2.2.2.1, (x0.2.2.2.2.2.2.2.2.2.2.1, (x0.2.2.2.2.2.2.2.2.2.2.2.1, (true, x0.2.2.2.2.2.2.2.2.2.2.2.2.2))))))))))))), ()))
   else
    some ((), ((x0.1, (x0.2.1, (x0.2.2.1, (x0.2.2.2.1, (x0.2.2.2.2.1, (x0.2.2.2.2.2.1, (x0.2.2.2.2.2.2.1, (x0.2.2.2.2.2.2.2.1, (x0.2.2.2.2.2.2.2.2.1, (x0.2.2.2.2.2.2.2.2.2.1, (x0.2.2.2.2.2.2.2.2.2.2.1, (true, x0.2.2.2.2.2.2.2.2.2.2.2.2)))))))))))), ()))
  else
   Z9 (
    (Q0 x0 f1.2.1).bind fun t29 =>
    Z9 (
     Z9 (
      Z9 (
       Yg x0 f1 t29.1 t29.2.1
      ) (
       Qf 1 (
        Yg x0 f1 t29.1 t29.2.1
       )
      )
     ) (
     Z9 (
      Qf 1 (
       Yg x0 f1 t29.1 t29.2.1
      )
     ) (
      Z9 (
       Qf 1 (
        Yg x0 f1 t29.1 t29.2.1
       )
      ) (
       Yg x0 f1 t29.1 t29.2.1
      )
     )
     )
    ) (
     Z9 (
      Qf 1 (
       Yg x0 f1 t29.1 t29.2.1
      )
     ) (
      Yg x0 f1 t29.1 t29.2.1
     )
    )
   ) (
    (Q0 x0 f1.2.1).bind fun t29 =>
    Z9 (
     Qf 1 (
      Yg x0 f1 t29.1 t29.2.1
     )
    ) (
     Yg x0 f1 t29.1 t29.2.1
    )
   )
abbrev Z0c : List PE := [.box 4 62 (Zq) (.u true), .box 6 62 (Zq) (.u false), .box 7 148 (Wz) (.u true), .val 9 (.int .i64) (.u false)]
def Zgb (t4 : Zi) (x6 : Zi) (p7 : Xn) (i9 : Int) : Nat := ((p7.2.1.length : Int) - i9).toNat + 1
def Zcy : Nat → Zi → Zi → Xn → Int → Option ((Zi × Bool × Unit) × (Unit))
 | 0, _, _, _, _ => none
 | N + 1, t4, x6, p7, i9 =>
  bif decide (i9 < (p7.2.1.length : Int)) then
   Zb (0 ≤ i9 ∧ i9 < p7.2.1.length) <|
   (Zrb x6 (p7.2.1.getD i9.toNat Qg)).bind fun t40 =>
   Zcy N t4 t40.2.1 p7 (IntKind.i64.wrap (i9 + 1))
  else
   some ((x6, (true, ())), ())
def Zly (c0 : Zi) (number1 : Int) : Option ((Zi × Bool × Unit) × (Unit)) :=
 (Z8 c0).bind fun t11 =>
 (Zlb c0 number1).bind fun t15 =>
 (Kd c0).bind fun t19 =>
 bif (!t19.1) || (!t15.2.1) then
  some ((t11.1, (false, ())), ())
 else
  (Zn1 t11.1 number1).bind fun t27 =>
  Zcy (Zgb Zbs t27.2.1 t15.1 (0 : Int)) Zbs t27.2.1 t15.1 (0 : Int)
def Zo1 (s0 : Zm) : Option (Zm × Bool × Unit) :=
 (Zaw s0).bind fun t6 =>
 (Ym s0).bind fun t8 =>
 bif (!t8.1) || (s0.1 != 4) then
  some (t6.1, false, ())
 else
  some (((5 : Int), t6.1.2), true, ())
abbrev Qdt : List PE := [.box 0 62 (Zq) (.u false), .box 4 51 (Z1) (.p (.u false) (.p (.u true) (.p (.u false) (.p (.u true) (.u false)))))]
def Zav (x0_2 : Zi) (s4_1 : Zo) : Option ((Unit) × (Zi × Unit)) :=
 (Zb1 x0_2 s4_1).bind fun t51 =>
 some ((), (t51.2.1, ()))
abbrev Qds : List PE := [.box 0 62 (Zq) (.u false), .box 3 25 (Zr) (.u false), .box 4 51 (Z1) (.u true), .val 5 (.bool) (.u false)]
def Y1 (x0_1 : Zi) (f3 : Zg) (s4 : Zo) (is5 : Bool) : Option ((Unit) × (Zi × Unit)) :=
 (bif (!is5) then some (false, ()) else (Qa f3)).bind fun t21 =>
 bif (!is5) || (!t21.1) then
  some ((), (x0_1, ()))
 else
  bif f3.1 == 8 then
   (Ztt f3).bind fun t31 =>
   (Zk7 s4.2.1 t31.1).bind fun t32 =>
   Zav x0_1 (s4.1, (t32.1, s4.2.2))
  else
   bif f3.1 == 4 then
    (Zo1 s4.2.1).bind fun t39 =>
    bif t39.2.1 then
     Zav x0_1 (s4.1, (t39.1, (s4.2.2.1, (s4.2.2.2.1, (s4.2.2.2.2.1, (s4.2.2.2.2.2.1, (s4.2.2.2.2.2.2.1, (s4.2.2.2.2.2.2.2.1, (false, s4.2.2.2.2.2.2.2.2.2)))))))))
    else
     Zav x0_1 (s4.1, (t39.1, s4.2.2))
   else
    bif f3.1 == 5 then
     Zav x0_1 (s4.1, (s4.2.1, (s4.2.2.1, (s4.2.2.2.1, (s4.2.2.2.2.1, (s4.2.2.2.2.2.1, (s4.2.2.2.2.2.2.1, (s4.2.2.2.2.2.2.2.1, (s4.2.2.2.2.2.2.2.2.1, (false, s4.2.2.2.2.2.2.2.2.2.2))))))))))
    else
     Zav x0_1 s4
def Zs8 (x0 : Zi) (f1 : Zg) : Option ((Unit) × (Zi × Unit)) :=
 Z9 (
  (Q0 x0 f1.2.1).bind fun t14 =>
  Z9 (
   Z9 (
    Z9 (
     Y1 x0 f1 t14.1 t14.2.1
    ) (
     Qf 1 (
      Y1 x0 f1 t14.1 t14.2.1
     )
    )
   ) (
   Z9 (
    Qf 1 (
     Y1 x0 f1 t14.1 t14.2.1
    )
   ) (
    Z9 (
     Qf 1 (
      Y1 x0 f1 t14.1 t14.2.1
     )
    ) (
     Y1 x0 f1 t14.1 t14.2.1
    )
   )
   )
  ) (
   Z9 (
    Qf 1 (
     Y1 x0 f1 t14.1 t14.2.1
    )
   ) (
    Y1 x0 f1 t14.1 t14.2.1
   )
  )
 ) (
  (Q0 x0 f1.2.1).bind fun t14 =>
  Z9 (
   Qf 1 (
    Y1 x0 f1 t14.1 t14.2.1
   )
  ) (
   Y1 x0 f1 t14.1 t14.2.1
  )
 )
abbrev Z2l : List PE := [.box 4 62 (Zq) (.u true), .box 6 62 (Zq) (.u false), .box 7 148 (Wz) (.u true), .val 9 (.int .i64) (.u false)]
def Zhg (t4 : Zi) (x6 : Zi) (p7 : Xn) (i9 : Int) : Nat := ((p7.2.1.length : Int) - i9).toNat + 1
def Zea : Nat → Zi → Zi → Xn → Int → Option ((Zi × Bool × Unit) × (Unit))
 | 0, _, _, _, _ => none
 | N + 1, t4, x6, p7, i9 =>
  bif decide (i9 < (p7.2.1.length : Int)) then
   Zb (0 ≤ i9 ∧ i9 < p7.2.1.length) <|
   (Zs8 x6 (p7.2.1.getD i9.toNat Qg)).bind fun t40 =>
   Zea N t4 t40.2.1 p7 (IntKind.i64.wrap (i9 + 1))
  else
   some ((x6, (true, ())), ())
def Znq (c0 : Zi) (number1 : Int) : Option ((Zi × Bool × Unit) × (Unit)) :=
 (Z8 c0).bind fun t11 =>
 (Zlb c0 number1).bind fun t15 =>
 (Kd c0).bind fun t19 =>
 bif (!t19.1) || (!t15.2.1) then
  some ((t11.1, (false, ())), ())
 else
  (Zn1 t11.1 number1).bind fun t27 =>
  Zea (Zhg Zbs t27.2.1 t15.1 (0 : Int)) Zbs t27.2.1 t15.1 (0 : Int)
abbrev Z99 : List PE := [.box 0 110 (Xg) (.u false), .box 3 62 (Zq) (.u false), .box 4 62 (Zq) (.u true), .box 6 62 (Zq) (.u false), .val 27 (.int .i64) (.u false), .val 91 (.bool) (.u false)]
def Zid (c0_3 : Zw) (x3_2 : Zi) (t4_2 : Zi) (y6_1 : Zi) (t27_2 : Int) (t91 : Bool) : Option ((Zi × Unit) × (Zw × Unit)) :=
 bif t91 then
  (Zv c0_3 (20 : Int)).bind fun t97 =>
  (Zlq x3_2 (IntKind.i64.wrap ((8 : Int) + t97.1.1))).bind fun t99 =>
  Qf 2 (
   Qf 1 (
    some ((t99.1.2.2.1, ()), (t97.2.1, ()))
   )
  )
 else
  bif t27_2 == 8 then
   (Zhv c0_3).bind fun t106 =>
   (Zkd x3_2 t106.1.1).bind fun t110 =>
   bif t110.1.2.1 == 0 then
    some ((t110.1.1, ()), (t106.2.1, ()))
   else
    some ((y6_1, ()), (t106.2.1, ()))
  else
   bif t27_2 == 9 then
    bif decide ((x3_2.2.2.2.2.2.2.2.2.2.2.2.2.2.2.2.1.length : Int) > (0 : Int)) then
     (Zv c0_3 (x3_2.2.2.2.2.2.2.2.2.2.2.2.2.2.2.2.1.length : Int)).bind fun t128 =>
     Zb (0 ≤ t128.1.1 ∧ t128.1.1 < x3_2.2.2.2.2.2.2.2.2.2.2.2.2.2.2.2.1.length) <|
     (Yr t128.2.1 (3 : Int)).bind fun t133 =>
     bif t133.1.1 then
      (Zly x3_2 (x3_2.2.2.2.2.2.2.2.2.2.2.2.2.2.2.2.1.getD t128.1.1.toNat Jz).1).bind fun t137 =>
      some ((t137.1.1, ()), (t133.2.1, ()))
     else
      (Znq x3_2 (x3_2.2.2.2.2.2.2.2.2.2.2.2.2.2.2.2.1.getD t128.1.1.toNat Jz).1).bind fun t143 =>
      some ((t143.1.1, ()), (t133.2.1, ()))
    else
     some ((y6_1, ()), (c0_3, ()))
   else
    some ((y6_1, ()), (c0_3, ()))
abbrev Z98 : List PE := [.box 0 110 (Xg) (.u false), .box 3 62 (Zq) (.u false), .box 4 62 (Zq) (.u true), .val 5 (.int .i64) (.u false), .box 6 62 (Zq) (.u false), .val 27 (.int .i64) (.u false), .val 38 (.bool) (.u false)]
def Zic (c0_2 : Zw) (x3_1 : Zi) (t4_1 : Zi) (id5_1 : Int) (y6 : Zi) (t27_1 : Int) (t38 : Bool) : Option ((Zi × Unit) × (Zw × Unit)) :=
 bif t38 then
  (Zex c0_2 (8 : Int)).bind fun t45 =>
  (Zkk x3_1 id5_1 t45.1.1).bind fun t46 =>
  Qf 1 (
   some ((t46.2.1, ()), (t45.2.1, ()))
  )
 else
  bif t27_1 == 3 then
   (Yr c0_2 (2 : Int)).bind fun t52 =>
   bif t52.1.1 then
    (Zi4 x3_1 id5_1).bind fun t56 =>
    some ((t56.1, ()), (t52.2.1, ()))
   else
    some ((y6, ()), (t52.2.1, ()))
  else
   bif t27_1 == 4 then
    (Zv c0_2 (6 : Int)).bind fun t65 =>
    (Zl3 x3_1 id5_1 t65.1.1).bind fun t66 =>
    Qf 2 (
     Qf 1 (
      some ((t66.1.2.2.1, ()), (t65.2.1, ()))
     )
    )
   else
    bif t27_1 == 5 then
     (Yr c0_2 (3 : Int)).bind fun t73 =>
     bif t73.1.1 then
      (Zv t73.2.1 (3 : Int)).bind fun t78 =>
      (Zki x3_1 id5_1 t78.1.1).bind fun t79 =>
      Z9 (
       Qf 1 (
        some ((t79.1.1, ()), (t78.2.1, ()))
       )
      ) (
       some ((t79.1.1, ()), (t78.2.1, ()))
      )
     else
      (Zj2 t73.2.1 ([([117, 61, 49] : List UInt8), ([105] : List UInt8), ([117, 61, 53, 44, 32, 105] : List UInt8)])).bind fun t87 =>
      (Zkj x3_1 id5_1 t87.1.1).bind fun t88 =>
      Z9 (
       Qf 1 (
        some ((t88.1, ()), (t87.2.1, ()))
       )
      ) (
       some ((t88.1, ()), (t87.2.1, ()))
      )
    else
     bif t27_1 == 6 then
      Zid c0_2 x3_1 t4_1 y6 t27_1 (t27_1 == 6)
     else
      Zid c0_2 x3_1 t4_1 y6 t27_1 (t27_1 == 7)
abbrev Z97 : List PE := [.box 0 110 (Xg) (.u false), .box 3 62 (Zq) (.u false), .box 4 62 (Zq) (.u true), .val 5 (.int .i64) (.u false)]
def Zib (c0_1 : Zw) (x3 : Zi) (t4 : Zi) (id5 : Int) : Option ((Zi × Unit) × (Zw × Unit)) :=
 (Zv c0_1 (10 : Int)).bind fun t27 =>
 bif t27.1.1 == 0 then
  (Yr t27.2.1 (2 : Int)).bind fun t33 =>
  (Zl1 x3 t33.1.1).bind fun t34 =>
  Z9 (
   Z9 (
    Qf 1 (
     some ((t34.2.1, ()), (t33.2.1, ()))
    )
   ) (
    some ((t34.2.1, ()), (t33.2.1, ()))
   )
  ) (
  Z9 (
   Z9 (
    Qf 1 (
     some ((t34.2.1, ()), (t33.2.1, ()))
    )
   ) (
    some ((t34.2.1, ()), (t33.2.1, ()))
   )
  ) (
   Qf 1 (
    some ((t34.2.1, ()), (t33.2.1, ()))
   )
  )
  )
 else
  bif t27.1.1 == 1 then
   Zic t27.2.1 x3 t4 id5 x3 t27.1.1 (t27.1.1 == 1)
  else
   Zic t27.2.1 x3 t4 id5 x3 t27.1.1 (t27.1.1 == 2)
def Zra (c0 : Zw) (x1 : Zi) : Option ((Zi × Unit) × (Zw × Unit)) :=
 bif decide ((x1.2.2.2.1.length : Int) > (0 : Int)) then
  (Zv c0 (x1.2.2.2.1.length : Int)).bind fun t21 =>
  Zb (0 ≤ t21.1.1 ∧ t21.1.1 < x1.2.2.2.1.length) <|
  Zib t21.2.1 x1 Zbs (x1.2.2.2.1.getD t21.1.1.toNat Q7).1
 else
  Zib c0 x1 Zbs (0 : Int)
abbrev Z92 : List PE := [.box 0 110 (Xg) (.u false), .box 2 62 (Zq) (.u true), .box 3 62 (Zq) (.u false), .val 5 (.int .i64) (.u false)]
def Zj5 (c0_1 : Zw) (t2 : Zi) (x3 : Zi) (n5 : Int) : Nat := (n5 - 0).toNat + 1
def Zh8 : Nat → Zw → Zi → Zi → Int → Option ((Zi × Unit) × (Zw × Unit))
 | 0, _, _, _, _ => none
 | N + 1, c0_1, t2, x3, n5 =>
  bif decide (n5 > (0 : Int)) then
   (Zra c0_1 x3).bind fun t25 =>
   Zh8 N t25.2.1 t2 t25.1.1 (IntKind.i64.wrap (n5 - 1))
  else
   some ((x3, ()), (c0_1, ()))
def Zq7 (c0 : Zw) : Option ((Zi × Unit) × (Zw × Unit)) :=
 (Yr c0 (2 : Int)).bind fun t8 =>
 (Zer t8.2.1).bind fun t10 =>
 (Zer t10.2.1).bind fun t12 =>
 (Zq0 t8.1.1 t10.1.1 t12.1.1).bind fun t13 =>
 (Zv t12.2.1 (12 : Int)).bind fun t17 =>
 Zh8 (Zj5 t17.2.1 Zbs t13.1 (IntKind.i64.wrap ((2 : Int) + t17.1.1))) t17.2.1 Zbs t13.1 (IntKind.i64.wrap ((2 : Int) + t17.1.1))
def Zs7 (c0 : Zw) : Option ((Zi × Unit) × (Zw × Unit)) :=
 (Zq7 c0).bind fun t5 =>
 (Zv t5.2.1 (20 : Int)).bind fun t7 =>
 bif t7.1.1 == 0 then
  (Xf t7.2.1 ([(-1 : Int), (3 : Int), (7 : Int), (256 : Int)])).bind fun t12 =>
  some (((t5.1.1.1, (t5.1.1.2.1, (t5.1.1.2.2.1, (t5.1.1.2.2.2.1, (t5.1.1.2.2.2.2.1, (t5.1.1.2.2.2.2.2.1, (t5.1.1.2.2.2.2.2.2.1, (t5.1.1.2.2.2.2.2.2.2.1, (t5.1.1.2.2.2.2.2.2.2.2.1, (t5.1.1.2.2.2.2.2.2.2.2.2.1, (t5.1.1.2.2.2.2.2.2.2.2.2.2.1, (t5.1.1.2.2.2.2.2.2.2.2.2.2.2.1, (t5.1.1.2.2.2.2.2.2.2.2.2.2.2.2.1, (t5.1.1.2.2.2.2.2.2.2.2.2.2.2.2.2.1, (t5.1.1.2.2.2.2.2.2.2.2.2.2.2.2.2.2.1, (t5.1.1.2.2.2.2.2.2.2.2.2.2.2.2.2.2.2.1, (t5.1.1.2.2.2.2.2.2.2.2.2.2.2.2.2.2.2.2.1, (t12.1.1, t5.1.1.2.2.2.2.2.2.2.2.2.2.2.2.2.2.2.2.2.2)))))))))))))))))), ()), (t12.2.1, ()))
 else
  bif t7.1.1 == 1 then
   (Xf t7.2.1 ([(-1 : Int), (1000000 : Int), (1000001 : Int)])).bind fun t18 =>
   some (((t5.1.1.1, (t5.1.1.2.1, (t5.1.1.2.2.1, (t5.1.1.2.2.2.1, (t5.1.1.2.2.2.2.1, (t5.1.1.2.2.2.2.2.1, (t5.1.1.2.2.2.2.2.2.1, (t5.1.1.2.2.2.2.2.2.2.1, (t5.1.1.2.2.2.2.2.2.2.2.1, (t5.1.1.2.2.2.2.2.2.2.2.2.1, (t5.1.1.2.2.2.2.2.2.2.2.2.2.1, (t5.1.1.2.2.2.2.2.2.2.2.2.2.2.1, (t5.1.1.2.2.2.2.2.2.2.2.2.2.2.2.1, (t5.1.1.2.2.2.2.2.2.2.2.2.2.2.2.2.1, (t5.1.1.2.2.2.2.2.2.2.2.2.2.2.2.2.2.1, (t5.1.1.2.2.2.2.2.2.2.2.2.2.2.2.2.2.2.1, (t18.1.1, t5.1.1.2.2.2.2.2.2.2.2.2.2.2.2.2.2.2.2.2))))))))))))))))), ()), (t18.2.1, ()))
  else
   bif t7.1.1 == 2 then
    (Xf t7.2.1 ([(-1 : Int), (0 : Int)])).bind fun t24 =>
    some (((t5.1.1.1, (t5.1.1.2.1, (t5.1.1.2.2.1, (t5.1.1.2.2.2.1, ((t5.1.1.2.2.2.2.1.1, (t24.1.1, t5.1.1.2.2.2.2.1.2.2)), t5.1.1.2.2.2.2.2))))), ()), (t24.2.1, ()))
   else
    bif t7.1.1 == 3 then
     (Xf t7.2.1 ([(0 : Int), (1000000 : Int), (1000001 : Int)])).bind fun t31 =>
     some (((t5.1.1.1, (t5.1.1.2.1, (t5.1.1.2.2.1, (t5.1.1.2.2.2.1, (t5.1.1.2.2.2.2.1, (t5.1.1.2.2.2.2.2.1, (t5.1.1.2.2.2.2.2.2.1, (t5.1.1.2.2.2.2.2.2.2.1, (t5.1.1.2.2.2.2.2.2.2.2.1, (t5.1.1.2.2.2.2.2.2.2.2.2.1, (t5.1.1.2.2.2.2.2.2.2.2.2.2.1, (t5.1.1.2.2.2.2.2.2.2.2.2.2.2.1, (t5.1.1.2.2.2.2.2.2.2.2.2.2.2.2.1, (t5.1.1.2.2.2.2.2.2.2.2.2.2.2.2.2.1, (t31.1.1, t5.1.1.2.2.2.2.2.2.2.2.2.2.2.2.2.2.2))))))))))))))), ()), (t31.2.1, ()))
    else
     some ((t5.1.1, ()), (t7.2.1, ()))
def Zfb (code0 : List Int) : Option ((Zi × Unit) × (Unit)) :=
 (Ze4 code0).bind fun t4 =>
 (Zs7 t4.1).bind fun t5 =>
 some ((t5.1.1, ()), ())
abbrev Z0z : List PE := [.box 0 110 (Xg) (.u false), .val 3 (.slice 107 (Zbb)) (.u true), .val 4 (.int .i64) (.u false)]
def Zgy (c0_1 : Zw) (l3 : List Q2) (n4 : Int) : Nat := (n4 - 0).toNat + 1
def Zdd : Nat → Zw → List Q2 → Int → Option ((List Q2 × Unit) × (Zw × Unit))
 | 0, _, _, _ => none
 | N + 1, c0_1, l3, n4 =>
  bif decide (n4 > (0 : Int)) then
   (Zv c0_1 (6 : Int)).bind fun t14 =>
   (Zex t14.2.1 (3 : Int)).bind fun t18 =>
   Zb (([97] : List UInt8).length + t18.1.1.length ≤ Z5) <|
   let t21 : List Q2 := [(t14.1.1, (([97] : List UInt8) ++ t18.1.1, ()))]
   Zb (l3.length + t21.length ≤ Qp) <|
   Zdd N t18.2.1 (l3 ++ t21) (IntKind.i64.wrap (n4 - 1))
  else
   (Yr c0_1 (14 : Int)).bind fun t24 =>
   bif t24.1.1 then
    (Xf t24.2.1 ([(-1 : Int), (1000000 : Int)])).bind fun t28 =>
    let t30 : List Q2 := [(t28.1.1, (([] : List UInt8), ()))]
    Zb (l3.length + t30.length ≤ Qp) <|
    some ((l3 ++ t30, ()), (t28.2.1, ()))
   else
    some ((l3, ()), (t24.2.1, ()))
def Zqe (c0 : Zw) : Option ((List Q2 × Unit) × (Zw × Unit)) :=
 (Zv c0 (5 : Int)).bind fun t8 =>
 Zdd (Zgy t8.2.1 ([] : List Q2) t8.1.1) t8.2.1 ([] : List Q2) t8.1.1
def Zby (code0 : List Int) : Option (List Q2 × Unit) :=
 (Ze4 code0).bind fun t4 =>
 (Zqe t4.1).bind fun t5 =>
 some (t5.1.1, ())
def Zjf (s0 : List UInt8) : Option (List UInt8 × Unit) :=
 (Zuc (!(s0 == ([] : List UInt8))) s0 ([110, 111, 110, 101] : List UInt8)).bind fun t6 =>
 some (t6.1, ())
abbrev Zvt : List PE := [.val 3 (.slice 9 (.str)) (.u true), .val 7 (.slice 25 (Zr)) (.u false), .val 8 (.int .i64) (.u false), .val 9 (.int .i64) (.u false)]
def Zdv (out3 : List (List UInt8)) (t7 : List Zg) (t8_1 : Int) (t9 : Int) : Nat := (t8_1 - t9).toNat + 1
def J9 : Nat → List (List UInt8) → List Zg → Int → Int → Option (List UInt8 × Unit)
 | 0, _, _, _, _ => none
 | N + 1, out3, t7, t8_1, t9 =>
  bif decide (t9 < t8_1) then
   Zb (0 ≤ t9 ∧ t9 < t7.length) <|
   (J8 (t7.getD t9.toNat Qg)).bind fun t15 =>
   Zb (out3.length + ([t15.1]).length ≤ Qp) <|
   J9 N (out3 ++ ([t15.1])) t7 t8_1 (IntKind.i64.wrap (t9 + 1))
  else
   (Vy out3 ([59, 32] : List UInt8)).bind fun t20 =>
   (Zjf t20.1).bind fun t21 =>
   some (t21.1, ())
def Zi1 (l0 : List Zg) : Option (List UInt8 × Unit) :=
 J9 (Zdv ([] : List (List UInt8)) l0 (l0.length : Int) (0 : Int)) ([] : List (List UInt8)) l0 (l0.length : Int) (0 : Int)
abbrev Zwq : List PE := [.val 0 (.slice 25 (Zr)) (.u false), .val 3 (.str) (.u false), .val 4 (.int .i64) (.u false)]
def Zeg (K1 : (List Zg × List UInt8 × Int × Unit) → Option (List UInt8 × Unit)) (l0_2 : List Zg) (s3_2 : List UInt8) (i4_1 : Int) : Option (List UInt8 × Unit) :=
 Zb (0 ≤ i4_1 ∧ i4_1 < l0_2.length) <|
 (Xr (l0_2.getD i4_1.toNat Qg)).bind fun t20 =>
 Zb (s3_2.length + t20.1.length ≤ Z5) <|
 K1 (l0_2, s3_2 ++ t20.1, IntKind.i64.wrap (i4_1 + 1), ())
abbrev Zwr : List PE := [.val 0 (.slice 25 (Zr)) (.u false), .val 3 (.str) (.u false), .val 4 (.int .i64) (.u false)]
def Zdw (l0_1 : List Zg) (s3_1 : List UInt8) (i4 : Int) : Nat := ((l0_1.length : Int) - i4).toNat + 1
def Yc : Nat → List Zg → List UInt8 → Int → Option (List UInt8 × Unit)
 | 0, _, _, _ => none
 | N + 1, l0_1, s3_1, i4 =>
  bif decide (i4 < (l0_1.length : Int)) then
   bif decide (i4 > (0 : Int)) then
    Zb (s3_1.length + ([59, 32] : List UInt8).length ≤ Z5) <|
    Zeg (fun v => Yc N v.1 v.2.1 v.2.2.1) l0_1 (s3_1 ++ ([59, 32] : List UInt8)) i4
   else
    Zeg (fun v => Yc N v.1 v.2.1 v.2.2.1) l0_1 s3_1 i4
  else
   bif s3_1 == ([] : List UInt8) then
    some (([110, 111, 110, 101] : List UInt8), ())
   else
    some (s3_1, ())
def Zi5 (l0 : List Zg) : Option (List UInt8 × Unit) :=
 Yc (Zdw l0 ([] : List UInt8) (0 : Int)) l0 ([] : List UInt8) (0 : Int)
def Zhx (size0 : Int) : Option (Bool × Unit) :=
 (Z3 size0 (1 : Int) (64 : Int)).bind fun t4 =>
 some (t4.1 && ((bits .and .i64 size0 (IntKind.i64.wrap (size0 - 1))) == 0), ())
def Ztk (n0 : Int) : Option (Bool × Unit) :=
 (Z3 n0 (0 : Int) (255 : Int)).bind fun t4 =>
 some (!t4.1, ())
abbrev Zg7 : List PE := [.val 0 (.slice 3 (.int .i64)) (.u false), .val 1 (.fnc 206) (.u false), .val 7 (.int .i64) (.u false), .val 8 (.int .i64) (.u false)]
def Xb (s0_1 : List Int) (f1 : Unit) (t7_1 : Int) (t8 : Int) : Nat := (t7_1 - t8).toNat + 1
def Q3 : Nat → List Int → Unit → Int → Int → Option (Int × Unit)
 | 0, _, _, _, _ => none
 | N + 1, s0_1, f1, t7_1, t8 =>
  bif decide (t8 < t7_1) then
   Zb (0 ≤ t8 ∧ t8 < s0_1.length) <|
   (Ztk (s0_1.getD t8.toNat (0 : Int))).bind fun t16 =>
   bif t16.1 then
    some (t8, ())
   else
    Q3 N s0_1 () t7_1 (IntKind.i64.wrap (t8 + 1))
  else
   some ((-1 : Int), ())
def Km (s0 : List Int) : Option (Int × Unit) :=
 Q3 (Xb s0 () (s0.length : Int) (0 : Int)) s0 () (s0.length : Int) (0 : Int)
def Yz (s0 : List Int) : Option (Bool × Unit) :=
 (Km s0).bind fun t7 =>
 some (decide (t7.1 ≥ (0 : Int)), ())
def Zsj (r0 : Kg) : Option (Bool × Unit) :=
 (Zhx r0.1).bind fun t5 =>
 let t14 : Bool := (!t5.1) || ((r0.2.2.2.1.length : Int) != r0.1)
 (bif t14 then some (false, ()) else (Yz r0.2.2.2.1)).bind fun t18 =>
 bif t14 || t18.1 then
  some (false, ())
 else
  (Ye r0.2.1).bind fun t22 =>
  (bif t22.1 then (Z3 r0.2.2.1 r0.2.1 (min (IntKind.i64.wrap (r0.2.1 + r0.1)) (4611686018427387903 : Int))) else some (false, ())).bind fun t34 =>
  some (t22.1 && t34.1, ())
def Zqu (r0 : Ze) : Option (Bool × Unit) :=
 some (((decide (r0.1 ≥ (0 : Int))) && (decide (r0.1 < r0.2.1))) && (decide (r0.2.1 ≤ (4611686018427387903 : Int))), ())
abbrev Z4r : List PE := [.val 0 (.slice 135 (Zt)) (.u false), .val 5 (.slice 135 (Zt)) (.u false), .val 6 (.int .i64) (.u false), .val 7 (.int .i64) (.u false)]
def Zio (l0_1 : List Ze) (t5 : List Ze) (t6_1 : Int) (t7 : Int) : Nat := (t6_1 - t7).toNat + 1
def Zfr : Nat → List Ze → List Ze → Int → Int → Option (Bool × Unit)
 | 0, _, _, _, _ => none
 | N + 1, l0_1, t5, t6_1, t7 =>
  bif decide (t7 < t6_1) then
   Zb (0 ≤ t7 ∧ t7 < t5.length) <|
   (Zqu (t5.getD t7.toNat Zu)).bind fun t13 =>
   Zb (((!t13.1) = false → ((decide (t7 > (0 : Int))) = true → (0 ≤ (IntKind.i64.wrap (t7 - 1)) ∧ (IntKind.i64.wrap (t7 - 1)) < l0_1.length)))) <|
   bif (!t13.1) || ((decide (t7 > (0 : Int))) && (decide ((t5.getD t7.toNat Zu).1 ≤ (l0_1.getD (IntKind.i64.wrap (t7 - 1)).toNat Zu).2.1))) then
    some (false, ())
   else
    Zfr N l0_1 t5 t6_1 (IntKind.i64.wrap (t7 + 1))
  else
   some (true, ())
def Zab (l0 : List Ze) : Option (Bool × Unit) :=
 Zfr (Zio l0 l0 (l0.length : Int) (0 : Int)) l0 l0 (l0.length : Int) (0 : Int)
abbrev Zvr : List PE := [.val 3 (.int .i64) (.u false), .val 9 (.slice 135 (Zt)) (.u false), .val 10 (.int .i64) (.u false), .val 11 (.int .i64) (.u false)]
def Zdu (count3 : Int) (t9 : List Ze) (t10_1 : Int) (t11 : Int) : Nat := (t10_1 - t11).toNat + 1
def Zai : Nat → Int → List Ze → Int → Int → Option (Int × Unit)
 | 0, _, _, _, _ => none
 | N + 1, count3, t9, t10_1, t11 =>
  bif decide (t11 < t10_1) then
   Zb (0 ≤ t11 ∧ t11 < t9.length) <|
   Zai N (IntKind.i64.wrap (count3 + (IntKind.i64.wrap ((t9.getD t11.toNat Zu).2.1 - (t9.getD t11.toNat Zu).1)))) t9 t10_1 (IntKind.i64.wrap (t11 + 1))
  else
   some (count3, ())
def Jd (l0 : List Ze) : Option (Int × Unit) :=
 (Zab l0).bind fun t7 =>
 bif !t7.1 then
  some ((-1 : Int), ())
 else
  Zai (Zdu (0 : Int) l0 (l0.length : Int) (0 : Int)) (0 : Int) l0 (l0.length : Int) (0 : Int)
def Zdz (l0 : List Ze) : Option (List Ze × Unit) :=
 Zb (([] : List Ze).length + l0.length ≤ Qp) <|
 some (([] : List Ze) ++ l0, ())
abbrev Z4n : List PE := [.box 3 135 (Zt) (.u false), .val 5 (.slice 135 (Zt)) (.u true), .val 6 (.bool) (.u false), .box 8 135 (Zt) (.u false), .val 20 (.slice 135 (Zt)) (.u false), .val 21 (.int .i64) (.u false), .val 22 (.int .i64) (.u false)]
def Zfo (K1 : (Ze × List Ze × Bool × List Ze × Int × Int × Unit) → Option (List Ze × Unit)) (r3_1 : Ze) (out5_1 : List Ze) (placed6_1 : Bool) (x8 : Ze) (t20_1 : List Ze) (t21_2 : Int) (t22_1 : Int) : Option (List Ze × Unit) :=
 Zb (out5_1.length + ([x8]).length ≤ Qp) <|
 K1 (r3_1, out5_1 ++ ([x8]), placed6_1, t20_1, t21_2, IntKind.i64.wrap (t22_1 + 1), ())
abbrev Z4o : List PE := [.box 3 135 (Zt) (.u false), .val 5 (.slice 135 (Zt)) (.u true), .val 6 (.bool) (.u false), .val 20 (.slice 135 (Zt)) (.u false), .val 21 (.int .i64) (.u false), .val 22 (.int .i64) (.u false)]
def Zdf (r3 : Ze) (out5 : List Ze) (placed6 : Bool) (t20 : List Ze) (t21_1 : Int) (t22 : Int) : Nat := (t21_1 - t22).toNat + 1
def X7 : Nat → Ze → List Ze → Bool → List Ze → Int → Int → Option (List Ze × Unit)
 | 0, _, _, _, _, _, _ => none
 | N + 1, r3, out5, placed6, t20, t21_1, t22 =>
  bif decide (t22 < t21_1) then
   Zb (0 ≤ t22 ∧ t22 < t20.length) <|
   bif decide ((t20.getD t22.toNat Zu).2.1 < r3.1) then
    Zb (out5.length + ([(t20.getD t22.toNat Zu)]).length ≤ Qp) <|
    X7 N r3 (out5 ++ ([(t20.getD t22.toNat Zu)])) placed6 t20 t21_1 (IntKind.i64.wrap (t22 + 1))
   else
    bif decide ((t20.getD t22.toNat Zu).1 > r3.2.1) then
     bif !placed6 then
      Zb (out5.length + ([r3]).length ≤ Qp) <|
      Zfo (fun v => X7 N v.1 v.2.1 v.2.2.1 v.2.2.2.1 v.2.2.2.2.1 v.2.2.2.2.2.1) r3 (out5 ++ ([r3])) true (t20.getD t22.toNat Zu) t20 t21_1 t22
     else
      Zfo (fun v => X7 N v.1 v.2.1 v.2.2.1 v.2.2.2.1 v.2.2.2.2.1 v.2.2.2.2.2.1) r3 out5 placed6 (t20.getD t22.toNat Zu) t20 t21_1 t22
    else
     X7 N (min r3.1 (t20.getD t22.toNat Zu).1, (max r3.2.1 (t20.getD t22.toNat Zu).2.1, ())) out5 placed6 t20 t21_1 (IntKind.i64.wrap (t22 + 1))
  else
   bif !placed6 then
    Zb (out5.length + ([r3]).length ≤ Qp) <|
    some (out5 ++ ([r3]), ())
   else
    some (out5, ())
def Zor (l0 : List Ze) (r1 : Ze) : Option (List Ze × Unit) :=
 (Zab l0).bind fun t10 =>
 (bif (!t10.1) then some (false, ()) else (Zqu r1)).bind fun t14 =>
 bif (!t10.1) || (!t14.1) then
  (Zdz l0).bind fun t18 =>
  some (t18.1, ())
 else
  X7 (Zdf r1 ([] : List Ze) false l0 (l0.length : Int) (0 : Int)) r1 ([] : List Ze) false l0 (l0.length : Int) (0 : Int)
def Zbd (l0 : List Ze) (place1 : Int) : Option (Bool × Unit) :=
 let t12 : Int := IntKind.i64.wrap ((l0.length : Int) - (1 : Int))
 Zb (((decide ((l0.length : Int) > (0 : Int))) = true → (0 ≤ t12 ∧ t12 < l0.length))) <|
 some ((decide ((l0.length : Int) > (0 : Int))) && (decide ((l0.getD t12.toNat Zu).2.1 > place1)), ())
abbrev Z4t : List PE := [.val 3 (.int .i64) (.u false), .val 9 (.slice 135 (Zt)) (.u true), .val 27 (.slice 135 (Zt)) (.u true), .val 28 (.int .i64) (.u false), .val 29 (.int .i64) (.u false)]
def Zdh (end3_1 : Int) (all9 : List Ze) (t27_1 : List Ze) (t28_1 : Int) (t29 : Int) : Nat := (t28_1 - t29).toNat + 1
def Zfu : Nat → Int → List Ze → List Ze → Int → Int → Option (Bool × Unit)
 | 0, _, _, _, _, _ => none
 | N + 1, end3_1, all9, t27_1, t28_1, t29 =>
  bif decide (t29 < t28_1) then
   Zb (0 ≤ t29 ∧ t29 < t27_1.length) <|
   (Zor all9 (t27_1.getD t29.toNat Zu)).bind fun t35 =>
   Zfu N end3_1 t35.1 t27_1 t28_1 (IntKind.i64.wrap (t29 + 1))
  else
   (Jd all9).bind fun t38 =>
   (bif (t38.1 == end3_1) then (Zbd all9 end3_1) else some (false, ())).bind fun t44 =>
   some ((t38.1 == end3_1) && (!t44.1), ())
def Zow (a0 : List Ze) (b1 : List Ze) (c2 : List Ze) (end3 : Int) : Option (Bool × Unit) :=
 (Jd a0).bind fun t13 =>
 (Jd b1).bind fun t15 =>
 (Jd c2).bind fun t18 =>
 bif (IntKind.i64.wrap ((IntKind.i64.wrap (t13.1 + t15.1)) + t18.1)) != end3 then
  some (false, ())
 else
  (Zdz a0).bind fun t23 =>
  (Zdz b1).bind fun t25 =>
  Zb (t25.1.length + c2.length ≤ Qp) <|
  Zfu (Zdh end3 t23.1 (t25.1 ++ c2) ((t25.1 ++ c2).length : Int) (0 : Int)) end3 t23.1 (t25.1 ++ c2) ((t25.1 ++ c2).length : Int) (0 : Int)
abbrev Z4p : List PE := [.val 1 (.int .i64) (.u false), .val 14 (.slice 135 (Zt)) (.u false), .val 15 (.int .i64) (.u false), .val 16 (.int .i64) (.u false)]
def Zin (from1_1 : Int) (t14 : List Ze) (t15_1 : Int) (t16 : Int) : Nat := (t15_1 - t16).toNat + 1
def Zb6 : Nat → Int → List Ze → Int → Int → Option (Int × Unit)
 | 0, _, _, _, _ => none
 | N + 1, from1_1, t14, t15_1, t16 =>
  bif decide (t16 < t15_1) then
   Zb (0 ≤ t16 ∧ t16 < t14.length) <|
   bif (decide ((t14.getD t16.toNat Zu).1 ≤ from1_1)) && (decide (from1_1 < (t14.getD t16.toNat Zu).2.1)) then
    Zb6 N (t14.getD t16.toNat Zu).2.1 t14 t15_1 (IntKind.i64.wrap (t16 + 1))
   else
    Zb6 N from1_1 t14 t15_1 (IntKind.i64.wrap (t16 + 1))
  else
   some (from1_1, ())
def Zos (l0 : List Ze) (from1 : Int) : Option (Int × Unit) :=
 (Zab l0).bind fun t8 =>
 bif (!t8.1) || (decide (from1 < (0 : Int))) then
  some ((-1 : Int), ())
 else
  Zb6 (Zin from1 l0 (l0.length : Int) (0 : Int)) from1 l0 (l0.length : Int) (0 : Int)
def Zm8 (s0 : Zm) : Option (Int × Unit) :=
 bif (s0.2.2.2.2.2.2.1 == 3) && (s0.2.1.2.1 == s0.2.1.2.2.1) then
  some ((3 : Int), ())
 else
  bif ((s0.2.2.2.2.2.2.1 == 2) || (s0.2.2.2.2.2.2.1 == 3)) || ((s0.2.2.2.2.2.2.1 == 1) && (s0.1 == 2)) then
   some ((2 : Int), ())
  else
   bif (decide (s0.2.2.2.2.2.2.2.1 > (0 : Int))) || ((s0.2.2.2.2.2.2.1 == 1) && (s0.1 == 1)) then
    some ((1 : Int), ())
   else
    some ((0 : Int), ())
abbrev Z4s : List PE := [.box 1 38 (Zy) (.u false), .val 4 (.int .i64) (.u false)]
def Zfs (s1 : Zm) (final4 : Int) : Option (Bool × Unit) :=
 (Zow s1.2.2.1 s1.2.2.2.1 s1.2.2.2.2.1 s1.2.1.2.2.1).bind fun t117 =>
 (bif t117.1 then (Zos s1.2.2.2.2.1 (0 : Int)) else some ((0 : Int), ())).bind fun t121 =>
 (bif (t117.1 && (t121.1 == s1.2.1.2.1)) then (Zbd s1.2.2.2.1 s1.2.2.2.2.2.2.2.1) else some (false, ())).bind fun t132 =>
 let t134 : Bool := (t117.1 && (t121.1 == s1.2.1.2.1)) && (!t132.1)
 (bif t134 then (Zbd s1.2.2.2.2.1 s1.2.2.2.2.2.2.2.1) else some (false, ())).bind fun t140 =>
 let t153 : Bool := ((t134 && (!t140.1)) && (s1.2.2.2.2.2.2.2.2.1 == 0)) && (s1.2.2.2.2.2.1 == final4)
 (bif t153 then (Zm8 s1) else some ((0 : Int), ())).bind fun t158 =>
 some (t153 && (s1.1 == t158.1), ())
def Zot (s0 : Zm) : Option (Bool × Unit) :=
 (Zsj s0.2.1).bind fun t7 =>
 (bif (!t7.1) then some (false, ()) else (Zab s0.2.2.1)).bind fun t12 =>
 (bif ((!t7.1) || (!t12.1)) then some (false, ()) else (Zab s0.2.2.2.1)).bind fun t18 =>
 let t20 : Bool := ((!t7.1) || (!t12.1)) || (!t18.1)
 (bif t20 then some (false, ()) else (Zab s0.2.2.2.2.1)).bind fun t24 =>
 (bif (t20 || (!t24.1)) then some (false, ()) else (Z3 s0.2.2.2.2.2.2.2.1 (0 : Int) s0.2.1.2.2.1)).bind fun t33 =>
 let t35 : Bool := (t20 || (!t24.1)) || (!t33.1)
 (bif t35 then some (false, ()) else (Ye s0.2.2.2.2.2.2.2.2.1)).bind fun t39 =>
 (bif (t35 || (!t39.1)) then some (false, ()) else (Z3 s0.2.2.2.2.2.2.1 (0 : Int) (3 : Int))).bind fun t45 =>
 bif (t35 || (!t39.1)) || (!t45.1) then
  some (false, ())
 else
  bif (s0.1 == 4) || (s0.1 == 5) then
   some ((((((((s0.2.2.1.length : Int) == (0 : Int)) && ((s0.2.2.2.1.length : Int) == (0 : Int))) && ((s0.2.2.2.2.1.length : Int) == (0 : Int))) && (s0.2.1.2.1 == s0.2.1.2.2.1)) && (s0.2.2.2.2.2.1 == s0.2.2.2.2.2.2.2.1)) && (s0.2.2.2.2.2.2.2.1 == s0.2.1.2.2.1)) && (s0.2.2.2.2.2.2.1 == 0), ())
  else
   bif s0.2.2.2.2.2.2.1 == 0 then
    Zfs s0 (-1 : Int)
   else
    Zfs s0 s0.2.1.2.2.1
def Zk1 (c0 : Qq) : Option (Bool × Unit) :=
 (Ye c0.1).bind fun t5 =>
 (bif t5.1 then (Z3 c0.2.1 (0 : Int) c0.1) else some (false, ())).bind fun t11 =>
 (bif (t5.1 && t11.1) then (Z3 c0.2.2.1 (-1 : Int) c0.1) else some (false, ())).bind fun t18 =>
 (bif ((t5.1 && t11.1) && t18.1) then (Z3 c0.2.2.2.1 (-1 : Int) c0.1) else some (false, ())).bind fun t25 =>
 some (((t5.1 && t11.1) && t18.1) && t25.1, ())
def Zfp (c0 : Q2) : Option (Int × Unit) :=
 some (IntKind.i64.wrap (c0.1 + (c0.2.1.length : Int)), ())
abbrev Z4q : List PE := [.val 3 (.int .i64) (.u false), .val 13 (.slice 138 (Zbb)) (.u false), .val 14 (.int .i64) (.u false), .val 15 (.int .i64) (.u false)]
def Zdg (least3 : Int) (t13 : List Q2) (t14_1 : Int) (t15 : Int) : Nat := (t14_1 - t15).toNat + 1
def Zfq : Nat → Int → List Q2 → Int → Int → Option (Bool × Unit)
 | 0, _, _, _, _ => none
 | N + 1, least3, t13, t14_1, t15 =>
  bif decide (t15 < t14_1) then
   Zb (0 ≤ t15 ∧ t15 < t13.length) <|
   bif ((((t13.getD t15.toNat Qm).2.1.length : Int) == (0 : Int)) || (decide ((t13.getD t15.toNat Qm).1 < least3))) || (decide ((t13.getD t15.toNat Qm).1 > (IntKind.i64.wrap ((4611686018427387903 : Int) - ((t13.getD t15.toNat Qm).2.1.length : Int))))) then
    some (false, ())
   else
    (Zfp (t13.getD t15.toNat Qm)).bind fun t39 =>
    Zfq N (IntKind.i64.wrap (t39.1 + 1)) t13 t14_1 (IntKind.i64.wrap (t15 + 1))
  else
   some (true, ())
def Zey (b0 : Z2) : Option (Bool × Unit) :=
 (Ye b0.1).bind fun t8 =>
 bif !t8.1 then
  some (false, ())
 else
  Zfq (Zdg b0.1 b0.2.1 (b0.2.1.length : Int) (0 : Int)) b0.1 b0.2.1 (b0.2.1.length : Int) (0 : Int)
def Zvs (b0 : Z2) : Option (Int × Unit) :=
 (Zey b0).bind fun t4 =>
 bif (!t4.1) || ((b0.2.1.length : Int) == (0 : Int)) then
  some (b0.1, ())
 else
  let t19 : Int := IntKind.i64.wrap ((b0.2.1.length : Int) - (1 : Int))
  Zb (0 ≤ t19 ∧ t19 < b0.2.1.length) <|
  (Zfp (b0.2.1.getD t19.toNat Qm)).bind fun t22 =>
  some (t22.1, ())
def Zlk (b0 : Z2) : Option (Int × Unit) :=
 (Zey b0).bind fun t4 =>
 let t11 : Bool := (!t4.1) || ((b0.2.1.length : Int) == (0 : Int))
 Zb ((t11 = false → (0 ≤ (0 : Int) ∧ (0 : Int) < b0.2.1.length))) <|
 bif t11 || ((b0.2.1.getD (0 : Int).toNat Qm).1 != b0.1) then
  some ((0 : Int), ())
 else
  Zb (0 ≤ (0 : Int) ∧ (0 : Int) < b0.2.1.length) <|
  some (((b0.2.1.getD (0 : Int).toNat Qm).2.1.length : Int), ())
def Ztl (b0 : Z2) : Option (Int × Unit) :=
 (Zlk b0).bind fun t6 =>
 some (IntKind.i64.wrap (b0.1 + t6.1), ())
abbrev Zy0 : List PE := [.box 1 45 (Qt) (.u false), .val 101 (.bool) (.u false)]
def J1 (r1 : Qb) (t101 : Bool) : Option (Bool × Unit) :=
 bif t101 then
  some ((r1.2.2.1 == r1.2.2.2.1) && ((r1.2.1.2.1.length : Int) == (0 : Int)), ())
 else
  some (false, ())
def Zlj (r0 : Qb) : Option (Bool × Unit) :=
 (Zey r0.2.1).bind fun t6 =>
 (bif (!t6.1) then some ((0 : Int), ()) else (Zvs r0.2.1)).bind fun t11 =>
 let t15 : Bool := (!t6.1) || (decide (t11.1 > r0.2.2.2.1))
 (bif t15 then some (false, ()) else (Ye r0.2.2.2.1)).bind fun t19 =>
 (bif (t15 || (!t19.1)) then some (false, ()) else (Ye r0.2.2.2.2.1)).bind fun t25 =>
 let t27 : Bool := (t15 || (!t19.1)) || (!t25.1)
 (bif (r0.2.2.1 != (-1 : Int)) then (bif t27 then some (false, ()) else (Z3 r0.2.2.1 r0.2.2.2.1 (4611686018427387903 : Int))) else some (false, ())).bind fun t37 =>
 bif t27 || ((r0.2.2.1 != (-1 : Int)) && (!t37.1)) then
  some (false, ())
 else
  (bif (r0.2.2.1 != (-1 : Int)) then (Ztl r0.2.1) else some ((0 : Int), ())).bind fun t47 =>
  let t51 : Bool := (r0.2.2.1 != (-1 : Int)) && (t47.1 == r0.2.2.1)
  bif r0.1 == 0 then
   some ((r0.2.2.1 == (-1 : Int)) && (r0.2.2.2.2.1 == 0), ())
  else
   bif r0.1 == 1 then
    some (((r0.2.2.1 != (-1 : Int)) && (!t51)) && (r0.2.2.2.2.1 == 0), ())
   else
    bif r0.1 == 2 then
     some (t51 && (r0.2.2.2.2.1 == 0), ())
    else
     bif r0.1 == 3 then
      some ((t51 && (r0.2.2.2.2.1 == 0)) && ((r0.2.1.2.1.length : Int) == (0 : Int)), ())
     else
      bif r0.1 == 4 then
       J1 r0 (r0.1 == 4)
      else
       J1 r0 (r0.1 == 5)
def Zk3 (w0 : Y3) : Option (Bool × Unit) :=
 (Z3 w0.2.1 (1 : Int) (4096 : Int)).bind fun t5 =>
 (bif t5.1 then (Z3 w0.1 (1 : Int) w0.2.1) else some (false, ())).bind fun t11 =>
 (bif (t5.1 && t11.1) then (Z3 w0.2.2.1 (1 : Int) (4611686018427387903 : Int)) else some (false, ())).bind fun t16 =>
 (bif ((t5.1 && t11.1) && t16.1) then (Z3 w0.2.2.2.1 (0 : Int) w0.2.2.1) else some (false, ())).bind fun t23 =>
 let t24 : Bool := ((t5.1 && t11.1) && t16.1) && t23.1
 (bif t24 then (Z3 w0.2.2.2.2.1 (0 : Int) w0.2.2.2.1) else some (false, ())).bind fun t30 =>
 let t41 : Bool := (t24 && t30.1) && (decide (w0.2.2.1 ≤ (IntKind.i64.wrap (w0.2.2.2.2.1 + w0.1))))
 (bif t41 then (Z3 w0.2.2.2.2.2.1 (0 : Int) (1000000 : Int)) else some (false, ())).bind fun t45 =>
 some (t41 && t45.1, ())
def Zp0 (p0 : Xm) : Option (Bool × Unit) :=
 (Z3 p0.1 (0 : Int) (7 : Int)).bind fun t5 =>
 some (t5.1, ())
def Zk2 (s0 : Zo) : Option (Bool × Unit) :=
 (Ye s0.1).bind fun t6 =>
 (bif (!t6.1) then some (false, ()) else (Ye s0.2.2.2.2.2.2.2.2.2.2.2.2.1)).bind fun t11 =>
 (bif ((!t6.1) || (!t11.1)) then some (false, ()) else (Zot s0.2.1)).bind fun t17 =>
 let t19 : Bool := ((!t6.1) || (!t11.1)) || (!t17.1)
 (bif t19 then some (false, ()) else (Zk1 s0.2.2.1)).bind fun t23 =>
 (bif (t19 || (!t23.1)) then some (false, ()) else (Zlj s0.2.2.2.1)).bind fun t29 =>
 let t31 : Bool := (t19 || (!t23.1)) || (!t29.1)
 (bif t31 then some (false, ()) else (Zk3 s0.2.2.2.2.1)).bind fun t35 =>
 (bif (t31 || (!t35.1)) then some (false, ()) else (Zp0 s0.2.2.2.2.2.1)).bind fun t41 =>
 bif (t31 || (!t35.1)) || (!t41.1) then
  some (false, ())
 else
  bif (((!s0.2.2.2.2.2.2.1) && (!s0.2.2.2.2.2.2.2.1)) || (decide (s0.2.1.2.2.2.2.2.2.2.1 > s0.2.2.1.2.1))) || (decide (s0.2.2.2.1.2.2.2.1 > s0.2.2.2.2.1.2.2.2.1)) then
   some (false, ())
  else
   bif ((s0.2.2.2.2.2.2.2.2.1 && (s0.2.1.1 != 4)) || (s0.2.2.2.2.2.2.2.2.2.1 && (!s0.2.2.2.2.2.2.2.2.2.2.2.1))) || ((s0.2.2.2.2.2.2.2.2.2.2.2.2.1 != 0) && (!s0.2.2.2.2.2.2.2.2.2.2.2.1)) then
    some (false, ())
   else
    bif (!s0.2.2.2.2.2.2.1) && (((s0.2.1.1 != 0) || (s0.2.1.2.1.2.2.1 != 0)) || (s0.2.1.2.2.2.2.2.1 != (-1 : Int))) then
     some (false, ())
    else
     some (s0.2.2.2.2.2.2.2.1 || (((s0.2.2.2.1.1 == 0) && (s0.2.2.2.1.2.2.2.1 == 0)) && (!s0.2.2.2.2.2.2.2.2.2.2.2.1)), ())
def Zov (state0 : Int) : Option (List UInt8 × Unit) :=
 (Z3 state0 (0 : Int) (5 : Int)).bind fun t4 =>
 bif !t4.1 then
  some (([] : List UInt8), ())
 else
  Zb (0 ≤ state0 ∧ state0 < 6) <|
  some (([([114, 101, 97, 100, 121] : List UInt8), ([115, 111, 109, 101] : List UInt8), ([97, 108, 108] : List UInt8), ([100, 111, 110, 101] : List UInt8), ([114, 101, 115, 101, 116] : List UInt8), ([114, 101, 115, 101, 116, 100, 111, 110, 101] : List UInt8)]).getD state0.toNat ([] : List UInt8), ())
abbrev Zvu : List PE := [.val 3 (.str) (.u false), .box 5 135 (Zt) (.u false), .val 9 (.slice 135 (Zt)) (.u false), .val 10 (.int .i64) (.u false), .val 11 (.int .i64) (.u false)]
def Zaj (K1 : (List UInt8 × List Ze × Int × Int × Unit) → Option (List UInt8 × Unit)) (out3_2 : List UInt8) (r5 : Ze) (t9_1 : List Ze) (t10_2 : Int) (t11_1 : Int) : Option (List UInt8 × Unit) :=
 (Ql r5.1).bind fun t23 =>
 Zb (t23.1.length + ([45] : List UInt8).length ≤ Z5) <|
 (Ql r5.2.1).bind fun t27 =>
 Zb ((t23.1 ++ ([45] : List UInt8)).length + t27.1.length ≤ Z5) <|
 Zb (out3_2.length + ((t23.1 ++ ([45] : List UInt8)) ++ t27.1).length ≤ Z5) <|
 K1 (out3_2 ++ ((t23.1 ++ ([45] : List UInt8)) ++ t27.1), t9_1, t10_2, IntKind.i64.wrap (t11_1 + 1), ())
abbrev Zvv : List PE := [.val 3 (.str) (.u false), .val 9 (.slice 135 (Zt)) (.u false), .val 10 (.int .i64) (.u false), .val 11 (.int .i64) (.u false)]
def Wb (out3_1 : List UInt8) (t9 : List Ze) (t10_1 : Int) (t11 : Int) : Nat := (t10_1 - t11).toNat + 1
def Kk : Nat → List UInt8 → List Ze → Int → Int → Option (List UInt8 × Unit)
 | 0, _, _, _, _ => none
 | N + 1, out3_1, t9, t10_1, t11 =>
  bif decide (t11 < t10_1) then
   Zb (0 ≤ t11 ∧ t11 < t9.length) <|
   bif decide (t11 > (0 : Int)) then
    Zb (out3_1.length + ([32] : List UInt8).length ≤ Z5) <|
    Zaj (fun v => Kk N v.1 v.2.1 v.2.2.1 v.2.2.2.1) (out3_1 ++ ([32] : List UInt8)) (t9.getD t11.toNat Zu) t9 t10_1 t11
   else
    Zaj (fun v => Kk N v.1 v.2.1 v.2.2.1 v.2.2.2.1) out3_1 (t9.getD t11.toNat Zu) t9 t10_1 t11
  else
   some (out3_1, ())
def Vm (l0 : List Ze) : Option (List UInt8 × Unit) :=
 bif (l0.length : Int) == (0 : Int) then
  some (([110, 111, 110, 101] : List UInt8), ())
 else
  Kk (Wb ([] : List UInt8) l0 (l0.length : Int) (0 : Int)) ([] : List UInt8) l0 (l0.length : Int) (0 : Int)
def Zou (state0 : Int) : Option (List UInt8 × Unit) :=
 (Z3 state0 (0 : Int) (5 : Int)).bind fun t4 =>
 bif !t4.1 then
  some (([] : List UInt8), ())
 else
  Zb (0 ≤ state0 ∧ state0 < 6) <|
  some (([([111, 112, 101, 110] : List UInt8), ([115, 105, 122, 101, 100] : List UInt8), ([97, 108, 108] : List UInt8), ([114, 101, 97, 100] : List UInt8), ([114, 101, 115, 101, 116] : List UInt8), ([114, 101, 115, 101, 116, 114, 101, 97, 100] : List UInt8)]).getD state0.toNat ([] : List UInt8), ())
abbrev Zvq : List PE := [.val 3 (.slice 135 (Zt)) (.u true), .val 12 (.slice 138 (Zbb)) (.u false), .val 13 (.int .i64) (.u false), .val 14 (.int .i64) (.u false)]
def Zdt (out3 : List Ze) (t12 : List Q2) (t13_1 : Int) (t14 : Int) : Nat := (t13_1 - t14).toNat + 1
def Zah : Nat → List Ze → List Q2 → Int → Int → Option (List Ze × Unit)
 | 0, _, _, _, _ => none
 | N + 1, out3, t12, t13_1, t14 =>
  bif decide (t14 < t13_1) then
   Zb (0 ≤ t14 ∧ t14 < t12.length) <|
   (Zfp (t12.getD t14.toNat Qm)).bind fun t22 =>
   let t24 : List Ze := [((t12.getD t14.toNat Qm).1, (t22.1, ()))]
   Zb (out3.length + t24.length ≤ Qp) <|
   Zah N (out3 ++ t24) t12 t13_1 (IntKind.i64.wrap (t14 + 1))
  else
   some (out3, ())
def Zi0 (b0 : Z2) : Option (List Ze × Unit) :=
 (Zey b0).bind fun t8 =>
 bif !t8.1 then
  some (([] : List Ze), ())
 else
  Zah (Zdt ([] : List Ze) b0.2.1 (b0.2.1.length : Int) (0 : Int)) ([] : List Ze) b0.2.1 (b0.2.1.length : Int) (0 : Int)
abbrev Zvw : List PE := [.box 1 51 (Z1) (.u false), .val 3 (.str) (.u false)]
def Zak (s1 : Zo) (out3 : List UInt8) : Option (List UInt8 × Unit) :=
 bif s1.2.2.2.2.2.2.2.1 then
  (Zou s1.2.2.2.1.1).bind fun t49 =>
  Zb (([32, 114, 101, 99, 118, 32] : List UInt8).length + t49.1.length ≤ Z5) <|
  Zb ((([32, 114, 101, 99, 118, 32] : List UInt8) ++ t49.1).length + ([32, 114, 101, 97, 100, 32] : List UInt8).length ≤ Z5) <|
  let t51 : List UInt8 := (([32, 114, 101, 99, 118, 32] : List UInt8) ++ t49.1) ++ ([32, 114, 101, 97, 100, 32] : List UInt8)
  (Ql s1.2.2.2.1.2.1.1).bind fun t56 =>
  Zb (t51.length + t56.1.length ≤ Z5) <|
  Zb ((t51 ++ t56.1).length + ([32, 104, 97, 115, 32] : List UInt8).length ≤ Z5) <|
  let t58 : List UInt8 := (t51 ++ t56.1) ++ ([32, 104, 97, 115, 32] : List UInt8)
  (Zi0 s1.2.2.2.1.2.1).bind fun t62 =>
  (Vm t62.1).bind fun t63 =>
  Zb (t58.length + t63.1.length ≤ Z5) <|
  Zb (out3.length + (t58 ++ t63.1).length ≤ Z5) <|
  some (out3 ++ (t58 ++ t63.1), ())
 else
  some (out3, ())
def Zi2 (s0 : Zo) : Option (List UInt8 × Unit) :=
 (Zk2 s0).bind fun t5 =>
 bif !t5.1 then
  some (([] : List UInt8), ())
 else
  (Ql s0.1).bind fun t9 =>
  bif s0.2.2.2.2.2.2.1 then
   (Zov s0.2.1.1).bind fun t16 =>
   Zb (([32, 115, 101, 110, 100, 32] : List UInt8).length + t16.1.length ≤ Z5) <|
   Zb ((([32, 115, 101, 110, 100, 32] : List UInt8) ++ t16.1).length + ([32, 115, 101, 110, 116, 32] : List UInt8).length ≤ Z5) <|
   let t18 : List UInt8 := (([32, 115, 101, 110, 100, 32] : List UInt8) ++ t16.1) ++ ([32, 115, 101, 110, 116, 32] : List UInt8)
   (Ql s0.2.1.2.2.2.2.2.2.2.1).bind fun t22 =>
   Zb (t18.length + t22.1.length ≤ Z5) <|
   Zb ((t18 ++ t22.1).length + ([32, 112, 101, 110, 100, 105, 110, 103, 32] : List UInt8).length ≤ Z5) <|
   let t24 : List UInt8 := (t18 ++ t22.1) ++ ([32, 112, 101, 110, 100, 105, 110, 103, 32] : List UInt8)
   (Vm s0.2.1.2.2.1).bind fun t28 =>
   Zb (t24.length + t28.1.length ≤ Z5) <|
   Zb ((t24 ++ t28.1).length + ([32, 102, 108, 105, 103, 104, 116, 32] : List UInt8).length ≤ Z5) <|
   let t30 : List UInt8 := (t24 ++ t28.1) ++ ([32, 102, 108, 105, 103, 104, 116, 32] : List UInt8)
   (Vm s0.2.1.2.2.2.1).bind fun t34 =>
   Zb (t30.length + t34.1.length ≤ Z5) <|
   Zb ((t30 ++ t34.1).length + ([32, 97, 99, 107, 101, 100, 32] : List UInt8).length ≤ Z5) <|
   let t36 : List UInt8 := (t30 ++ t34.1) ++ ([32, 97, 99, 107, 101, 100, 32] : List UInt8)
   (Vm s0.2.1.2.2.2.2.1).bind fun t40 =>
   Zb (t36.length + t40.1.length ≤ Z5) <|
   Zb (t9.1.length + (t36 ++ t40.1).length ≤ Z5) <|
   Zak s0 (t9.1 ++ (t36 ++ t40.1))
  else
   Zak s0 t9.1
def Zik (state0 : Int) : Option (List UInt8 × Unit) :=
 (Z4 state0 (0 : Int) (5 : Int)).bind fun t4 =>
 bif !t4.1 then
  some (([] : List UInt8), ())
 else
  let t6 : List (List UInt8) := [([114, 101, 97, 100, 121] : List UInt8), ([115, 111, 109, 101] : List UInt8), ([97, 108, 108] : List UInt8), ([100, 111, 110, 101] : List UInt8), ([114, 101, 115, 101, 116] : List UInt8), ([114, 101, 115, 101, 116, 100, 111, 110, 101] : List UInt8)]
  Zb (0 ≤ state0 ∧ state0 < t6.length) <|
  some (t6.getD state0.toNat ([] : List UInt8), ())
abbrev Zws : List PE := [.val 0 (.slice 135 (Zt)) (.u false), .val 3 (.str) (.u false), .val 4 (.int .i64) (.u false)]
def Zaq (K1 : (List Ze × List UInt8 × Int × Unit) → Option (List UInt8 × Unit)) (l0_2 : List Ze) (s3_2 : List UInt8) (i4_1 : Int) : Option (List UInt8 × Unit) :=
 Zb (0 ≤ i4_1 ∧ i4_1 < l0_2.length) <|
 Zb (0 ≤ i4_1 ∧ i4_1 < l0_2.length) <|
 (Z7 (l0_2.getD i4_1.toNat Zu).1).bind fun t21 =>
 Zb (s3_2.length + t21.1.length ≤ Z5) <|
 Zb ((s3_2 ++ t21.1).length + ([45] : List UInt8).length ≤ Z5) <|
 (Z7 (l0_2.getD i4_1.toNat Zu).2.1).bind fun t29 =>
 Zb (((s3_2 ++ t21.1) ++ ([45] : List UInt8)).length + t29.1.length ≤ Z5) <|
 K1 (l0_2, ((s3_2 ++ t21.1) ++ ([45] : List UInt8)) ++ t29.1, IntKind.i64.wrap (i4_1 + 1), ())
abbrev Zwt : List PE := [.val 0 (.slice 135 (Zt)) (.u false), .val 3 (.str) (.u false), .val 4 (.int .i64) (.u false)]
def Wg (l0_1 : List Ze) (s3_1 : List UInt8) (i4 : Int) : Nat := ((l0_1.length : Int) - i4).toNat + 1
def Kq : Nat → List Ze → List UInt8 → Int → Option (List UInt8 × Unit)
 | 0, _, _, _ => none
 | N + 1, l0_1, s3_1, i4 =>
  bif decide (i4 < (l0_1.length : Int)) then
   bif decide (i4 > (0 : Int)) then
    Zb (s3_1.length + ([32] : List UInt8).length ≤ Z5) <|
    Zaq (fun v => Kq N v.1 v.2.1 v.2.2.1) l0_1 (s3_1 ++ ([32] : List UInt8)) i4
   else
    Zaq (fun v => Kq N v.1 v.2.1 v.2.2.1) l0_1 s3_1 i4
  else
   bif s3_1 == ([] : List UInt8) then
    some (([110, 111, 110, 101] : List UInt8), ())
   else
    some (s3_1, ())
def Vq (l0 : List Ze) : Option (List UInt8 × Unit) :=
 Kq (Wg l0 ([] : List UInt8) (0 : Int)) l0 ([] : List UInt8) (0 : Int)
def Zii (state0 : Int) : Option (List UInt8 × Unit) :=
 (Z4 state0 (0 : Int) (5 : Int)).bind fun t4 =>
 bif !t4.1 then
  some (([] : List UInt8), ())
 else
  let t6 : List (List UInt8) := [([111, 112, 101, 110] : List UInt8), ([115, 105, 122, 101, 100] : List UInt8), ([97, 108, 108] : List UInt8), ([114, 101, 97, 100] : List UInt8), ([114, 101, 115, 101, 116] : List UInt8), ([114, 101, 115, 101, 116, 114, 101, 97, 100] : List UInt8)]
  Zb (0 ≤ state0 ∧ state0 < t6.length) <|
  some (t6.getD state0.toNat ([] : List UInt8), ())
abbrev Zwu : List PE := [.box 1 51 (Z1) (.u false), .val 3 (.str) (.u false)]
def Zar (s1 : Zo) (t3 : List UInt8) : Option (List UInt8 × Unit) :=
 bif s1.2.2.2.2.2.2.2.1 then
  Zb (t3.length + ([32, 114, 101, 99, 118, 32] : List UInt8).length ≤ Z5) <|
  (Zii s1.2.2.2.1.1).bind fun t50 =>
  Zb ((t3 ++ ([32, 114, 101, 99, 118, 32] : List UInt8)).length + t50.1.length ≤ Z5) <|
  let t51 : List UInt8 := (t3 ++ ([32, 114, 101, 99, 118, 32] : List UInt8)) ++ t50.1
  Zb (t51.length + ([32, 114, 101, 97, 100, 32] : List UInt8).length ≤ Z5) <|
  (Z7 s1.2.2.2.1.2.1.1).bind fun t57 =>
  Zb ((t51 ++ ([32, 114, 101, 97, 100, 32] : List UInt8)).length + t57.1.length ≤ Z5) <|
  let t58 : List UInt8 := (t51 ++ ([32, 114, 101, 97, 100, 32] : List UInt8)) ++ t57.1
  Zb (t58.length + ([32, 104, 97, 115, 32] : List UInt8).length ≤ Z5) <|
  (Zeb s1.2.2.2.1.2.1).bind fun t63 =>
  (Vq t63.1).bind fun t64 =>
  Zb ((t58 ++ ([32, 104, 97, 115, 32] : List UInt8)).length + t64.1.length ≤ Z5) <|
  some ((t58 ++ ([32, 104, 97, 115, 32] : List UInt8)) ++ t64.1, ())
 else
  some (t3, ())
def Zi6 (s0 : Zo) : Option (List UInt8 × Unit) :=
 (Vj s0).bind fun t5 =>
 bif !t5.1 then
  some (([] : List UInt8), ())
 else
  (Z7 s0.1).bind fun t9 =>
  bif s0.2.2.2.2.2.2.1 then
   Zb (t9.1.length + ([32, 115, 101, 110, 100, 32] : List UInt8).length ≤ Z5) <|
   (Zik s0.2.1.1).bind fun t17 =>
   Zb ((t9.1 ++ ([32, 115, 101, 110, 100, 32] : List UInt8)).length + t17.1.length ≤ Z5) <|
   let t18 : List UInt8 := (t9.1 ++ ([32, 115, 101, 110, 100, 32] : List UInt8)) ++ t17.1
   Zb (t18.length + ([32, 115, 101, 110, 116, 32] : List UInt8).length ≤ Z5) <|
   (Z7 s0.2.1.2.2.2.2.2.2.2.1).bind fun t23 =>
   Zb ((t18 ++ ([32, 115, 101, 110, 116, 32] : List UInt8)).length + t23.1.length ≤ Z5) <|
   let t24 : List UInt8 := (t18 ++ ([32, 115, 101, 110, 116, 32] : List UInt8)) ++ t23.1
   Zb (t24.length + ([32, 112, 101, 110, 100, 105, 110, 103, 32] : List UInt8).length ≤ Z5) <|
   let t25 : List UInt8 := t24 ++ ([32, 112, 101, 110, 100, 105, 110, 103, 32] : List UInt8)
   (Vq s0.2.1.2.2.1).bind fun t29 =>
   Zb (t25.length + t29.1.length ≤ Z5) <|
   Zb ((t25 ++ t29.1).length + ([32, 102, 108, 105, 103, 104, 116, 32] : List UInt8).length ≤ Z5) <|
   let t31 : List UInt8 := (t25 ++ t29.1) ++ ([32, 102, 108, 105, 103, 104, 116, 32] : List UInt8)
   (Vq s0.2.1.2.2.2.1).bind fun t35 =>
   Zb (t31.length + t35.1.length ≤ Z5) <|
   Zb ((t31 ++ t35.1).length + ([32, 97, 99, 107, 101, 100, 32] : List UInt8).length ≤ Z5) <|
   let t37 : List UInt8 := (t31 ++ t35.1) ++ ([32, 97, 99, 107, 101, 100, 32] : List UInt8)
   (Vq s0.2.1.2.2.2.2.1).bind fun t41 =>
   Zb (t37.length + t41.1.length ≤ Z5) <|
   Zar s0 (t37 ++ t41.1)
  else
   Zar s0 t9.1
def Zpj (c0 : Zrg) : Option (Bool × Unit) :=
 (Zhx c0.1).bind fun t5 =>
 (bif t5.1 then (Z3 c0.2.2.1 (1 : Int) (4096 : Int)) else some (false, ())).bind fun t9 =>
 (bif (t5.1 && t9.1) then (Z3 c0.2.2.2.2.1 (1 : Int) (4096 : Int)) else some (false, ())).bind fun t14 =>
 (bif ((t5.1 && t9.1) && t14.1) then (Z3 c0.2.1 (1 : Int) c0.2.2.1) else some (false, ())).bind fun t21 =>
 let t22 : Bool := ((t5.1 && t9.1) && t14.1) && t21.1
 (bif t22 then (Z3 c0.2.2.2.1 (1 : Int) c0.2.2.2.2.1) else some (false, ())).bind fun t28 =>
 (bif (t22 && t28.1) then (Z3 c0.2.2.2.2.2.1 (0 : Int) (1000 : Int)) else some (false, ())).bind fun t33 =>
 (bif ((t22 && t28.1) && t33.1) then (Z3 c0.2.2.2.2.2.2.1 (0 : Int) (1000 : Int)) else some (false, ())).bind fun t38 =>
 let t39 : Bool := ((t22 && t28.1) && t33.1) && t38.1
 (bif t39 then (Z3 c0.2.2.2.2.2.2.2.1 (1 : Int) (1000 : Int)) else some (false, ())).bind fun t43 =>
 some (t39 && t43.1, ())
abbrev Zyz : List PE := [.val 0 (.slice 51 (Z1)) (.u false), .val 5 (.slice 51 (Z1)) (.u false), .val 6 (.int .i64) (.u false), .val 7 (.int .i64) (.u false)]
def Zay (l0_1 : List Zo) (t5 : List Zo) (t6_1 : Int) (t7 : Int) : Nat := (t6_1 - t7).toNat + 1
def J0 : Nat → List Zo → List Zo → Int → Int → Option (Bool × Unit)
 | 0, _, _, _, _ => none
 | N + 1, l0_1, t5, t6_1, t7 =>
  bif decide (t7 < t6_1) then
   Zb (0 ≤ t7 ∧ t7 < t5.length) <|
   (bif (decide (t7 ≥ (24 : Int))) then some (false, ()) else (Zk2 (t5.getD t7.toNat Q7))).bind fun t16 =>
   let t18 : Bool := (decide (t7 ≥ (24 : Int))) || (!t16.1)
   Zb ((t18 = false → ((decide (t7 > (0 : Int))) = true → (0 ≤ (IntKind.i64.wrap (t7 - 1)) ∧ (IntKind.i64.wrap (t7 - 1)) < l0_1.length)))) <|
   bif t18 || ((decide (t7 > (0 : Int))) && (decide ((l0_1.getD (IntKind.i64.wrap (t7 - 1)).toNat Q7).1 ≥ (t5.getD t7.toNat Q7).1))) then
    some (false, ())
   else
    J0 N l0_1 t5 t6_1 (IntKind.i64.wrap (t7 + 1))
  else
   some (true, ())
def Zbc (l0 : List Zo) : Option (Bool × Unit) :=
 J0 (Zay l0 l0 (l0.length : Int) (0 : Int)) l0 l0 (l0.length : Int) (0 : Int)
def Zqt (c0 : Zja) : Option (Bool × Unit) :=
 (Z3 c0.1 (0 : Int) (1152921504606846976 : Int)).bind fun t5 =>
 (bif t5.1 then (Z3 c0.2.1 (0 : Int) c0.1) else some (false, ())).bind fun t11 =>
 (bif (t5.1 && t11.1) then (Z3 c0.2.2.1 (-1 : Int) c0.1) else some (false, ())).bind fun t18 =>
 some ((t5.1 && t11.1) && t18.1, ())
def Zqs (a0 : Qq) : Option (Bool × Unit) :=
 (Z3 a0.1 (0 : Int) (1000 : Int)).bind fun t5 =>
 (bif t5.1 then (Z3 a0.2.1 a0.1 (1152921504606846976 : Int)) else some (false, ())).bind fun t11 =>
 (bif (t5.1 && t11.1) then (Z3 a0.2.2.1 (0 : Int) a0.2.1) else some (false, ())).bind fun t18 =>
 (bif ((t5.1 && t11.1) && t18.1) then (Z3 a0.2.2.2.1 (0 : Int) a0.2.2.1) else some (false, ())).bind fun t25 =>
 some ((((t5.1 && t11.1) && t18.1) && t25.1) && (decide (a0.2.1 ≤ (IntKind.i64.wrap (a0.2.2.2.1 + a0.1)))), ())
def Zm7 (f0 : Zg) : Option (Bool × Unit) :=
 (Zm4 f0).bind fun t4 =>
 some (!t4.1, ())
abbrev V5 : List PE := [.val 0 (.slice 25 (Zr)) (.u false), .val 1 (.fnc 164) (.u false), .val 7 (.int .i64) (.u false), .val 8 (.int .i64) (.u false)]
def Qy (s0_1 : List Zg) (f1 : Unit) (t7_1 : Int) (t8 : Int) : Nat := (t7_1 - t8).toNat + 1
def Qc : Nat → List Zg → Unit → Int → Int → Option (Int × Unit)
 | 0, _, _, _, _ => none
 | N + 1, s0_1, f1, t7_1, t8 =>
  bif decide (t8 < t7_1) then
   Zb (0 ≤ t8 ∧ t8 < s0_1.length) <|
   (Zm7 (s0_1.getD t8.toNat Qg)).bind fun t16 =>
   bif t16.1 then
    some (t8, ())
   else
    Qc N s0_1 () t7_1 (IntKind.i64.wrap (t8 + 1))
  else
   some ((-1 : Int), ())
def Xe (s0 : List Zg) : Option (Int × Unit) :=
 Qc (Qy s0 () (s0.length : Int) (0 : Int)) s0 () (s0.length : Int) (0 : Int)
def Qi (s0 : List Zg) : Option (Bool × Unit) :=
 (Xe s0).bind fun t7 =>
 some (decide (t7.1 ≥ (0 : Int)), ())
abbrev Zy2 : List PE := [.val 0 (.slice 148 (Wz)) (.u false), .val 1 (.int .i64) (.u false), .val 7 (.slice 148 (Wz)) (.u false), .val 8 (.int .i64) (.u false), .val 9 (.int .i64) (.u false)]
def Zft (l0_1 : List Xn) (number1_1 : Int) (t7 : List Xn) (t8_1 : Int) (t9 : Int) : Nat := (t8_1 - t9).toNat + 1
def Zch : Nat → List Xn → Int → List Xn → Int → Int → Option (Bool × Unit)
 | 0, _, _, _, _, _ => none
 | N + 1, l0_1, number1_1, t7, t8_1, t9 =>
  bif decide (t9 < t8_1) then
   Zb (0 ≤ t9 ∧ t9 < t7.length) <|
   (Z3 (t7.getD t9.toNat Jz).1 (0 : Int) (IntKind.i64.wrap (number1_1 - 1))).bind fun t18 =>
   Zb (((!t18.1) = false → ((decide (t9 > (0 : Int))) = true → (0 ≤ (IntKind.i64.wrap (t9 - 1)) ∧ (IntKind.i64.wrap (t9 - 1)) < l0_1.length)))) <|
   let t34 : Bool := (!t18.1) || ((decide (t9 > (0 : Int))) && (decide ((l0_1.getD (IntKind.i64.wrap (t9 - 1)).toNat Jz).1 ≥ (t7.getD t9.toNat Jz).1)))
   (bif t34 then some (false, ()) else (Qi (t7.getD t9.toNat Jz).2.1)).bind fun t38 =>
   bif t34 || t38.1 then
    some (false, ())
   else
    Zch N l0_1 number1_1 t7 t8_1 (IntKind.i64.wrap (t9 + 1))
  else
   some (true, ())
def Zp1 (l0 : List Xn) (number1 : Int) : Option (Bool × Unit) :=
 Zch (Zft l0 number1 l0 (l0.length : Int) (0 : Int)) l0 number1 l0 (l0.length : Int) (0 : Int)
def Zub (s0 : Zo) : Option (Int × Unit) :=
 some (s0.2.1.2.2.2.2.2.2.2.1, ())
abbrev Zna : List PE := [.val 1 (.fnc 166) (.u false), .val 5 (.int .i64) (.u false), .val 11 (.slice 51 (Z1)) (.u false), .val 12 (.int .i64) (.u false), .val 13 (.int .i64) (.u false)]
def Xo (number1 : Unit) (sum5 : Int) (t11 : List Zo) (t12_1 : Int) (t13 : Int) : Nat := (t12_1 - t13).toNat + 1
def Yj : Nat → Unit → Int → List Zo → Int → Int → Option (Int × Unit)
 | 0, _, _, _, _, _ => none
 | N + 1, number1, sum5, t11, t12_1, t13 =>
  bif decide (t13 < t12_1) then
   Zb (0 ≤ t13 ∧ t13 < t11.length) <|
   (Zub (t11.getD t13.toNat Q7)).bind fun t20 =>
   Yj N () (min (IntKind.i64.wrap (sum5 + t20.1)) (4611686018427387904 : Int)) t11 t12_1 (IntKind.i64.wrap (t13 + 1))
  else
   some (sum5, ())
def Zbw (l0 : List Zo) : Option (Int × Unit) :=
 (Zbc l0).bind fun t9 =>
 bif !t9.1 then
  some ((0 : Int), ())
 else
  Yj (Xo () (0 : Int) l0 (l0.length : Int) (0 : Int)) () (0 : Int) l0 (l0.length : Int) (0 : Int)
def Zm6 (l0 : List Zo) : Option (Int × Unit) :=
 (Zbw l0).bind fun t4 =>
 some (t4.1, ())
def Zua (s0 : Zo) : Option (Int × Unit) :=
 some (s0.2.2.2.1.2.2.2.1, ())
abbrev Zm9 : List PE := [.val 1 (.fnc 167) (.u false), .val 5 (.int .i64) (.u false), .val 11 (.slice 51 (Z1)) (.u false), .val 12 (.int .i64) (.u false), .val 13 (.int .i64) (.u false)]
def Jt (number1 : Unit) (sum5 : Int) (t11 : List Zo) (t12_1 : Int) (t13 : Int) : Nat := (t12_1 - t13).toNat + 1
def Yi : Nat → Unit → Int → List Zo → Int → Int → Option (Int × Unit)
 | 0, _, _, _, _, _ => none
 | N + 1, number1, sum5, t11, t12_1, t13 =>
  bif decide (t13 < t12_1) then
   Zb (0 ≤ t13 ∧ t13 < t11.length) <|
   (Zua (t11.getD t13.toNat Q7)).bind fun t20 =>
   Yi N () (min (IntKind.i64.wrap (sum5 + t20.1)) (4611686018427387904 : Int)) t11 t12_1 (IntKind.i64.wrap (t13 + 1))
  else
   some (sum5, ())
def Zbv (l0 : List Zo) : Option (Int × Unit) :=
 (Zbc l0).bind fun t9 =>
 bif !t9.1 then
  some ((0 : Int), ())
 else
  Yi (Jt () (0 : Int) l0 (l0.length : Int) (0 : Int)) () (0 : Int) l0 (l0.length : Int) (0 : Int)
def Zm5 (l0 : List Zo) : Option (Int × Unit) :=
 (Zbv l0).bind fun t4 =>
 some (t4.1, ())
def Zpk (c0 : Zi) : Option (Bool × Unit) :=
 (Zpj c0.2.1).bind fun t6 =>
 (bif (!t6.1) then some (false, ()) else (Zpj c0.2.2.1)).bind fun t11 =>
 (bif ((!t6.1) || (!t11.1)) then some (false, ()) else (Zbc c0.2.2.2.1)).bind fun t17 =>
 let t19 : Bool := ((!t6.1) || (!t11.1)) || (!t17.1)
 (bif t19 then some (false, ()) else (Zk1 c0.2.2.2.2.1)).bind fun t23 =>
 (bif (t19 || (!t23.1)) then some (false, ()) else (Zk3 c0.2.2.2.2.2.1)).bind fun t29 =>
 bif (t19 || (!t23.1)) || (!t29.1) then
  some (false, ())
 else
  (Zqt c0.2.2.2.2.2.2.1).bind fun t35 =>
  (bif (!t35.1) then some (false, ()) else (Zqt c0.2.2.2.2.2.2.2.1)).bind fun t40 =>
  (bif ((!t35.1) || (!t40.1)) then some (false, ()) else (Zqs c0.2.2.2.2.2.2.2.2.1)).bind fun t46 =>
  let t48 : Bool := ((!t35.1) || (!t40.1)) || (!t46.1)
  (bif t48 then some (false, ()) else (Zqs c0.2.2.2.2.2.2.2.2.2.1)).bind fun t52 =>
  bif t48 || (!t52.1) then
   some (false, ())
  else
   (Z3 c0.2.2.2.2.2.2.2.2.2.2.2.2.2.1 (-1 : Int) (4611686018427387903 : Int)).bind fun t58 =>
   (bif (!t58.1) then some (false, ()) else (Z3 c0.2.2.2.2.2.2.2.2.2.2.2.2.2.2.1 (0 : Int) (1000000 : Int))).bind fun t63 =>
   (bif ((!t58.1) || (!t63.1)) then some (false, ()) else (Z3 c0.2.2.2.2.2.2.2.2.2.2.2.2.2.2.2.2.1 (0 : Int) (1000000 : Int))).bind fun t69 =>
   let t71 : Bool := ((!t58.1) || (!t63.1)) || (!t69.1)
   (bif t71 then some (false, ()) else (Z3 c0.2.2.2.2.2.2.2.2.2.2.2.2.2.2.2.2.2.1 (0 : Int) (255 : Int))).bind fun t75 =>
   bif t71 || (!t75.1) then
    some (false, ())
   else
    (Zp1 c0.2.2.2.2.2.2.2.2.2.2.2.2.2.2.2.1 c0.2.2.2.2.2.2.2.2.2.2.2.2.2.2.1).bind fun t82 =>
    (bif t82.1 then (Zm6 c0.2.2.2.1) else some ((0 : Int), ())).bind fun t86 =>
    (bif (t82.1 && (decide (t86.1 ≤ c0.2.2.2.2.1.2.1))) then (Zm5 c0.2.2.2.1) else some ((0 : Int), ())).bind fun t95 =>
    some ((t82.1 && (decide (t86.1 ≤ c0.2.2.2.2.1.2.1))) && (decide (t95.1 ≤ c0.2.2.2.2.2.1.2.2.2.1)), ())
def Ztj (c0 : Zi) : Option (Bool × Unit) :=
 some (c0.2.2.2.2.2.2.2.2.2.2.2.2.2.2.2.2.2.1 != 0, ())
def Zpz (c0 : Qq) : Option (Int × Unit) :=
 (Zk1 c0).bind fun t4 =>
 bif !t4.1 then
  some ((0 : Int), ())
 else
  some (IntKind.i64.wrap (c0.1 - c0.2.1), ())
def Zvx (w0 : Y3) : Option (Int × Unit) :=
 (Zk3 w0).bind fun t4 =>
 bif !t4.1 then
  some ((0 : Int), ())
 else
  some (IntKind.i64.wrap (w0.2.2.1 - w0.2.2.2.1), ())
abbrev Zt7 : List PE := [.val 3 (.int .i64) (.u false), .val 10 (.slice 51 (Z1)) (.u false), .val 11 (.int .i64) (.u false), .val 12 (.int .i64) (.u false)]
def Zje (sum3 : Int) (t10 : List Zo) (t11_1 : Int) (t12 : Int) : Nat := (t11_1 - t12).toNat + 1
def Wi : Nat → Int → List Zo → Int → Int → Option (Int × Unit)
 | 0, _, _, _, _ => none
 | N + 1, sum3, t10, t11_1, t12 =>
  bif decide (t12 < t11_1) then
   Zb (0 ≤ t12 ∧ t12 < t10.length) <|
   (Jd (t10.getD t12.toNat Q7).2.1.2.2.2.1).bind fun t20 =>
   Wi N (IntKind.i64.wrap (sum3 + t20.1)) t10 t11_1 (IntKind.i64.wrap (t12 + 1))
  else
   some (sum3, ())
def Zhb (c0 : Zi) : Option (Int × Unit) :=
 (Zpk c0).bind fun t7 =>
 bif !t7.1 then
  some ((0 : Int), ())
 else
  Wi (Zje (0 : Int) c0.2.2.2.1 (c0.2.2.2.1.length : Int) (0 : Int)) (0 : Int) c0.2.2.2.1 (c0.2.2.2.1.length : Int) (0 : Int)
def Zli (c0 : Zi) : Option (List UInt8 × Unit) :=
 (Zpk c0).bind fun t5 =>
 bif !t5.1 then
  some (([] : List UInt8), ())
 else
  (Ztj c0).bind fun t9 =>
  bif t9.1 then
   (Ql c0.2.2.2.2.2.2.2.2.2.2.2.2.2.2.2.2.2.1).bind fun t12 =>
   Zb (([99, 108, 111, 115, 101, 100, 32] : List UInt8).length + t12.1.length ≤ Z5) <|
   some (([99, 108, 111, 115, 101, 100, 32] : List UInt8) ++ t12.1, ())
  else
   (Ql (c0.2.2.2.1.length : Int)).bind fun t17 =>
   Zb (([115, 116, 114, 101, 97, 109, 115, 32] : List UInt8).length + t17.1.length ≤ Z5) <|
   let t18 : List UInt8 := ([115, 116, 114, 101, 97, 109, 115, 32] : List UInt8) ++ t17.1
   Zb (t18.length + ([32, 99, 114, 101, 100, 105, 116, 32] : List UInt8).length ≤ Z5) <|
   let t19 : List UInt8 := t18 ++ ([32, 99, 114, 101, 100, 105, 116, 32] : List UInt8)
   (Zpz c0.2.2.2.2.1).bind fun t22 =>
   (Ql t22.1).bind fun t23 =>
   Zb (t19.length + t23.1.length ≤ Z5) <|
   Zb ((t19 ++ t23.1).length + ([32, 119, 105, 110, 100, 111, 119, 32] : List UInt8).length ≤ Z5) <|
   let t25 : List UInt8 := (t19 ++ t23.1) ++ ([32, 119, 105, 110, 100, 111, 119, 32] : List UInt8)
   (Zvx c0.2.2.2.2.2.1).bind fun t28 =>
   (Ql t28.1).bind fun t29 =>
   Zb (t25.length + t29.1.length ≤ Z5) <|
   Zb ((t25 ++ t29.1).length + ([32, 112, 97, 99, 107, 101, 116, 115, 32] : List UInt8).length ≤ Z5) <|
   let t31 : List UInt8 := (t25 ++ t29.1) ++ ([32, 112, 97, 99, 107, 101, 116, 115, 32] : List UInt8)
   (Ql (c0.2.2.2.2.2.2.2.2.2.2.2.2.2.2.2.1.length : Int)).bind fun t35 =>
   Zb (t31.length + t35.1.length ≤ Z5) <|
   Zb ((t31 ++ t35.1).length + ([32, 102, 108, 105, 103, 104, 116, 32] : List UInt8).length ≤ Z5) <|
   let t37 : List UInt8 := (t31 ++ t35.1) ++ ([32, 102, 108, 105, 103, 104, 116, 32] : List UInt8)
   (Zhb c0).bind fun t39 =>
   (Ql t39.1).bind fun t40 =>
   Zb (t37.length + t40.1.length ≤ Z5) <|
   some (t37 ++ t40.1, ())
def Znu (w0 : Y3) : Option (Int × Unit) :=
 (Kz w0).bind fun t4 =>
 bif !t4.1 then
  some ((0 : Int), ())
 else
  some (IntKind.i64.wrap (w0.2.2.1 - w0.2.2.2.1), ())
abbrev Zuv : List PE := [.box 1 62 (Zq) (.u false), .val 3 (.int .i64) (.u false), .val 4 (.int .i64) (.u false)]
def Kn (c1 : Zi) (n3 : Int) (i4 : Int) : Nat := ((c1.2.2.2.1.length : Int) - i4).toNat + 1
def Jq : Nat → Zi → Int → Int → Option (Int × Unit)
 | 0, _, _, _ => none
 | N + 1, c1, n3, i4 =>
  (bif (decide (i4 < (c1.2.2.2.1.length : Int))) then (Xy c1) else some (false, ())).bind fun t12 =>
  bif (decide (i4 < (c1.2.2.2.1.length : Int))) && t12.1 then
   Zb (0 ≤ i4 ∧ i4 < c1.2.2.2.1.length) <|
   (Kc (c1.2.2.2.1.getD i4.toNat Q7).2.1.2.2.2.1).bind fun t24 =>
   Jq N c1 (IntKind.i64.wrap (n3 + t24.1)) (IntKind.i64.wrap (i4 + 1))
  else
   some (n3, ())
def Zhi (c0 : Zi) : Option (Int × Unit) :=
 Jq (Kn c0 (0 : Int) (0 : Int)) c0 (0 : Int) (0 : Int)
def Zls (c0 : Zi) : Option (List UInt8 × Unit) :=
 (Xy c0).bind fun t4 =>
 bif !t4.1 then
  some (([] : List UInt8), ())
 else
  (Zo2 c0).bind fun t7 =>
  bif t7.1 then
   (Z7 c0.2.2.2.2.2.2.2.2.2.2.2.2.2.2.2.2.2.1).bind fun t10 =>
   Zb (([99, 108, 111, 115, 101, 100, 32] : List UInt8).length + t10.1.length ≤ Z5) <|
   some (([99, 108, 111, 115, 101, 100, 32] : List UInt8) ++ t10.1, ())
  else
   (Z7 (c0.2.2.2.1.length : Int)).bind fun t15 =>
   Zb (([115, 116, 114, 101, 97, 109, 115, 32] : List UInt8).length + t15.1.length ≤ Z5) <|
   let t16 : List UInt8 := ([115, 116, 114, 101, 97, 109, 115, 32] : List UInt8) ++ t15.1
   Zb (t16.length + ([32, 99, 114, 101, 100, 105, 116, 32] : List UInt8).length ≤ Z5) <|
   let t17 : List UInt8 := t16 ++ ([32, 99, 114, 101, 100, 105, 116, 32] : List UInt8)
   (V6 c0.2.2.2.2.1).bind fun t20 =>
   (Z7 t20.1).bind fun t21 =>
   Zb (t17.length + t21.1.length ≤ Z5) <|
   Zb ((t17 ++ t21.1).length + ([32, 119, 105, 110, 100, 111, 119, 32] : List UInt8).length ≤ Z5) <|
   let t23 : List UInt8 := (t17 ++ t21.1) ++ ([32, 119, 105, 110, 100, 111, 119, 32] : List UInt8)
   (Znu c0.2.2.2.2.2.1).bind fun t26 =>
   (Z7 t26.1).bind fun t27 =>
   Zb (t23.length + t27.1.length ≤ Z5) <|
   Zb ((t23 ++ t27.1).length + ([32, 112, 97, 99, 107, 101, 116, 115, 32] : List UInt8).length ≤ Z5) <|
   let t29 : List UInt8 := (t23 ++ t27.1) ++ ([32, 112, 97, 99, 107, 101, 116, 115, 32] : List UInt8)
   (Z7 (c0.2.2.2.2.2.2.2.2.2.2.2.2.2.2.2.1.length : Int)).bind fun t33 =>
   Zb (t29.length + t33.1.length ≤ Z5) <|
   Zb ((t29 ++ t33.1).length + ([32, 102, 108, 105, 103, 104, 116, 32] : List UInt8).length ≤ Z5) <|
   let t35 : List UInt8 := (t29 ++ t33.1) ++ ([32, 102, 108, 105, 103, 104, 116, 32] : List UInt8)
   (Zhi c0).bind fun t37 =>
   (Z7 t37.1).bind fun t38 =>
   Zb (t35.length + t38.1.length ≤ Z5) <|
   some (t35 ++ t38.1, ())
abbrev Zt8 : List PE := [.val 3 (.slice 9 (.str)) (.u true), .val 7 (.slice 107 (Zbb)) (.u false), .val 8 (.int .i64) (.u false), .val 9 (.int .i64) (.u false)]
def Zcg (out3 : List (List UInt8)) (t7 : List Q2) (t8_1 : Int) (t9 : Int) : Nat := (t8_1 - t9).toNat + 1
def Jm : Nat → List (List UInt8) → List Q2 → Int → Int → Option (List UInt8 × Unit)
 | 0, _, _, _, _ => none
 | N + 1, out3, t7, t8_1, t9 =>
  bif decide (t9 < t8_1) then
   Zb (0 ≤ t9 ∧ t9 < t7.length) <|
   (Ql (t7.getD t9.toNat Qm).1).bind fun t16 =>
   Zb (t16.1.length + ([58] : List UInt8).length ≤ Z5) <|
   (Ql ((t7.getD t9.toNat Qm).2.1.length : Int)).bind fun t21 =>
   Zb ((t16.1 ++ ([58] : List UInt8)).length + t21.1.length ≤ Z5) <|
   let t23 : List (List UInt8) := [((t16.1 ++ ([58] : List UInt8)) ++ t21.1)]
   Zb (out3.length + t23.length ≤ Qp) <|
   Jm N (out3 ++ t23) t7 t8_1 (IntKind.i64.wrap (t9 + 1))
  else
   (Vy out3 ([32] : List UInt8)).bind fun t27 =>
   (Zjf t27.1).bind fun t28 =>
   some (t28.1, ())
def Zhe (l0 : List Q2) : Option (List UInt8 × Unit) :=
 Jm (Zcg ([] : List (List UInt8)) l0 (l0.length : Int) (0 : Int)) ([] : List (List UInt8)) l0 (l0.length : Int) (0 : Int)
abbrev Zu3 : List PE := [.val 0 (.slice 107 (Zbb)) (.u false), .val 3 (.str) (.u false), .val 4 (.int .i64) (.u false)]
def Zdp (K1 : (List Q2 × List UInt8 × Int × Unit) → Option (List UInt8 × Unit)) (l0_2 : List Q2) (s3_2 : List UInt8) (i4_1 : Int) : Option (List UInt8 × Unit) :=
 Zb (0 ≤ i4_1 ∧ i4_1 < l0_2.length) <|
 Zb (0 ≤ i4_1 ∧ i4_1 < l0_2.length) <|
 (Z7 (l0_2.getD i4_1.toNat Qm).1).bind fun t21 =>
 Zb (s3_2.length + t21.1.length ≤ Z5) <|
 Zb ((s3_2 ++ t21.1).length + ([58] : List UInt8).length ≤ Z5) <|
 (Z7 ((l0_2.getD i4_1.toNat Qm).2.1.length : Int)).bind fun t30 =>
 Zb (((s3_2 ++ t21.1) ++ ([58] : List UInt8)).length + t30.1.length ≤ Z5) <|
 K1 (l0_2, ((s3_2 ++ t21.1) ++ ([58] : List UInt8)) ++ t30.1, IntKind.i64.wrap (i4_1 + 1), ())
abbrev Zu4 : List PE := [.val 0 (.slice 107 (Zbb)) (.u false), .val 3 (.str) (.u false), .val 4 (.int .i64) (.u false)]
def Zct (l0_1 : List Q2) (s3_1 : List UInt8) (i4 : Int) : Nat := ((l0_1.length : Int) - i4).toNat + 1
def Xw : Nat → List Q2 → List UInt8 → Int → Option (List UInt8 × Unit)
 | 0, _, _, _ => none
 | N + 1, l0_1, s3_1, i4 =>
  bif decide (i4 < (l0_1.length : Int)) then
   bif decide (i4 > (0 : Int)) then
    Zb (s3_1.length + ([32] : List UInt8).length ≤ Z5) <|
    Zdp (fun v => Xw N v.1 v.2.1 v.2.2.1) l0_1 (s3_1 ++ ([32] : List UInt8)) i4
   else
    Zdp (fun v => Xw N v.1 v.2.1 v.2.2.1) l0_1 s3_1 i4
  else
   bif s3_1 == ([] : List UInt8) then
    some (([110, 111, 110, 101] : List UInt8), ())
   else
    some (s3_1, ())
def Zho (l0 : List Q2) : Option (List UInt8 × Unit) :=
 Xw (Zct l0 ([] : List UInt8) (0 : Int)) l0 ([] : List UInt8) (0 : Int)
def Zox (code0 : List Int) : Option (Bool × Unit) :=
 (Qke code0).bind fun t17 =>
 bif t17.1 then
  some (true, ())
 else
  (Zee code0).bind fun t19 =>
  (J8 t19.1).bind fun t21 =>
  (Zdy t21.1).bind fun t24 =>
  (Zfc code0).bind fun t28 =>
  (Zdy t28.1).bind fun t31 =>
  (Zh2 t28.1).bind fun t36 =>
  (Zdm code0).bind fun t40 =>
  (Zdn code0).bind fun t42 =>
  (Zfb code0).bind fun t44 =>
  (Zby code0).bind fun t46 =>
  (Xr t19.1).bind fun t49 =>
  (bif (t21.1 == t49.1) then (Xr t19.1) else some (([] : List UInt8), ())).bind fun t54 =>
  let t76 : Bool := ((((t21.1 == t49.1) && (t24.2.1 == (!(t54.1 == ([] : List UInt8))))) && ((!t24.2.1) || (eqV (Zr) t24.1 t19.1))) && (t31.2.1 == t36.2.1)) && (eqV (Zr) t31.1 t36.1)
  (bif t76 then (Zi1 t40.1) else some (([] : List UInt8), ())).bind fun t79 =>
  (bif t76 then (Zi5 t40.1) else some (([] : List UInt8), ())).bind fun t81 =>
  (bif (t76 && (t79.1 == t81.1)) then (Zi2 t42.1.1) else some (([] : List UInt8), ())).bind fun t86 =>
  (bif (t76 && (t79.1 == t81.1)) then (Zi6 t42.1.1) else some (([] : List UInt8), ())).bind fun t88 =>
  let t90 : Bool := (t76 && (t79.1 == t81.1)) && (t86.1 == t88.1)
  (bif t90 then (Zli t44.1.1) else some (([] : List UInt8), ())).bind fun t93 =>
  (bif t90 then (Zls t44.1.1) else some (([] : List UInt8), ())).bind fun t95 =>
  (bif (t90 && (t93.1 == t95.1)) then (Zhe t46.1) else some (([] : List UInt8), ())).bind fun t100 =>
  (bif (t90 && (t93.1 == t95.1)) then (Zho t46.1) else some (([] : List UInt8), ())).bind fun t102 =>
  some ((t90 && (t93.1 == t95.1)) && (t100.1 == t102.1), ())
end Go.Proofs.YtahooemkbchdeaaGreatDoor

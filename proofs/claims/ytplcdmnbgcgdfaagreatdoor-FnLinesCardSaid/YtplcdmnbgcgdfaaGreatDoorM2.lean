/- FnLines: what the functions that it reaches compute, as plain functions, part 2. No condition. -/
import Derived.Test.YtplcdmnbgcgdfaaGreatDoorM1
noncomputable section
namespace Go.Proofs.YtplcdmnbgcgdfaaGreatDoor
open Go.Am
set_option maxRecDepth 100000
set_option linter.unusedVariables false
abbrev Qg3:List PE:=[.box 0 71 (Kp) (.u false),.box 2 41 (Qs) (.u true),.box 3 41 (Qs) (.p (.u false) (.p (.u false) (.p (.u false) (.p (.u false) (.u true))))),.val 5 (.int .i64) (.u false)]
def Zmu(c0_2:Qe)(t2_1:Z7)(p3_1:Z7)(n5:Int):Nat:=(n5-0).toNat+1
def Zkt:Nat→Qe→Z7→Z7→Int→Option ((Z7×Unit)×(Qe×Unit))
 |0,_,_,_,_=>none
 |N+1,c0_2,t2_1,p3_1,n5=>
  bif decide (n5>(0:Int))then
   (Zvg c0_2 p3_1).bind fun t37=>
   Zkt N t37.2.1 t2_1 t37.1.1 (IntKind.i64.wrap (n5-1))
  else
   some ((p3_1,()),(c0_2,()))
abbrev Qg2:List PE:=[.box 0 71 (Kp) (.u false),.box 2 41 (Qs) (.u true),.box 3 41 (Qs) (.p (.u false) (.p (.u false) (.p (.u false) (.p (.u false) (.u true)))))]
def Zuh(c0_1:Qe)(t2:Z7)(p3:Z7):Option ((Z7×Unit)×(Qe×Unit)):=
 (Qa c0_1 (12:Int)).bind fun t30=>
 Zkt (Zmu t30.2.1 t2 p3 t30.1.1) t30.2.1 t2 p3 t30.1.1
def Zvf(c0:Qe):Option ((Z7×Unit)×(Qe×Unit)):=
 (Zdn c0).bind fun t8=>
 (Zdn t8.2.1).bind fun t10=>
 (Zu4 t8.1.1 t10.1.1).bind fun t11=>
 (Ze3 t11.1 false ((1:Int),((0:Int),((0:Int),(([98,105,100,105]:List UInt8),()))))).bind fun t17=>
 (Zi8 t10.2.1 (8:Int)).bind fun t23=>
 Zc (([97]:List UInt8).length+t23.1.1.length≤Z8)<|
 (Ze3 t17.1.2.1 false ((2:Int),((0:Int),((0:Int),(([97]:List UInt8)++t23.1.1,()))))).bind fun t26=>
 Qm 1 (
  Zuh t23.2.1 Zdy t26.1.2.1
 )
def Zp7(c0:Qe):Option ((Z7×Unit)×(Qe×Unit)):=
 (Zvf c0).bind fun t5=>
 (Qa t5.2.1 (20:Int)).bind fun t7=>
 bif t7.1.1==0 then
  some ((((true,t5.1.1.1.2),t5.1.1.2),()),(t7.2.1,()))
 else
  bif t7.1.1==1 then
   some (((t5.1.1.1,((t5.1.1.2.1.1,(t5.1.1.2.1.2.1,(t5.1.1.2.1.2.2.1,(t5.1.1.2.1.2.2.2.1,(t5.1.1.2.1.2.2.2.2.1,(t5.1.1.2.1.2.2.2.2.2.1,(t5.1.1.2.1.2.2.2.2.2.2.1,(t5.1.1.2.1.2.2.2.2.2.2.2.1,(t5.1.1.2.1.2.2.2.2.2.2.2.2.1,(t5.1.1.2.1.2.2.2.2.2.2.2.2.2.1,(t5.1.1.2.1.2.2.2.2.2.2.2.2.2.2.1,(t5.1.1.2.1.2.2.2.2.2.2.2.2.2.2.2.1,(t5.1.1.2.1.2.2.2.2.2.2.2.2.2.2.2.2.1,(t5.1.1.2.1.2.2.2.2.2.2.2.2.2.2.2.2.2.1,(t5.1.1.2.1.2.2.2.2.2.2.2.2.2.2.2.2.2.2.1,(t5.1.1.2.1.2.2.2.2.2.2.2.2.2.2.2.2.2.2.2.1,(t5.1.1.2.1.2.2.2.2.2.2.2.2.2.2.2.2.2.2.2.2.1,((3:Int),t5.1.1.2.1.2.2.2.2.2.2.2.2.2.2.2.2.2.2.2.2.2.2)))))))))))))))))),t5.1.1.2.2)),()),(t7.2.1,()))
  else
   some ((t5.1.1,()),(t7.2.1,()))
def Zln(code0:List Int):Option ((Z7×Unit)×(Unit)):=
 (Zg2 code0).bind fun t4=>
 (Zp7 t4.1).bind fun t5=>
 some ((t5.1.1,()),())
def Zjo(code0:List Int):Option (Xw×Unit):=
 (Zg2 code0).bind fun t5=>
 (Zp7 t5.1).bind fun t6=>
 bif decide ((t6.1.1.2.2.2.2.1.length:Int)>(0:Int))then
  Zc (0≤(0:Int)∧(0:Int)<t6.1.1.2.2.2.2.1.length)<|
  some (t6.1.1.2.2.2.2.1.getD (0:Int).toNat Zfc,())
 else
  some (((-1:Int),(false,(([]:List UInt8),(([]:List UInt8),(false,(false,(false,()))))))),())
def Zg9(code0:List Int):Option ((Z7×Unit)×(Unit)):=
 (Zg2 code0).bind fun t4=>
 (Zp7 t4.1).bind fun t5=>
 some ((t5.1.1,()),())
abbrev Qgo:List PE:=[.box 0 71 (Kp) (.u false),.box 3 37 (Zl) (.u false),.box 4 37 (Zl) (.u true),.box 6 37 (Zl) (.u false),.val 27 (.int .i64) (.u false),.val 91 (.bool) (.u false)]
def Zkp(c0_3:Qe)(x3_2:Zg)(t4_2:Zg)(y6_1:Zg)(t27_2:Int)(t91:Bool):Option ((Zg×Unit)×(Qe×Unit)):=
 bif t91 then
  (Qa c0_3 (20:Int)).bind fun t97=>
  (Zah x3_2 (IntKind.i64.wrap ((8:Int)+t97.1.1))).bind fun t99=>
  Qm 2 (
   Qm 1 (
    some ((t99.1.2.2.1,()),(t97.2.1,()))
   )
  )
 else
  bif t27_2==8 then
   (Zrr c0_3).bind fun t106=>
   (Zd6 x3_2 t106.1.1).bind fun t110=>
   bif t110.1.2.1==0 then
    some ((t110.1.1,()),(t106.2.1,()))
   else
    some ((y6_1,()),(t106.2.1,()))
  else
   bif t27_2==9 then
    bif decide ((x3_2.2.2.2.2.2.2.2.2.2.2.2.2.2.2.2.1.length:Int)>(0:Int))then
     (Qa c0_3 (x3_2.2.2.2.2.2.2.2.2.2.2.2.2.2.2.2.1.length:Int)).bind fun t128=>
     Zc (0≤t128.1.1∧t128.1.1<x3_2.2.2.2.2.2.2.2.2.2.2.2.2.2.2.2.1.length)<|
     (Wj t128.2.1 (3:Int)).bind fun t133=>
     bif t133.1.1 then
      (Zai x3_2 (x3_2.2.2.2.2.2.2.2.2.2.2.2.2.2.2.2.1.getD t128.1.1.toNat Qk).1).bind fun t137=>
      some ((t137.1.1,()),(t133.2.1,()))
     else
      (Zb1 x3_2 (x3_2.2.2.2.2.2.2.2.2.2.2.2.2.2.2.2.1.getD t128.1.1.toNat Qk).1).bind fun t143=>
      some ((t143.1.1,()),(t133.2.1,()))
    else
     some ((y6_1,()),(c0_3,()))
   else
    some ((y6_1,()),(c0_3,()))
abbrev Qgn:List PE:=[.box 0 71 (Kp) (.u false),.box 3 37 (Zl) (.u false),.box 4 37 (Zl) (.u true),.val 5 (.int .i64) (.u false),.box 6 37 (Zl) (.u false),.val 27 (.int .i64) (.u false),.val 38 (.bool) (.u false)]
def Zko(c0_2:Qe)(x3_1:Zg)(t4_1:Zg)(id5_1:Int)(y6:Zg)(t27_1:Int)(t38:Bool):Option ((Zg×Unit)×(Qe×Unit)):=
 bif t38 then
  (Zi8 c0_2 (8:Int)).bind fun t45=>
  (Zbj x3_1 id5_1 t45.1.1).bind fun t46=>
  Qm 1 (
   some ((t46.2.1,()),(t45.2.1,()))
  )
 else
  bif t27_1==3 then
   (Wj c0_2 (2:Int)).bind fun t52=>
   bif t52.1.1 then
    (Zgf x3_1 id5_1).bind fun t56=>
    some ((t56.1,()),(t52.2.1,()))
   else
    some ((y6,()),(t52.2.1,()))
  else
   bif t27_1==4 then
    (Qa c0_2 (6:Int)).bind fun t65=>
    (Zaj x3_1 id5_1 t65.1.1).bind fun t66=>
    Qm 2 (
     Qm 1 (
      some ((t66.1.2.2.1,()),(t65.2.1,()))
     )
    )
   else
    bif t27_1==5 then
     (Wj c0_2 (3:Int)).bind fun t73=>
     bif t73.1.1 then
      (Qa t73.2.1 (3:Int)).bind fun t78=>
      (Zik x3_1 id5_1 t78.1.1).bind fun t79=>
      Z6 (
       Qm 1 (
        some ((t79.1.1,()),(t78.2.1,()))
       )
      ) (
       some ((t79.1.1,()),(t78.2.1,()))
      )
     else
      (Zi7 t73.2.1 ([([117,61,49]:List UInt8),([105]:List UInt8),([117,61,53,44,32,105]:List UInt8)])).bind fun t87=>
      (Zil x3_1 id5_1 t87.1.1).bind fun t88=>
      Z6 (
       Qm 1 (
        some ((t88.1,()),(t87.2.1,()))
       )
      ) (
       some ((t88.1,()),(t87.2.1,()))
      )
    else
     bif t27_1==6 then
      Zkp c0_2 x3_1 t4_1 y6 t27_1 (t27_1==6)
     else
      Zkp c0_2 x3_1 t4_1 y6 t27_1 (t27_1==7)
abbrev Qgm:List PE:=[.box 0 71 (Kp) (.u false),.box 3 37 (Zl) (.u false),.box 4 37 (Zl) (.u true),.val 5 (.int .i64) (.u false)]
def Zkn(c0_1:Qe)(x3:Zg)(t4:Zg)(id5:Int):Option ((Zg×Unit)×(Qe×Unit)):=
 (Qa c0_1 (10:Int)).bind fun t27=>
 bif t27.1.1==0 then
  (Wj t27.2.1 (2:Int)).bind fun t33=>
  (Zkd x3 t33.1.1).bind fun t34=>
  Z6 (
   Z6 (
    Qm 1 (
     some ((t34.2.1,()),(t33.2.1,()))
    )
   ) (
    some ((t34.2.1,()),(t33.2.1,()))
   )
  ) (
  Z6 (
   Z6 (
    Qm 1 (
     some ((t34.2.1,()),(t33.2.1,()))
    )
   ) (
    some ((t34.2.1,()),(t33.2.1,()))
   )
  ) (
   Qm 1 (
    some ((t34.2.1,()),(t33.2.1,()))
   )
  )
  )
 else
  bif t27.1.1==1 then
   Zko t27.2.1 x3 t4 id5 x3 t27.1.1 (t27.1.1==1)
  else
   Zko t27.2.1 x3 t4 id5 x3 t27.1.1 (t27.1.1==2)
def Zvc(c0:Qe)(x1:Zg):Option ((Zg×Unit)×(Qe×Unit)):=
 bif decide ((x1.2.2.2.1.length:Int)>(0:Int))then
  (Qa c0 (x1.2.2.2.1.length:Int)).bind fun t21=>
  Zc (0≤t21.1.1∧t21.1.1<x1.2.2.2.1.length)<|
  Zkn t21.2.1 x1 Km (x1.2.2.2.1.getD t21.1.1.toNat Zm).1
 else
  Zkn c0 x1 Km (0:Int)
abbrev Qgh:List PE:=[.box 0 71 (Kp) (.u false),.box 2 37 (Zl) (.u true),.box 3 37 (Zl) (.u false),.val 5 (.int .i64) (.u false)]
def Zmp(c0_1:Qe)(t2:Zg)(x3:Zg)(n5:Int):Nat:=(n5-0).toNat+1
def Zkk:Nat→Qe→Zg→Zg→Int→Option ((Zg×Unit)×(Qe×Unit))
 |0,_,_,_,_=>none
 |N+1,c0_1,t2,x3,n5=>
  bif decide (n5>(0:Int))then
   (Zvc c0_1 x3).bind fun t25=>
   Zkk N t25.2.1 t2 t25.1.1 (IntKind.i64.wrap (n5-1))
  else
   some ((x3,()),(c0_1,()))
def Zu9(c0:Qe):Option ((Zg×Unit)×(Qe×Unit)):=
 (Wj c0 (2:Int)).bind fun t8=>
 (Zdn t8.2.1).bind fun t10=>
 (Zdn t10.2.1).bind fun t12=>
 (Zng t8.1.1 t10.1.1 t12.1.1).bind fun t13=>
 (Qa t12.2.1 (12:Int)).bind fun t17=>
 Zkk (Zmp t17.2.1 Km t13.1 (IntKind.i64.wrap ((2:Int)+t17.1.1))) t17.2.1 Km t13.1 (IntKind.i64.wrap ((2:Int)+t17.1.1))
def Zp6(c0:Qe):Option ((Zg×Unit)×(Qe×Unit)):=
 (Zu9 c0).bind fun t5=>
 (Qa t5.2.1 (20:Int)).bind fun t7=>
 bif t7.1.1==0 then
  (Vq t7.2.1 ([(-1:Int),(3:Int),(7:Int),(256:Int)])).bind fun t12=>
  some (((t5.1.1.1,(t5.1.1.2.1,(t5.1.1.2.2.1,(t5.1.1.2.2.2.1,(t5.1.1.2.2.2.2.1,(t5.1.1.2.2.2.2.2.1,(t5.1.1.2.2.2.2.2.2.1,(t5.1.1.2.2.2.2.2.2.2.1,(t5.1.1.2.2.2.2.2.2.2.2.1,(t5.1.1.2.2.2.2.2.2.2.2.2.1,(t5.1.1.2.2.2.2.2.2.2.2.2.2.1,(t5.1.1.2.2.2.2.2.2.2.2.2.2.2.1,(t5.1.1.2.2.2.2.2.2.2.2.2.2.2.2.1,(t5.1.1.2.2.2.2.2.2.2.2.2.2.2.2.2.1,(t5.1.1.2.2.2.2.2.2.2.2.2.2.2.2.2.2.1,(t5.1.1.2.2.2.2.2.2.2.2.2.2.2.2.2.2.2.1,(t5.1.1.2.2.2.2.2.2.2.2.2.2.2.2.2.2.2.2.1,(t12.1.1,t5.1.1.2.2.2.2.2.2.2.2.2.2.2.2.2.2.2.2.2.2)))))))))))))))))),()),(t12.2.1,()))
 else
  bif t7.1.1==1 then
   (Vq t7.2.1 ([(-1:Int),(1000000:Int),(1000001:Int)])).bind fun t18=>
   some (((t5.1.1.1,(t5.1.1.2.1,(t5.1.1.2.2.1,(t5.1.1.2.2.2.1,(t5.1.1.2.2.2.2.1,(t5.1.1.2.2.2.2.2.1,(t5.1.1.2.2.2.2.2.2.1,(t5.1.1.2.2.2.2.2.2.2.1,(t5.1.1.2.2.2.2.2.2.2.2.1,(t5.1.1.2.2.2.2.2.2.2.2.2.1,(t5.1.1.2.2.2.2.2.2.2.2.2.2.1,(t5.1.1.2.2.2.2.2.2.2.2.2.2.2.1,(t5.1.1.2.2.2.2.2.2.2.2.2.2.2.2.1,(t5.1.1.2.2.2.2.2.2.2.2.2.2.2.2.2.1,(t5.1.1.2.2.2.2.2.2.2.2.2.2.2.2.2.2.1,(t5.1.1.2.2.2.2.2.2.2.2.2.2.2.2.2.2.2.1,(t18.1.1,t5.1.1.2.2.2.2.2.2.2.2.2.2.2.2.2.2.2.2.2))))))))))))))))),()),(t18.2.1,()))
  else
   bif t7.1.1==2 then
    (Vq t7.2.1 ([(-1:Int),(0:Int)])).bind fun t24=>
    some (((t5.1.1.1,(t5.1.1.2.1,(t5.1.1.2.2.1,(t5.1.1.2.2.2.1,((t5.1.1.2.2.2.2.1.1,(t24.1.1,t5.1.1.2.2.2.2.1.2.2)),t5.1.1.2.2.2.2.2))))),()),(t24.2.1,()))
   else
    bif t7.1.1==3 then
     (Vq t7.2.1 ([(0:Int),(1000000:Int),(1000001:Int)])).bind fun t31=>
     some (((t5.1.1.1,(t5.1.1.2.1,(t5.1.1.2.2.1,(t5.1.1.2.2.2.1,(t5.1.1.2.2.2.2.1,(t5.1.1.2.2.2.2.2.1,(t5.1.1.2.2.2.2.2.2.1,(t5.1.1.2.2.2.2.2.2.2.1,(t5.1.1.2.2.2.2.2.2.2.2.1,(t5.1.1.2.2.2.2.2.2.2.2.2.1,(t5.1.1.2.2.2.2.2.2.2.2.2.2.1,(t5.1.1.2.2.2.2.2.2.2.2.2.2.2.1,(t5.1.1.2.2.2.2.2.2.2.2.2.2.2.2.1,(t5.1.1.2.2.2.2.2.2.2.2.2.2.2.2.2.1,(t31.1.1,t5.1.1.2.2.2.2.2.2.2.2.2.2.2.2.2.2.2))))))))))))))),()),(t31.2.1,()))
    else
     some ((t5.1.1,()),(t7.2.1,()))
def Zg8(code0:List Int):Option ((Zg×Unit)×(Unit)):=
 (Zg2 code0).bind fun t4=>
 (Zp6 t4.1).bind fun t5=>
 some ((t5.1.1,()),())
abbrev Qgw:List PE:=[.box 2 37 (Zl) (.u true),.box 4 37 (Zl) (.u false),.box 6 88 (Z2) (.u false)]
def Kl(t2:Zg)(x4:Zg)(s6:Zp):Option ((Zg×Unit)×(Unit)):=
 (Xo x4.2.2.2.1 s6).bind fun t51=>
 some (((x4.1,(x4.2.1,(x4.2.2.1,(t51.1,x4.2.2.2.2)))),()),())
def Zve(code0:List Int):Option ((Zg×Unit)×(Unit)):=
 (Zg2 code0).bind fun t8=>
 (Zp6 t8.1).bind fun t10=>
 bif decide ((t10.1.1.2.2.2.1.length:Int)>(0:Int))then
  (Wj t10.2.1 (3:Int)).bind fun t17=>
  let t18:Bool:=(decide ((t10.1.1.2.2.2.1.length:Int)>(0:Int)))&&t17.1.1
  bif t18 then
   (Qa t17.2.1 (t10.1.1.2.2.2.1.length:Int)).bind fun t23=>
   Zc (0≤t23.1.1∧t23.1.1<t10.1.1.2.2.2.1.length)<|
   (Qa t23.2.1 (3:Int)).bind fun t30=>
   bif t30.1.1==0 then
    Kl Km t10.1.1 ((t10.1.1.2.2.2.1.getD t23.1.1.toNat Zm).1,((t10.1.1.2.2.2.1.getD t23.1.1.toNat Zm).2.1,((t10.1.1.2.2.2.1.getD t23.1.1.toNat Zm).2.2.1,((t10.1.1.2.2.2.1.getD t23.1.1.toNat Zm).2.2.2.1,((t10.1.1.2.2.2.1.getD t23.1.1.toNat Zm).2.2.2.2.1,((t10.1.1.2.2.2.1.getD t23.1.1.toNat Zm).2.2.2.2.2.1,((t10.1.1.2.2.2.1.getD t23.1.1.toNat Zm).2.2.2.2.2.2.1,((t10.1.1.2.2.2.1.getD t23.1.1.toNat Zm).2.2.2.2.2.2.2.1,((t10.1.1.2.2.2.1.getD t23.1.1.toNat Zm).2.2.2.2.2.2.2.2.1,((t10.1.1.2.2.2.1.getD t23.1.1.toNat Zm).2.2.2.2.2.2.2.2.2.1,((t10.1.1.2.2.2.1.getD t23.1.1.toNat Zm).2.2.2.2.2.2.2.2.2.2.1,((t10.1.1.2.2.2.1.getD t23.1.1.toNat Zm).2.2.2.2.2.2.2.2.2.2.2.1,((t10.1.1.2.2.2.1.getD t23.1.1.toNat Zm).2.2.2.2.2.2.2.2.2.2.2.2.1,(!(t10.1.1.2.2.2.1.getD t23.1.1.toNat Zm).2.2.2.2.2.2.2.2.2.2.2.2.2.1,(t10.1.1.2.2.2.1.getD t23.1.1.toNat Zm).2.2.2.2.2.2.2.2.2.2.2.2.2.2))))))))))))))
   else
    bif t30.1.1==1 then
     Kl Km t10.1.1 ((t10.1.1.2.2.2.1.getD t23.1.1.toNat Zm).1,((t10.1.1.2.2.2.1.getD t23.1.1.toNat Zm).2.1,((t10.1.1.2.2.2.1.getD t23.1.1.toNat Zm).2.2.1,((t10.1.1.2.2.2.1.getD t23.1.1.toNat Zm).2.2.2.1,(((t10.1.1.2.2.2.1.getD t23.1.1.toNat Zm).2.2.2.2.1.1,((t10.1.1.2.2.2.1.getD t23.1.1.toNat Zm).2.2.2.2.1.2.1,((t10.1.1.2.2.2.1.getD t23.1.1.toNat Zm).2.2.2.2.1.2.2.1,((t10.1.1.2.2.2.1.getD t23.1.1.toNat Zm).2.2.2.2.1.2.2.2.1,((0:Int),(t10.1.1.2.2.2.1.getD t23.1.1.toNat Zm).2.2.2.2.1.2.2.2.2.2))))),(t10.1.1.2.2.2.1.getD t23.1.1.toNat Zm).2.2.2.2.2)))))
    else
     bif t30.1.1==2 then
      Kl Km t10.1.1 ((t10.1.1.2.2.2.1.getD t23.1.1.toNat Zm).1,((t10.1.1.2.2.2.1.getD t23.1.1.toNat Zm).2.1,(((t10.1.1.2.2.2.1.getD t23.1.1.toNat Zm).2.2.1.1,((t10.1.1.2.2.2.1.getD t23.1.1.toNat Zm).2.2.1.1,(t10.1.1.2.2.2.1.getD t23.1.1.toNat Zm).2.2.1.2.2)),(t10.1.1.2.2.2.1.getD t23.1.1.toNat Zm).2.2.2)))
     else
      Kl Km t10.1.1 (t10.1.1.2.2.2.1.getD t23.1.1.toNat Zm)
  else
   some ((t10.1.1,()),())
 else
  let t18:Bool:=(decide ((t10.1.1.2.2.2.1.length:Int)>(0:Int)))&&false
  bif t18 then
   (Qa t10.2.1 (t10.1.1.2.2.2.1.length:Int)).bind fun t23=>
   Zc (0≤t23.1.1∧t23.1.1<t10.1.1.2.2.2.1.length)<|
   (Qa t23.2.1 (3:Int)).bind fun t30=>
   bif t30.1.1==0 then
    Kl Km t10.1.1 ((t10.1.1.2.2.2.1.getD t23.1.1.toNat Zm).1,((t10.1.1.2.2.2.1.getD t23.1.1.toNat Zm).2.1,((t10.1.1.2.2.2.1.getD t23.1.1.toNat Zm).2.2.1,((t10.1.1.2.2.2.1.getD t23.1.1.toNat Zm).2.2.2.1,((t10.1.1.2.2.2.1.getD t23.1.1.toNat Zm).2.2.2.2.1,((t10.1.1.2.2.2.1.getD t23.1.1.toNat Zm).2.2.2.2.2.1,((t10.1.1.2.2.2.1.getD t23.1.1.toNat Zm).2.2.2.2.2.2.1,((t10.1.1.2.2.2.1.getD t23.1.1.toNat Zm).2.2.2.2.2.2.2.1,((t10.1.1.2.2.2.1.getD t23.1.1.toNat Zm).2.2.2.2.2.2.2.2.1,((t10.1.1.2.2.2.1.getD t23.1.1.toNat Zm).2.2.2.2.2.2.2.2.2.1,((t10.1.1.2.2.2.1.getD t23.1.1.toNat Zm).2.2.2.2.2.2.2.2.2.2.1,((t10.1.1.2.2.2.1.getD t23.1.1.toNat Zm).2.2.2.2.2.2.2.2.2.2.2.1,((t10.1.1.2.2.2.1.getD t23.1.1.toNat Zm).2.2.2.2.2.2.2.2.2.2.2.2.1,(!(t10.1.1.2.2.2.1.getD t23.1.1.toNat Zm).2.2.2.2.2.2.2.2.2.2.2.2.2.1,(t10.1.1.2.2.2.1.getD t23.1.1.toNat Zm).2.2.2.2.2.2.2.2.2.2.2.2.2.2))))))))))))))
   else
    bif t30.1.1==1 then
     Kl Km t10.1.1 ((t10.1.1.2.2.2.1.getD t23.1.1.toNat Zm).1,((t10.1.1.2.2.2.1.getD t23.1.1.toNat Zm).2.1,((t10.1.1.2.2.2.1.getD t23.1.1.toNat Zm).2.2.1,((t10.1.1.2.2.2.1.getD t23.1.1.toNat Zm).2.2.2.1,(((t10.1.1.2.2.2.1.getD t23.1.1.toNat Zm).2.2.2.2.1.1,((t10.1.1.2.2.2.1.getD t23.1.1.toNat Zm).2.2.2.2.1.2.1,((t10.1.1.2.2.2.1.getD t23.1.1.toNat Zm).2.2.2.2.1.2.2.1,((t10.1.1.2.2.2.1.getD t23.1.1.toNat Zm).2.2.2.2.1.2.2.2.1,((0:Int),(t10.1.1.2.2.2.1.getD t23.1.1.toNat Zm).2.2.2.2.1.2.2.2.2.2))))),(t10.1.1.2.2.2.1.getD t23.1.1.toNat Zm).2.2.2.2.2)))))
    else
     bif t30.1.1==2 then
      Kl Km t10.1.1 ((t10.1.1.2.2.2.1.getD t23.1.1.toNat Zm).1,((t10.1.1.2.2.2.1.getD t23.1.1.toNat Zm).2.1,(((t10.1.1.2.2.2.1.getD t23.1.1.toNat Zm).2.2.1.1,((t10.1.1.2.2.2.1.getD t23.1.1.toNat Zm).2.2.1.1,(t10.1.1.2.2.2.1.getD t23.1.1.toNat Zm).2.2.1.2.2)),(t10.1.1.2.2.2.1.getD t23.1.1.toNat Zm).2.2.2)))
     else
      Kl Km t10.1.1 (t10.1.1.2.2.2.1.getD t23.1.1.toNat Zm)
  else
   some ((t10.1.1,()),())
def Zjn(code0:List Int):Option ((Zg×Unit)×(Unit)):=
 (Zve code0).bind fun t4=>
 some ((t4.1.1,()),())
def Zgd(code0:List Int):Option ((Zg×Unit)×(Unit)):=
 (Zg2 code0).bind fun t4=>
 (Zp6 t4.1).bind fun t5=>
 some ((t5.1.1,()),())
def Z3(n0:Int)(low1:Int)(high2:Int):Option (Bool×Unit):=
 some ((decide (low1≤n0))&& (decide (n0≤high2)),())
def Zj2(size0:Int):Option (Bool×Unit):=
 (Z3 size0 (1:Int) (64:Int)).bind fun t4=>
 some (t4.1&& ((bits .and .i64 size0 (IntKind.i64.wrap (size0-1)))==0),())
def Ztf(c0:Zqf):Option (Bool×Unit):=
 (Zj2 c0.1).bind fun t5=>
 (bif t5.1 then(Z3 c0.2.2.1 (1:Int) (4096:Int))else some (false,())).bind fun t9=>
 (bif(t5.1&&t9.1)then(Z3 c0.2.2.2.2.1 (1:Int) (4096:Int))else some (false,())).bind fun t14=>
 (bif((t5.1&&t9.1)&&t14.1)then(Z3 c0.2.1 (1:Int) c0.2.2.1)else some (false,())).bind fun t21=>
 let t22:Bool:=((t5.1&&t9.1)&&t14.1)&&t21.1
 (bif t22 then(Z3 c0.2.2.2.1 (1:Int) c0.2.2.2.2.1)else some (false,())).bind fun t28=>
 (bif(t22&&t28.1)then(Z3 c0.2.2.2.2.2.1 (0:Int) (1000:Int))else some (false,())).bind fun t33=>
 (bif((t22&&t28.1)&&t33.1)then(Z3 c0.2.2.2.2.2.2.1 (0:Int) (1000:Int))else some (false,())).bind fun t38=>
 let t39:Bool:=((t22&&t28.1)&&t33.1)&&t38.1
 (bif t39 then(Z3 c0.2.2.2.2.2.2.2.1 (1:Int) (1000:Int))else some (false,())).bind fun t43=>
 some (t39&&t43.1,())
def Xy(n0:Int):Option (Bool×Unit):=
 (Z3 n0 (0:Int) (4611686018427387903:Int)).bind fun t4=>
 some (t4.1,())
def Zxs(n0:Int):Option (Bool×Unit):=
 (Z3 n0 (0:Int) (255:Int)).bind fun t4=>
 some (!t4.1,())
abbrev Zi5:List PE:=[.val 0 (.slice 3 (.int .i64)) (.u false),.val 1 (.fnc 322) (.u false),.val 7 (.int .i64) (.u false),.val 8 (.int .i64) (.u false)]
def Xl(s0_1:List Int)(f1:Unit)(t7_1:Int)(t8:Int):Nat:=(t7_1-t8).toNat+1
def Xb:Nat→List Int→Unit→Int→Int→Option (Int×Unit)
 |0,_,_,_,_=>none
 |N+1,s0_1,f1,t7_1,t8=>
  bif decide (t8<t7_1)then
   Zc (0≤t8∧t8<s0_1.length)<|
   (Zxs (s0_1.getD t8.toNat (0:Int))).bind fun t16=>
   bif t16.1 then
    some (t8,())
   else
    Xb N s0_1 () t7_1 (IntKind.i64.wrap (t8+1))
  else
   some ((-1:Int),())
def Jd(s0:List Int):Option (Int×Unit):=
 Xb (Xl s0 () (s0.length:Int) (0:Int)) s0 () (s0.length:Int) (0:Int)
def Kj(s0:List Int):Option (Bool×Unit):=
 (Jd s0).bind fun t7=>
 some (decide (t7.1≥(0:Int)),())
def Zwt(r0:Kx):Option (Bool×Unit):=
 (Zj2 r0.1).bind fun t5=>
 let t14:Bool:=(!t5.1)|| ((r0.2.2.2.1.length:Int) !=r0.1)
 (bif t14 then some (false,())else(Kj r0.2.2.2.1)).bind fun t18=>
 bif t14||t18.1 then
  some (false,())
 else
  (Xy r0.2.1).bind fun t22=>
  (bif t22.1 then(Z3 r0.2.2.1 r0.2.1 (min (IntKind.i64.wrap (r0.2.1+r0.1)) (4611686018427387903:Int)))else some (false,())).bind fun t34=>
  some (t22.1&&t34.1,())
def Zuv(r0:Ze):Option (Bool×Unit):=
 some (((decide (r0.1≥(0:Int)))&& (decide (r0.1<r0.2.1)))&& (decide (r0.2.1≤(4611686018427387903:Int))),())
abbrev Qaa:List PE:=[.val 0 (.slice 195 (Zt)) (.u false),.val 5 (.slice 195 (Zt)) (.u false),.val 6 (.int .i64) (.u false),.val 7 (.int .i64) (.u false)]
def Zk5(l0_1:List Ze)(t5:List Ze)(t6_1:Int)(t7:Int):Nat:=(t6_1-t7).toNat+1
def Zhm:Nat→List Ze→List Ze→Int→Int→Option (Bool×Unit)
 |0,_,_,_,_=>none
 |N+1,l0_1,t5,t6_1,t7=>
  bif decide (t7<t6_1)then
   Zc (0≤t7∧t7<t5.length)<|
   (Zuv (t5.getD t7.toNat Zz)).bind fun t13=>
   Zc (((!t13.1)=false→((decide (t7>(0:Int)))=true→(0≤(IntKind.i64.wrap (t7-1))∧(IntKind.i64.wrap (t7-1))<l0_1.length))))<|
   bif(!t13.1)|| ((decide (t7>(0:Int)))&& (decide ((t5.getD t7.toNat Zz).1≤(l0_1.getD (IntKind.i64.wrap (t7-1)).toNat Zz).2.1)))then
    some (false,())
   else
    Zhm N l0_1 t5 t6_1 (IntKind.i64.wrap (t7+1))
  else
   some (true,())
def Wp(l0:List Ze):Option (Bool×Unit):=
 Zhm (Zk5 l0 l0 (l0.length:Int) (0:Int)) l0 l0 (l0.length:Int) (0:Int)
abbrev Zzu:List PE:=[.val 3 (.int .i64) (.u false),.val 9 (.slice 195 (Zt)) (.u false),.val 10 (.int .i64) (.u false),.val 11 (.int .i64) (.u false)]
def Zfm(count3:Int)(t9:List Ze)(t10_1:Int)(t11:Int):Nat:=(t10_1-t11).toNat+1
def Zby:Nat→Int→List Ze→Int→Int→Option (Int×Unit)
 |0,_,_,_,_=>none
 |N+1,count3,t9,t10_1,t11=>
  bif decide (t11<t10_1)then
   Zc (0≤t11∧t11<t9.length)<|
   Zby N (IntKind.i64.wrap (count3+ (IntKind.i64.wrap ((t9.getD t11.toNat Zz).2.1- (t9.getD t11.toNat Zz).1)))) t9 t10_1 (IntKind.i64.wrap (t11+1))
  else
   some (count3,())
def J7(l0:List Ze):Option (Int×Unit):=
 (Wp l0).bind fun t7=>
 bif !t7.1 then
  some ((-1:Int),())
 else
  Zby (Zfm (0:Int) l0 (l0.length:Int) (0:Int)) (0:Int) l0 (l0.length:Int) (0:Int)
def Zcu(l0:List Ze):Option (List Ze×Unit):=
 Zc (([]:List Ze).length+l0.length≤Qp)<|
 some (([]:List Ze)++l0,())
abbrev Z95:List PE:=[.box 3 195 (Zt) (.u false),.val 5 (.slice 195 (Zt)) (.u true),.val 6 (.bool) (.u false),.box 8 195 (Zt) (.u false),.val 20 (.slice 195 (Zt)) (.u false),.val 21 (.int .i64) (.u false),.val 22 (.int .i64) (.u false)]
def Zhk(K1: (Ze×List Ze×Bool×List Ze×Int×Int×Unit)→Option (List Ze×Unit))(r3_1:Ze)(out5_1:List Ze)(placed6_1:Bool)(x8:Ze)(t20_1:List Ze)(t21_2:Int)(t22_1:Int):Option (List Ze×Unit):=
 Zc (out5_1.length+ ([x8]).length≤Qp)<|
 K1 (r3_1,out5_1++ ([x8]),placed6_1,t20_1,t21_2,IntKind.i64.wrap (t22_1+1),())
abbrev Z96:List PE:=[.box 3 195 (Zt) (.u false),.val 5 (.slice 195 (Zt)) (.u true),.val 6 (.bool) (.u false),.val 20 (.slice 195 (Zt)) (.u false),.val 21 (.int .i64) (.u false),.val 22 (.int .i64) (.u false)]
def Zfe(r3:Ze)(out5:List Ze)(placed6:Bool)(t20:List Ze)(t21_1:Int)(t22:Int):Nat:=(t21_1-t22).toNat+1
def Yi:Nat→Ze→List Ze→Bool→List Ze→Int→Int→Option (List Ze×Unit)
 |0,_,_,_,_,_,_=>none
 |N+1,r3,out5,placed6,t20,t21_1,t22=>
  bif decide (t22<t21_1)then
   Zc (0≤t22∧t22<t20.length)<|
   bif decide ((t20.getD t22.toNat Zz).2.1<r3.1)then
    Zc (out5.length+ ([(t20.getD t22.toNat Zz)]).length≤Qp)<|
    Yi N r3 (out5++ ([(t20.getD t22.toNat Zz)])) placed6 t20 t21_1 (IntKind.i64.wrap (t22+1))
   else
    bif decide ((t20.getD t22.toNat Zz).1>r3.2.1)then
     bif !placed6 then
      Zc (out5.length+ ([r3]).length≤Qp)<|
      Zhk (fun v=>Yi N v.1 v.2.1 v.2.2.1 v.2.2.2.1 v.2.2.2.2.1 v.2.2.2.2.2.1) r3 (out5++ ([r3])) true (t20.getD t22.toNat Zz) t20 t21_1 t22
     else
      Zhk (fun v=>Yi N v.1 v.2.1 v.2.2.1 v.2.2.2.1 v.2.2.2.2.1 v.2.2.2.2.2.1) r3 out5 placed6 (t20.getD t22.toNat Zz) t20 t21_1 t22
    else
     Yi N (min r3.1 (t20.getD t22.toNat Zz).1,(max r3.2.1 (t20.getD t22.toNat Zz).2.1,())) out5 placed6 t20 t21_1 (IntKind.i64.wrap (t22+1))
  else
   bif !placed6 then
    Zc (out5.length+ ([r3]).length≤Qp)<|
    some (out5++ ([r3]),())
   else
    some (out5,())
def Zkv(l0:List Ze)(r1:Ze):Option (List Ze×Unit):=
 (Wp l0).bind fun t10=>
 (bif(!t10.1)then some (false,())else(Zuv r1)).bind fun t14=>
 bif(!t10.1)|| (!t14.1)then
  (Zcu l0).bind fun t18=>
  some (t18.1,())
 else
  Yi (Zfe r1 ([]:List Ze) false l0 (l0.length:Int) (0:Int)) r1 ([]:List Ze) false l0 (l0.length:Int) (0:Int)
def Zcv(l0:List Ze)(place1:Int):Option (Bool×Unit):=
 let t12:Int:=IntKind.i64.wrap ((l0.length:Int)- (1:Int))
 Zc (((decide ((l0.length:Int)>(0:Int)))=true→(0≤t12∧t12<l0.length)))<|
 some ((decide ((l0.length:Int)>(0:Int)))&& (decide ((l0.getD t12.toNat Zz).2.1>place1)),())
abbrev Qac:List PE:=[.val 3 (.int .i64) (.u false),.val 9 (.slice 195 (Zt)) (.u true),.val 27 (.slice 195 (Zt)) (.u true),.val 28 (.int .i64) (.u false),.val 29 (.int .i64) (.u false)]
def Zfg(end3_1:Int)(all9:List Ze)(t27_1:List Ze)(t28_1:Int)(t29:Int):Nat:=(t28_1-t29).toNat+1
def Zhp:Nat→Int→List Ze→List Ze→Int→Int→Option (Bool×Unit)
 |0,_,_,_,_,_=>none
 |N+1,end3_1,all9,t27_1,t28_1,t29=>
  bif decide (t29<t28_1)then
   Zc (0≤t29∧t29<t27_1.length)<|
   (Zkv all9 (t27_1.getD t29.toNat Zz)).bind fun t35=>
   Zhp N end3_1 t35.1 t27_1 t28_1 (IntKind.i64.wrap (t29+1))
  else
   (J7 all9).bind fun t38=>
   (bif(t38.1==end3_1)then(Zcv all9 end3_1)else some (false,())).bind fun t44=>
   some ((t38.1==end3_1)&& (!t44.1),())
def Zsm(a0:List Ze)(b1:List Ze)(c2:List Ze)(end3:Int):Option (Bool×Unit):=
 (J7 a0).bind fun t13=>
 (J7 b1).bind fun t15=>
 (J7 c2).bind fun t18=>
 bif(IntKind.i64.wrap ((IntKind.i64.wrap (t13.1+t15.1))+t18.1)) !=end3 then
  some (false,())
 else
  (Zcu a0).bind fun t23=>
  (Zcu b1).bind fun t25=>
  Zc (t25.1.length+c2.length≤Qp)<|
  Zhp (Zfg end3 t23.1 (t25.1++c2) ((t25.1++c2).length:Int) (0:Int)) end3 t23.1 (t25.1++c2) ((t25.1++c2).length:Int) (0:Int)
abbrev Z97:List PE:=[.val 1 (.int .i64) (.u false),.val 14 (.slice 195 (Zt)) (.u false),.val 15 (.int .i64) (.u false),.val 16 (.int .i64) (.u false)]
def Zk4(from1_1:Int)(t14:List Ze)(t15_1:Int)(t16:Int):Nat:=(t15_1-t16).toNat+1
def Zd0:Nat→Int→List Ze→Int→Int→Option (Int×Unit)
 |0,_,_,_,_=>none
 |N+1,from1_1,t14,t15_1,t16=>
  bif decide (t16<t15_1)then
   Zc (0≤t16∧t16<t14.length)<|
   bif(decide ((t14.getD t16.toNat Zz).1≤from1_1))&& (decide (from1_1< (t14.getD t16.toNat Zz).2.1))then
    Zd0 N (t14.getD t16.toNat Zz).2.1 t14 t15_1 (IntKind.i64.wrap (t16+1))
   else
    Zd0 N from1_1 t14 t15_1 (IntKind.i64.wrap (t16+1))
  else
   some (from1_1,())
def Zsi(l0:List Ze)(from1:Int):Option (Int×Unit):=
 (Wp l0).bind fun t8=>
 bif(!t8.1)|| (decide (from1< (0:Int)))then
  some ((-1:Int),())
 else
  Zd0 (Zk4 from1 l0 (l0.length:Int) (0:Int)) from1 l0 (l0.length:Int) (0:Int)
def Zqm(s0:Zs):Option (Int×Unit):=
 bif(s0.2.2.2.2.2.2.1==3)&& (s0.2.1.2.1==s0.2.1.2.2.1)then
  some ((3:Int),())
 else
  bif((s0.2.2.2.2.2.2.1==2)|| (s0.2.2.2.2.2.2.1==3))|| ((s0.2.2.2.2.2.2.1==1)&& (s0.1==2))then
   some ((2:Int),())
  else
   bif(decide (s0.2.2.2.2.2.2.2.1>(0:Int)))|| ((s0.2.2.2.2.2.2.1==1)&& (s0.1==1))then
    some ((1:Int),())
   else
    some ((0:Int),())
abbrev Qab:List PE:=[.box 1 79 (Qc) (.u false),.val 4 (.int .i64) (.u false)]
def Zhn(s1:Zs)(final4:Int):Option (Bool×Unit):=
 (Zsm s1.2.2.1 s1.2.2.2.1 s1.2.2.2.2.1 s1.2.1.2.2.1).bind fun t117=>
 (bif t117.1 then(Zsi s1.2.2.2.2.1 (0:Int))else some ((0:Int),())).bind fun t121=>
 (bif(t117.1&& (t121.1==s1.2.1.2.1))then(Zcv s1.2.2.2.1 s1.2.2.2.2.2.2.2.1)else some (false,())).bind fun t132=>
 let t134:Bool:=(t117.1&& (t121.1==s1.2.1.2.1))&& (!t132.1)
 (bif t134 then(Zcv s1.2.2.2.2.1 s1.2.2.2.2.2.2.2.1)else some (false,())).bind fun t140=>
 let t153:Bool:=((t134&& (!t140.1))&& (s1.2.2.2.2.2.2.2.2.1==0))&& (s1.2.2.2.2.2.1==final4)
 (bif t153 then(Zqm s1)else some ((0:Int),())).bind fun t158=>
 some (t153&& (s1.1==t158.1),())
def Zsk(s0:Zs):Option (Bool×Unit):=
 (Zwt s0.2.1).bind fun t7=>
 (bif(!t7.1)then some (false,())else(Wp s0.2.2.1)).bind fun t12=>
 (bif((!t7.1)|| (!t12.1))then some (false,())else(Wp s0.2.2.2.1)).bind fun t18=>
 let t20:Bool:=((!t7.1)|| (!t12.1))|| (!t18.1)
 (bif t20 then some (false,())else(Wp s0.2.2.2.2.1)).bind fun t24=>
 (bif(t20|| (!t24.1))then some (false,())else(Z3 s0.2.2.2.2.2.2.2.1 (0:Int) s0.2.1.2.2.1)).bind fun t33=>
 let t35:Bool:=(t20|| (!t24.1))|| (!t33.1)
 (bif t35 then some (false,())else(Xy s0.2.2.2.2.2.2.2.2.1)).bind fun t39=>
 (bif(t35|| (!t39.1))then some (false,())else(Z3 s0.2.2.2.2.2.2.1 (0:Int) (3:Int))).bind fun t45=>
 bif(t35|| (!t39.1))|| (!t45.1)then
  some (false,())
 else
  bif(s0.1==4)|| (s0.1==5)then
   some ((((((((s0.2.2.1.length:Int)==(0:Int))&& ((s0.2.2.2.1.length:Int)==(0:Int)))&& ((s0.2.2.2.2.1.length:Int)==(0:Int)))&& (s0.2.1.2.1==s0.2.1.2.2.1))&& (s0.2.2.2.2.2.1==s0.2.2.2.2.2.2.2.1))&& (s0.2.2.2.2.2.2.2.1==s0.2.1.2.2.1))&& (s0.2.2.2.2.2.2.1==0),())
  else
   bif s0.2.2.2.2.2.2.1==0 then
    Zhn s0 (-1:Int)
   else
    Zhn s0 s0.2.1.2.2.1
def Zn9(c0:K5):Option (Bool×Unit):=
 (Xy c0.1).bind fun t5=>
 (bif t5.1 then(Z3 c0.2.1 (0:Int) c0.1)else some (false,())).bind fun t11=>
 (bif(t5.1&&t11.1)then(Z3 c0.2.2.1 (-1:Int) c0.1)else some (false,())).bind fun t18=>
 (bif((t5.1&&t11.1)&&t18.1)then(Z3 c0.2.2.2.1 (-1:Int) c0.1)else some (false,())).bind fun t25=>
 some (((t5.1&&t11.1)&&t18.1)&&t25.1,())
def Zqi(c0:Z0):Option (Int×Unit):=
 some (IntKind.i64.wrap (c0.1+ (c0.2.1.length:Int)),())
abbrev Z98:List PE:=[.val 3 (.int .i64) (.u false),.val 13 (.slice 317 (Qx)) (.u false),.val 14 (.int .i64) (.u false),.val 15 (.int .i64) (.u false)]
def Zff(least3:Int)(t13:List Z0)(t14_1:Int)(t15:Int):Nat:=(t14_1-t15).toNat+1
def Zhl:Nat→Int→List Z0→Int→Int→Option (Bool×Unit)
 |0,_,_,_,_=>none
 |N+1,least3,t13,t14_1,t15=>
  bif decide (t15<t14_1)then
   Zc (0≤t15∧t15<t13.length)<|
   bif((((t13.getD t15.toNat Qv).2.1.length:Int)==(0:Int))|| (decide ((t13.getD t15.toNat Qv).1<least3)))|| (decide ((t13.getD t15.toNat Qv).1>(IntKind.i64.wrap ((4611686018427387903:Int)- ((t13.getD t15.toNat Qv).2.1.length:Int)))))then
    some (false,())
   else
    (Zqi (t13.getD t15.toNat Qv)).bind fun t39=>
    Zhl N (IntKind.i64.wrap (t39.1+1)) t13 t14_1 (IntKind.i64.wrap (t15+1))
  else
   some (true,())
def Zkw(b0:Z4):Option (Bool×Unit):=
 (Xy b0.1).bind fun t8=>
 bif !t8.1 then
  some (false,())
 else
  Zhl (Zff b0.1 b0.2.1 (b0.2.1.length:Int) (0:Int)) b0.1 b0.2.1 (b0.2.1.length:Int) (0:Int)
def Zzv(b0:Z4):Option (Int×Unit):=
 (Zkw b0).bind fun t4=>
 bif(!t4.1)|| ((b0.2.1.length:Int)==(0:Int))then
  some (b0.1,())
 else
  let t19:Int:=IntKind.i64.wrap ((b0.2.1.length:Int)- (1:Int))
  Zc (0≤t19∧t19<b0.2.1.length)<|
  (Zqi (b0.2.1.getD t19.toNat Qv)).bind fun t22=>
  some (t22.1,())
def Zot(b0:Z4):Option (Int×Unit):=
 (Zkw b0).bind fun t4=>
 let t11:Bool:=(!t4.1)|| ((b0.2.1.length:Int)==(0:Int))
 Zc ((t11=false→(0≤(0:Int)∧(0:Int)<b0.2.1.length)))<|
 bif t11|| ((b0.2.1.getD (0:Int).toNat Qv).1 !=b0.1)then
  some ((0:Int),())
 else
  Zc (0≤(0:Int)∧(0:Int)<b0.2.1.length)<|
  some (((b0.2.1.getD (0:Int).toNat Qv).2.1.length:Int),())
def Zxt(b0:Z4):Option (Int×Unit):=
 (Zot b0).bind fun t6=>
 some (IntKind.i64.wrap (b0.1+t6.1),())
abbrev Z3t:List PE:=[.box 1 84 (Q8) (.u false),.val 101 (.bool) (.u false)]
def Vz(r1:Qo)(t101:Bool):Option (Bool×Unit):=
 bif t101 then
  some ((r1.2.2.1==r1.2.2.2.1)&& ((r1.2.1.2.1.length:Int)==(0:Int)),())
 else
  some (false,())
def Zj1(r0:Qo):Option (Bool×Unit):=
 (Zkw r0.2.1).bind fun t6=>
 (bif(!t6.1)then some ((0:Int),())else(Zzv r0.2.1)).bind fun t11=>
 let t15:Bool:=(!t6.1)|| (decide (t11.1>r0.2.2.2.1))
 (bif t15 then some (false,())else(Xy r0.2.2.2.1)).bind fun t19=>
 (bif(t15|| (!t19.1))then some (false,())else(Xy r0.2.2.2.2.1)).bind fun t25=>
 let t27:Bool:=(t15|| (!t19.1))|| (!t25.1)
 (bif(r0.2.2.1 !=(-1:Int))then(bif t27 then some (false,())else(Z3 r0.2.2.1 r0.2.2.2.1 (4611686018427387903:Int)))else some (false,())).bind fun t37=>
 bif t27|| ((r0.2.2.1 !=(-1:Int))&& (!t37.1))then
  some (false,())
 else
  (bif(r0.2.2.1 !=(-1:Int))then(Zxt r0.2.1)else some ((0:Int),())).bind fun t47=>
  let t51:Bool:=(r0.2.2.1 !=(-1:Int))&& (t47.1==r0.2.2.1)
  bif r0.1==0 then
   some ((r0.2.2.1==(-1:Int))&& (r0.2.2.2.2.1==0),())
  else
   bif r0.1==1 then
    some (((r0.2.2.1 !=(-1:Int))&& (!t51))&& (r0.2.2.2.2.1==0),())
   else
    bif r0.1==2 then
     some (t51&& (r0.2.2.2.2.1==0),())
    else
     bif r0.1==3 then
      some ((t51&& (r0.2.2.2.2.1==0))&& ((r0.2.1.2.1.length:Int)==(0:Int)),())
     else
      bif r0.1==4 then
       Vz r0 (r0.1==4)
      else
       Vz r0 (r0.1==5)
def Zob(w0:Kn):Option (Bool×Unit):=
 (Z3 w0.2.1 (1:Int) (4096:Int)).bind fun t5=>
 (bif t5.1 then(Z3 w0.1 (1:Int) w0.2.1)else some (false,())).bind fun t11=>
 (bif(t5.1&&t11.1)then(Z3 w0.2.2.1 (1:Int) (4611686018427387903:Int))else some (false,())).bind fun t16=>
 (bif((t5.1&&t11.1)&&t16.1)then(Z3 w0.2.2.2.1 (0:Int) w0.2.2.1)else some (false,())).bind fun t23=>
 let t24:Bool:=((t5.1&&t11.1)&&t16.1)&&t23.1
 (bif t24 then(Z3 w0.2.2.2.2.1 (0:Int) w0.2.2.2.1)else some (false,())).bind fun t30=>
 let t41:Bool:=(t24&&t30.1)&& (decide (w0.2.2.1≤(IntKind.i64.wrap (w0.2.2.2.2.1+w0.1))))
 (bif t41 then(Z3 w0.2.2.2.2.2.1 (0:Int) (1000000:Int))else some (false,())).bind fun t45=>
 some (t41&&t45.1,())
def Ztv(p0:Xq):Option (Bool×Unit):=
 (Z3 p0.1 (0:Int) (7:Int)).bind fun t5=>
 some (t5.1,())
def Zoa(s0:Zp):Option (Bool×Unit):=
 (Xy s0.1).bind fun t6=>
 (bif(!t6.1)then some (false,())else(Xy s0.2.2.2.2.2.2.2.2.2.2.2.2.1)).bind fun t11=>
 (bif((!t6.1)|| (!t11.1))then some (false,())else(Zsk s0.2.1)).bind fun t17=>
 let t19:Bool:=((!t6.1)|| (!t11.1))|| (!t17.1)
 (bif t19 then some (false,())else(Zn9 s0.2.2.1)).bind fun t23=>
 (bif(t19|| (!t23.1))then some (false,())else(Zj1 s0.2.2.2.1)).bind fun t29=>
 let t31:Bool:=(t19|| (!t23.1))|| (!t29.1)
 (bif t31 then some (false,())else(Zob s0.2.2.2.2.1)).bind fun t35=>
 (bif(t31|| (!t35.1))then some (false,())else(Ztv s0.2.2.2.2.2.1)).bind fun t41=>
 bif(t31|| (!t35.1))|| (!t41.1)then
  some (false,())
 else
  bif(((!s0.2.2.2.2.2.2.1)&& (!s0.2.2.2.2.2.2.2.1))|| (decide (s0.2.1.2.2.2.2.2.2.2.1>s0.2.2.1.2.1)))|| (decide (s0.2.2.2.1.2.2.2.1>s0.2.2.2.2.1.2.2.2.1))then
   some (false,())
  else
   bif((s0.2.2.2.2.2.2.2.2.1&& (s0.2.1.1 !=4))|| (s0.2.2.2.2.2.2.2.2.2.1&& (!s0.2.2.2.2.2.2.2.2.2.2.2.1)))|| ((s0.2.2.2.2.2.2.2.2.2.2.2.2.1 !=0)&& (!s0.2.2.2.2.2.2.2.2.2.2.2.1))then
    some (false,())
   else
    bif(!s0.2.2.2.2.2.2.1)&& (((s0.2.1.1 !=0)|| (s0.2.1.2.1.2.2.1 !=0))|| (s0.2.1.2.2.2.2.2.1 !=(-1:Int)))then
     some (false,())
    else
     some (s0.2.2.2.2.2.2.2.1|| (((s0.2.2.2.1.1==0)&& (s0.2.2.2.1.2.2.2.1==0))&& (!s0.2.2.2.2.2.2.2.2.2.2.2.1)),())
abbrev Z3s:List PE:=[.val 0 (.slice 88 (Z2)) (.u false),.val 5 (.slice 88 (Z2)) (.u false),.val 6 (.int .i64) (.u false),.val 7 (.int .i64) (.u false)]
def Zcf(l0_1:List Zp)(t5:List Zp)(t6_1:Int)(t7:Int):Nat:=(t6_1-t7).toNat+1
def Vy:Nat→List Zp→List Zp→Int→Int→Option (Bool×Unit)
 |0,_,_,_,_=>none
 |N+1,l0_1,t5,t6_1,t7=>
  bif decide (t7<t6_1)then
   Zc (0≤t7∧t7<t5.length)<|
   (bif(decide (t7≥(24:Int)))then some (false,())else(Zoa (t5.getD t7.toNat Zm))).bind fun t16=>
   let t18:Bool:=(decide (t7≥(24:Int)))|| (!t16.1)
   Zc ((t18=false→((decide (t7>(0:Int)))=true→(0≤(IntKind.i64.wrap (t7-1))∧(IntKind.i64.wrap (t7-1))<l0_1.length))))<|
   bif t18|| ((decide (t7>(0:Int)))&& (decide ((l0_1.getD (IntKind.i64.wrap (t7-1)).toNat Zm).1≥(t5.getD t7.toNat Zm).1)))then
    some (false,())
   else
    Vy N l0_1 t5 t6_1 (IntKind.i64.wrap (t7+1))
  else
   some (true,())
def Zct(l0:List Zp):Option (Bool×Unit):=
 Vy (Zcf l0 l0 (l0.length:Int) (0:Int)) l0 l0 (l0.length:Int) (0:Int)
def Zuu(c0:Zk2):Option (Bool×Unit):=
 (Z3 c0.1 (0:Int) (1152921504606846976:Int)).bind fun t5=>
 (bif t5.1 then(Z3 c0.2.1 (0:Int) c0.1)else some (false,())).bind fun t11=>
 (bif(t5.1&&t11.1)then(Z3 c0.2.2.1 (-1:Int) c0.1)else some (false,())).bind fun t18=>
 some ((t5.1&&t11.1)&&t18.1,())
def Zut(a0:K5):Option (Bool×Unit):=
 (Z3 a0.1 (0:Int) (1000:Int)).bind fun t5=>
 (bif t5.1 then(Z3 a0.2.1 a0.1 (1152921504606846976:Int))else some (false,())).bind fun t11=>
 (bif(t5.1&&t11.1)then(Z3 a0.2.2.1 (0:Int) a0.2.1)else some (false,())).bind fun t18=>
 (bif((t5.1&&t11.1)&&t18.1)then(Z3 a0.2.2.2.1 (0:Int) a0.2.2.1)else some (false,())).bind fun t25=>
 some ((((t5.1&&t11.1)&&t18.1)&&t25.1)&& (decide (a0.2.1≤(IntKind.i64.wrap (a0.2.2.2.1+a0.1)))),())
def Zkx(kind0:Int):Option (List UInt8×Unit):=
 bif kind0==4 then
  some (([114,101,115,101,116]:List UInt8),())
 else
  bif kind0==5 then
   some (([115,116,111,112]:List UInt8),())
  else
   bif kind0==8 then
    some (([115,116,114,101,97,109]:List UInt8),())
   else
    bif kind0==16 then
     some (([109,97,120,100,97,116,97]:List UInt8),())
    else
     bif kind0==17 then
      some (([109,97,120,115,116,114,101,97,109,100,97,116,97]:List UInt8),())
     else
      bif kind0==18 then
       some (([109,97,120,115,116,114,101,97,109,115]:List UInt8),())
      else
       bif kind0==20 then
        some (([100,97,116,97,98,108,111,99,107,101,100]:List UInt8),())
       else
        bif kind0==21 then
         some (([115,116,114,101,97,109,100,97,116,97,98,108,111,99,107,101,100]:List UInt8),())
        else
         bif kind0==22 then
          some (([115,116,114,101,97,109,115,98,108,111,99,107,101,100]:List UInt8),())
         else
          some (([]:List UInt8),())
abbrev Zx8:List PE:=[.val 5 (.bool) (.u false)]
def Vf(t5:Bool):Option (Bool×Unit):=
 bif t5 then
  some (true,())
 else
  some (false,())
def Zje(f0:Zh):Option (Bool×Unit):=
 bif f0.1==4 then
  Vf (f0.1==4)
 else
  bif f0.1==5 then
   Vf (f0.1==5)
  else
   bif f0.1==8 then
    Vf (f0.1==8)
   else
    bif f0.1==17 then
     Vf (f0.1==17)
    else
     Vf (f0.1==21)
abbrev Qsk:List PE:=[.box 1 106 (Zu) (.u false),.box 2 106 (Zu) (.u false),.box 3 106 (Zu) (.u false),.val 41 (.bool) (.u false)]
def Zz1(f1_1:Zh)(t2_1:Zh)(out3_1:Zh)(t41:Bool):Option (Zh×Unit):=
 bif t41 then
  some ((out3_1.1,(out3_1.2.1,(out3_1.2.2.1,(out3_1.2.2.2.1,(out3_1.2.2.2.2.1,(out3_1.2.2.2.2.2.1,(f1_1.2.2.2.2.2.2.1,(out3_1.2.2.2.2.2.2.2.1,(f1_1.2.2.2.2.2.2.2.2.1,out3_1.2.2.2.2.2.2.2.2.2))))))))),())
 else
  some ((out3_1.1,(out3_1.2.1,(out3_1.2.2.1,(out3_1.2.2.2.1,(out3_1.2.2.2.2.1,(out3_1.2.2.2.2.2.1,(f1_1.2.2.2.2.2.2.1,out3_1.2.2.2.2.2.2.2))))))),())
abbrev Qsj:List PE:=[.box 1 106 (Zu) (.u false),.box 2 106 (Zu) (.u false),.box 3 106 (Zu) (.u false)]
def Zz0(f1:Zh)(t2:Zh)(out3:Zh):Option (Zh×Unit):=
 bif f1.1==4 then
  some ((out3.1,(out3.2.1,(out3.2.2.1,(out3.2.2.2.1,(out3.2.2.2.2.1,(f1.2.2.2.2.2.1,(out3.2.2.2.2.2.2.1,(f1.2.2.2.2.2.2.2.1,out3.2.2.2.2.2.2.2.2)))))))),())
 else
  bif f1.1==5 then
   some ((out3.1,(out3.2.1,(out3.2.2.1,(out3.2.2.2.1,(out3.2.2.2.2.1,(f1.2.2.2.2.2.1,out3.2.2.2.2.2.2)))))),())
  else
   bif f1.1==8 then
    some ((out3.1,(out3.2.1,(f1.2.2.1,(f1.2.2.2.1,(f1.2.2.2.2.1,out3.2.2.2.2.2))))),())
   else
    bif f1.1==18 then
     Zz1 f1 t2 out3 (f1.1==18)
    else
     Zz1 f1 t2 out3 (f1.1==22)
def Qi7(f0:Zh):Option (Zh×Unit):=
 (Zje f0).bind fun t8=>
 bif t8.1 then
  Zz0 f0 Xk (f0.1,(f0.2.1,((0:Int),(([]:List UInt8),(false,((0:Int),((0:Int),((0:Int),(false,())))))))))
 else
  Zz0 f0 Xk (f0.1,((0:Int),((0:Int),(([]:List UInt8),(false,((0:Int),((0:Int),((0:Int),(false,())))))))))
def Zqk(f0:Zh):Option (Bool×Unit):=
 (Zkx f0.1).bind fun t5=>
 (bif(t5.1==([]:List UInt8))then some (Xk,())else(Qi7 f0)).bind fun t10=>
 let t12:Bool:=(t5.1==([]:List UInt8))|| (!(eqV (Zu) f0 t10.1))
 (bif t12 then some (false,())else(Xy f0.2.1)).bind fun t16=>
 (bif(t12|| (!t16.1))then some (false,())else(Xy f0.2.2.1)).bind fun t22=>
 let t24:Bool:=(t12|| (!t16.1))|| (!t22.1)
 (bif t24 then some (false,())else(Xy f0.2.2.2.2.2.1)).bind fun t28=>
 (bif(t24|| (!t28.1))then some (false,())else(Xy f0.2.2.2.2.2.2.1)).bind fun t34=>
 let t36:Bool:=(t24|| (!t28.1))|| (!t34.1)
 (bif t36 then some (false,())else(Xy f0.2.2.2.2.2.2.2.1)).bind fun t40=>
 bif t36|| (!t40.1)then
  some (false,())
 else
  bif(f0.1==18)|| (f0.1==22)then
   some (decide (f0.2.2.2.2.2.2.1≤(1152921504606846976:Int)),())
  else
   some ((decide ((f0.2.2.2.1.length:Int)≤(400:Int)))&& (decide (f0.2.2.1≤(IntKind.i64.wrap ((4611686018427387903:Int)- (f0.2.2.2.1.length:Int))))),())
def Zql(f0:Zh):Option (Bool×Unit):=
 (Zqk f0).bind fun t4=>
 some (!t4.1,())
abbrev Zae:List PE:=[.val 0 (.slice 106 (Zu)) (.u false),.val 1 (.fnc 115) (.u false),.val 7 (.int .i64) (.u false),.val 8 (.int .i64) (.u false)]
def Q4(s0_1:List Zh)(f1:Unit)(t7_1:Int)(t8:Int):Nat:=(t7_1-t8).toNat+1
def Qf:Nat→List Zh→Unit→Int→Int→Option (Int×Unit)
 |0,_,_,_,_=>none
 |N+1,s0_1,f1,t7_1,t8=>
  bif decide (t8<t7_1)then
   Zc (0≤t8∧t8<s0_1.length)<|
   (Zql (s0_1.getD t8.toNat Xk)).bind fun t16=>
   bif t16.1 then
    some (t8,())
   else
    Qf N s0_1 () t7_1 (IntKind.i64.wrap (t8+1))
  else
   some ((-1:Int),())
def Xn(s0:List Zh):Option (Int×Unit):=
 Qf (Q4 s0 () (s0.length:Int) (0:Int)) s0 () (s0.length:Int) (0:Int)
def Qt(s0:List Zh):Option (Bool×Unit):=
 (Xn s0).bind fun t7=>
 some (decide (t7.1≥(0:Int)),())
abbrev Z3v:List PE:=[.val 0 (.slice 67 (J3)) (.u false),.val 1 (.int .i64) (.u false),.val 7 (.slice 67 (J3)) (.u false),.val 8 (.int .i64) (.u false),.val 9 (.int .i64) (.u false)]
def Zho(l0_1:List Q2)(number1_1:Int)(t7:List Q2)(t8_1:Int)(t9:Int):Nat:=(t8_1-t9).toNat+1
def Zec:Nat→List Q2→Int→List Q2→Int→Int→Option (Bool×Unit)
 |0,_,_,_,_,_=>none
 |N+1,l0_1,number1_1,t7,t8_1,t9=>
  bif decide (t9<t8_1)then
   Zc (0≤t9∧t9<t7.length)<|
   (Z3 (t7.getD t9.toNat Qk).1 (0:Int) (IntKind.i64.wrap (number1_1-1))).bind fun t18=>
   Zc (((!t18.1)=false→((decide (t9>(0:Int)))=true→(0≤(IntKind.i64.wrap (t9-1))∧(IntKind.i64.wrap (t9-1))<l0_1.length))))<|
   let t34:Bool:=(!t18.1)|| ((decide (t9>(0:Int)))&& (decide ((l0_1.getD (IntKind.i64.wrap (t9-1)).toNat Qk).1≥(t7.getD t9.toNat Qk).1)))
   (bif t34 then some (false,())else(Qt (t7.getD t9.toNat Qk).2.1)).bind fun t38=>
   bif t34||t38.1 then
    some (false,())
   else
    Zec N l0_1 number1_1 t7 t8_1 (IntKind.i64.wrap (t9+1))
  else
   some (true,())
def Zt0(l0:List Q2)(number1:Int):Option (Bool×Unit):=
 Zec (Zho l0 number1 l0 (l0.length:Int) (0:Int)) l0 number1 l0 (l0.length:Int) (0:Int)
def Zya(s0:Zp):Option (Int×Unit):=
 some (s0.2.1.2.2.2.2.2.2.2.1,())
abbrev Zqo:List PE:=[.val 1 (.fnc 118) (.u false),.val 5 (.int .i64) (.u false),.val 11 (.slice 88 (Z2)) (.u false),.val 12 (.int .i64) (.u false),.val 13 (.int .i64) (.u false)]
def Xz(number1:Unit)(sum5:Int)(t11:List Zp)(t12_1:Int)(t13:Int):Nat:=(t12_1-t13).toNat+1
def Y5:Nat→Unit→Int→List Zp→Int→Int→Option (Int×Unit)
 |0,_,_,_,_,_=>none
 |N+1,number1,sum5,t11,t12_1,t13=>
  bif decide (t13<t12_1)then
   Zc (0≤t13∧t13<t11.length)<|
   (Zya (t11.getD t13.toNat Zm)).bind fun t20=>
   Y5 N () (min (IntKind.i64.wrap (sum5+t20.1)) (4611686018427387904:Int)) t11 t12_1 (IntKind.i64.wrap (t13+1))
  else
   some (sum5,())
def Zdj(l0:List Zp):Option (Int×Unit):=
 (Zct l0).bind fun t9=>
 bif !t9.1 then
  some ((0:Int),())
 else
  Y5 (Xz () (0:Int) l0 (l0.length:Int) (0:Int)) () (0:Int) l0 (l0.length:Int) (0:Int)
def Zl1(l0:List Zp):Option (Int×Unit):=
 (Zdj l0).bind fun t4=>
 some (t4.1,())
def Zx9(s0:Zp):Option (Int×Unit):=
 some (s0.2.2.2.1.2.2.2.1,())
abbrev Zqn:List PE:=[.val 1 (.fnc 119) (.u false),.val 5 (.int .i64) (.u false),.val 11 (.slice 88 (Z2)) (.u false),.val 12 (.int .i64) (.u false),.val 13 (.int .i64) (.u false)]
def Vl(number1:Unit)(sum5:Int)(t11:List Zp)(t12_1:Int)(t13:Int):Nat:=(t12_1-t13).toNat+1
def Y4:Nat→Unit→Int→List Zp→Int→Int→Option (Int×Unit)
 |0,_,_,_,_,_=>none
 |N+1,number1,sum5,t11,t12_1,t13=>
  bif decide (t13<t12_1)then
   Zc (0≤t13∧t13<t11.length)<|
   (Zx9 (t11.getD t13.toNat Zm)).bind fun t20=>
   Y4 N () (min (IntKind.i64.wrap (sum5+t20.1)) (4611686018427387904:Int)) t11 t12_1 (IntKind.i64.wrap (t13+1))
  else
   some (sum5,())
def Zdi(l0:List Zp):Option (Int×Unit):=
 (Zct l0).bind fun t9=>
 bif !t9.1 then
  some ((0:Int),())
 else
  Y4 (Vl () (0:Int) l0 (l0.length:Int) (0:Int)) () (0:Int) l0 (l0.length:Int) (0:Int)
def Zl0(l0:List Zp):Option (Int×Unit):=
 (Zdi l0).bind fun t4=>
 some (t4.1,())
def J8(c0:Zg):Option (Bool×Unit):=
 (Ztf c0.2.1).bind fun t6=>
 (bif(!t6.1)then some (false,())else(Ztf c0.2.2.1)).bind fun t11=>
 (bif((!t6.1)|| (!t11.1))then some (false,())else(Zct c0.2.2.2.1)).bind fun t17=>
 let t19:Bool:=((!t6.1)|| (!t11.1))|| (!t17.1)
 (bif t19 then some (false,())else(Zn9 c0.2.2.2.2.1)).bind fun t23=>
 (bif(t19|| (!t23.1))then some (false,())else(Zob c0.2.2.2.2.2.1)).bind fun t29=>
 bif(t19|| (!t23.1))|| (!t29.1)then
  some (false,())
 else
  (Zuu c0.2.2.2.2.2.2.1).bind fun t35=>
  (bif(!t35.1)then some (false,())else(Zuu c0.2.2.2.2.2.2.2.1)).bind fun t40=>
  (bif((!t35.1)|| (!t40.1))then some (false,())else(Zut c0.2.2.2.2.2.2.2.2.1)).bind fun t46=>
  let t48:Bool:=((!t35.1)|| (!t40.1))|| (!t46.1)
  (bif t48 then some (false,())else(Zut c0.2.2.2.2.2.2.2.2.2.1)).bind fun t52=>
  bif t48|| (!t52.1)then
   some (false,())
  else
   (Z3 c0.2.2.2.2.2.2.2.2.2.2.2.2.2.1 (-1:Int) (4611686018427387903:Int)).bind fun t58=>
   (bif(!t58.1)then some (false,())else(Z3 c0.2.2.2.2.2.2.2.2.2.2.2.2.2.2.1 (0:Int) (1000000:Int))).bind fun t63=>
   (bif((!t58.1)|| (!t63.1))then some (false,())else(Z3 c0.2.2.2.2.2.2.2.2.2.2.2.2.2.2.2.2.1 (0:Int) (1000000:Int))).bind fun t69=>
   let t71:Bool:=((!t58.1)|| (!t63.1))|| (!t69.1)
   (bif t71 then some (false,())else(Z3 c0.2.2.2.2.2.2.2.2.2.2.2.2.2.2.2.2.2.1 (0:Int) (255:Int))).bind fun t75=>
   bif t71|| (!t75.1)then
    some (false,())
   else
    (Zt0 c0.2.2.2.2.2.2.2.2.2.2.2.2.2.2.2.1 c0.2.2.2.2.2.2.2.2.2.2.2.2.2.2.1).bind fun t82=>
    (bif t82.1 then(Zl1 c0.2.2.2.1)else some ((0:Int),())).bind fun t86=>
    (bif(t82.1&& (decide (t86.1≤c0.2.2.2.2.1.2.1)))then(Zl0 c0.2.2.2.1)else some ((0:Int),())).bind fun t95=>
    some ((t82.1&& (decide (t86.1≤c0.2.2.2.2.1.2.1)))&& (decide (t95.1≤c0.2.2.2.2.2.1.2.2.2.1)),())
def Zlg(x0:Z0):Option (Bool×Unit):=
 (Z3 x0.1 (0:Int) (999999:Int)).bind fun t5=>
 (bif(!t5.1)then some (false,())else(Z3 (x0.2.1.length:Int) (1:Int) (400:Int))).bind fun t11=>
 some ((!t5.1)|| (!t11.1),())
abbrev Wo:List PE:=[.val 0 (.slice 127 (Qx)) (.u false),.val 1 (.fnc 107) (.u false),.val 7 (.int .i64) (.u false),.val 8 (.int .i64) (.u false)]
def Q1(s0_1:List Z0)(f1:Unit)(t7_1:Int)(t8:Int):Nat:=(t7_1-t8).toNat+1
def Qd:Nat→List Z0→Unit→Int→Int→Option (Int×Unit)
 |0,_,_,_,_=>none
 |N+1,s0_1,f1,t7_1,t8=>
  bif decide (t8<t7_1)then
   Zc (0≤t8∧t8<s0_1.length)<|
   (Zlg (s0_1.getD t8.toNat Qv)).bind fun t16=>
   bif t16.1 then
    some (t8,())
   else
    Qd N s0_1 () t7_1 (IntKind.i64.wrap (t8+1))
  else
   some ((-1:Int),())
def Xj(s0:List Z0):Option (Int×Unit):=
 Qd (Q1 s0 () (s0.length:Int) (0:Int)) s0 () (s0.length:Int) (0:Int)
def Q9(s0:List Z0):Option (Bool×Unit):=
 (Xj s0).bind fun t7=>
 some (decide (t7.1≥(0:Int)),())
def Zjz(l0:List Z0):Option (Bool×Unit):=
 (bif(decide ((l0.length:Int)≤(60:Int)))then(Q9 l0)else some (false,())).bind fun t8=>
 some ((decide ((l0.length:Int)≤(60:Int)))&& (!t8.1),())
def Zsj(t0:Xw):Option (Bool×Unit):=
 (Xy t0.1).bind fun t5=>
 some (((!t5.1)|| (decide ((t0.2.2.1.length:Int)>(4000:Int))))|| (decide ((t0.2.2.2.1.length:Int)>(4000:Int))),())
abbrev Zbn:List PE:=[.val 0 (.slice 44 (Wk)) (.u false),.val 1 (.fnc 52) (.u false),.val 7 (.int .i64) (.u false),.val 8 (.int .i64) (.u false)]
def Xe(s0_1:List Xw)(f1:Unit)(t7_1:Int)(t8:Int):Nat:=(t7_1-t8).toNat+1
def Qj:Nat→List Xw→Unit→Int→Int→Option (Int×Unit)
 |0,_,_,_,_=>none
 |N+1,s0_1,f1,t7_1,t8=>
  bif decide (t8<t7_1)then
   Zc (0≤t8∧t8<s0_1.length)<|
   (Zsj (s0_1.getD t8.toNat Zfc)).bind fun t16=>
   bif t16.1 then
    some (t8,())
   else
    Qj N s0_1 () t7_1 (IntKind.i64.wrap (t8+1))
  else
   some ((-1:Int),())
def Xx(s0:List Xw):Option (Int×Unit):=
 Qj (Xe s0 () (s0.length:Int) (0:Int)) s0 () (s0.length:Int) (0:Int)
def Xp(s0:List Xw):Option (Bool×Unit):=
 (Xx s0).bind fun t7=>
 some (decide (t7.1≥(0:Int)),())
def Zws(p0:Z7):Option (Bool×Unit):=
 (J8 p0.1).bind fun t5=>
 (bif t5.1 then(J8 p0.2.1)else some (false,())).bind fun t9=>
 let t21:Bool:=((t5.1&&t9.1)&& (!p0.1.1))&&p0.2.1.1
 (bif t21 then(Zjz p0.2.2.1)else some (false,())).bind fun t25=>
 (bif(t21&&t25.1)then(Zjz p0.2.2.2.1)else some (false,())).bind fun t30=>
 let t37:Bool:=((t21&&t25.1)&&t30.1)&& (decide ((p0.2.2.2.2.1.length:Int)≤(100:Int)))
 (bif t37 then(Xp p0.2.2.2.2.1)else some (false,())).bind fun t41=>
 some (t37&& (!t41.1),())
def Zxr(c0:Zg):Option (Bool×Unit):=
 some (c0.2.2.2.2.2.2.2.2.2.2.2.2.2.2.2.2.2.1 !=0,())
def Z04(n:Int):Option (List UInt8×Unit):=Zc (-9223372036854775808≤n∧n≤9223372036854775807) (some (Go.Lib.itoa n,()))
def Ql(n0:Int):Option (List UInt8×Unit):=
 (Z04 n0).bind fun t4=>
 some (t4.1,())
def Ztu(c0:K5):Option (Int×Unit):=
 (Zn9 c0).bind fun t4=>
 bif !t4.1 then
  some ((0:Int),())
 else
  some (IntKind.i64.wrap (c0.1-c0.2.1),())
def Zzy(w0:Kn):Option (Int×Unit):=
 (Zob w0).bind fun t4=>
 bif !t4.1 then
  some ((0:Int),())
 else
  some (IntKind.i64.wrap (w0.2.2.1-w0.2.2.2.1),())
abbrev Zx7:List PE:=[.val 3 (.int .i64) (.u false),.val 10 (.slice 88 (Z2)) (.u false),.val 11 (.int .i64) (.u false),.val 12 (.int .i64) (.u false)]
def Zlz(sum3:Int)(t10:List Zp)(t11_1:Int)(t12:Int):Nat:=(t11_1-t12).toNat+1
def Zau:Nat→Int→List Zp→Int→Int→Option (Int×Unit)
 |0,_,_,_,_=>none
 |N+1,sum3,t10,t11_1,t12=>
  bif decide (t12<t11_1)then
   Zc (0≤t12∧t12<t10.length)<|
   (J7 (t10.getD t12.toNat Zm).2.1.2.2.2.1).bind fun t20=>
   Zau N (IntKind.i64.wrap (sum3+t20.1)) t10 t11_1 (IntKind.i64.wrap (t12+1))
  else
   some (sum3,())
def Zjc(c0:Zg):Option (Int×Unit):=
 (J8 c0).bind fun t7=>
 bif !t7.1 then
  some ((0:Int),())
 else
  Zau (Zlz (0:Int) c0.2.2.2.1 (c0.2.2.2.1.length:Int) (0:Int)) (0:Int) c0.2.2.2.1 (c0.2.2.2.1.length:Int) (0:Int)
def Zj0(c0:Zg):Option (List UInt8×Unit):=
 (J8 c0).bind fun t5=>
 bif !t5.1 then
  some (([]:List UInt8),())
 else
  (Zxr c0).bind fun t9=>
  bif t9.1 then
   (Ql c0.2.2.2.2.2.2.2.2.2.2.2.2.2.2.2.2.2.1).bind fun t12=>
   Zc (([99,108,111,115,101,100,32]:List UInt8).length+t12.1.length≤Z8)<|
   some (([99,108,111,115,101,100,32]:List UInt8)++t12.1,())
  else
   (Ql (c0.2.2.2.1.length:Int)).bind fun t17=>
   Zc (([115,116,114,101,97,109,115,32]:List UInt8).length+t17.1.length≤Z8)<|
   let t18:List UInt8:=([115,116,114,101,97,109,115,32]:List UInt8)++t17.1
   Zc (t18.length+ ([32,99,114,101,100,105,116,32]:List UInt8).length≤Z8)<|
   let t19:List UInt8:=t18++ ([32,99,114,101,100,105,116,32]:List UInt8)
   (Ztu c0.2.2.2.2.1).bind fun t22=>
   (Ql t22.1).bind fun t23=>
   Zc (t19.length+t23.1.length≤Z8)<|
   Zc ((t19++t23.1).length+ ([32,119,105,110,100,111,119,32]:List UInt8).length≤Z8)<|
   let t25:List UInt8:=(t19++t23.1)++ ([32,119,105,110,100,111,119,32]:List UInt8)
   (Zzy c0.2.2.2.2.2.1).bind fun t28=>
   (Ql t28.1).bind fun t29=>
   Zc (t25.length+t29.1.length≤Z8)<|
   Zc ((t25++t29.1).length+ ([32,112,97,99,107,101,116,115,32]:List UInt8).length≤Z8)<|
   let t31:List UInt8:=(t25++t29.1)++ ([32,112,97,99,107,101,116,115,32]:List UInt8)
   (Ql (c0.2.2.2.2.2.2.2.2.2.2.2.2.2.2.2.1.length:Int)).bind fun t35=>
   Zc (t31.length+t35.1.length≤Z8)<|
   Zc ((t31++t35.1).length+ ([32,102,108,105,103,104,116,32]:List UInt8).length≤Z8)<|
   let t37:List UInt8:=(t31++t35.1)++ ([32,102,108,105,103,104,116,32]:List UInt8)
   (Zjc c0).bind fun t39=>
   (Ql t39.1).bind fun t40=>
   Zc (t37.length+t40.1.length≤Z8)<|
   some (t37++t40.1,())
def Zsl(p0:Z7):Option (List UInt8×Unit):=
 (Zws p0).bind fun t4=>
 bif !t4.1 then
  some (([]:List UInt8),())
 else
  (Zj0 p0.1).bind fun t8=>
  Zc (([99,108,105,101,110,116,32]:List UInt8).length+t8.1.length≤Z8)<|
  let t9:List UInt8:=([99,108,105,101,110,116,32]:List UInt8)++t8.1
  Zc (t9.length+ ([59,32,115,101,114,118,101,114,32]:List UInt8).length≤Z8)<|
  let t10:List UInt8:=t9++ ([59,32,115,101,114,118,101,114,32]:List UInt8)
  (Zj0 p0.2.1).bind fun t13=>
  Zc (t10.length+t13.1.length≤Z8)<|
  Zc ((t10++t13.1).length+ ([59,32,108,101,116,116,101,114,115,32]:List UInt8).length≤Z8)<|
  let t15:List UInt8:=(t10++t13.1)++ ([59,32,108,101,116,116,101,114,115,32]:List UInt8)
  (Ql (p0.2.2.1.length:Int)).bind fun t19=>
  Zc (t15.length+t19.1.length≤Z8)<|
  Zc ((t15++t19.1).length+ ([32]:List UInt8).length≤Z8)<|
  (Ql (p0.2.2.2.1.length:Int)).bind fun t25=>
  Zc (((t15++t19.1)++ ([32]:List UInt8)).length+t25.1.length≤Z8)<|
  some (((t15++t19.1)++ ([32]:List UInt8))++t25.1,())
def Zrd(w0:Kn):Option (Int×Unit):=
 (Jn w0).bind fun t4=>
 bif !t4.1 then
  some ((0:Int),())
 else
  some (IntKind.i64.wrap (w0.2.2.1-w0.2.2.2.1),())
abbrev Zyy:List PE:=[.box 1 37 (Zl) (.u false),.val 3 (.int .i64) (.u false),.val 4 (.int .i64) (.u false)]
def Je(c1:Zg)(n3:Int)(i4:Int):Nat:=((c1.2.2.2.1.length:Int)-i4).toNat+1
def Vg:Nat→Zg→Int→Int→Option (Int×Unit)
 |0,_,_,_=>none
 |N+1,c1,n3,i4=>
  (bif(decide (i4< (c1.2.2.2.1.length:Int)))then(Z5 c1)else some (false,())).bind fun t12=>
  bif(decide (i4< (c1.2.2.2.1.length:Int)))&&t12.1 then
   Zc (0≤i4∧i4<c1.2.2.2.1.length)<|
   (Kz (c1.2.2.2.1.getD i4.toNat Zm).2.1.2.2.2.1).bind fun t24=>
   Vg N c1 (IntKind.i64.wrap (n3+t24.1)) (IntKind.i64.wrap (i4+1))
  else
   some (n3,())
def Zjj(c0:Zg):Option (Int×Unit):=
 Vg (Je c0 (0:Int) (0:Int)) c0 (0:Int) (0:Int)
def Zcw(c0:Zg):Option (List UInt8×Unit):=
 (Z5 c0).bind fun t4=>
 bif !t4.1 then
  some (([]:List UInt8),())
 else
  (Wq c0).bind fun t7=>
  bif t7.1 then
   (Zv c0.2.2.2.2.2.2.2.2.2.2.2.2.2.2.2.2.2.1).bind fun t10=>
   Zc (([99,108,111,115,101,100,32]:List UInt8).length+t10.1.length≤Z8)<|
   some (([99,108,111,115,101,100,32]:List UInt8)++t10.1,())
  else
   (Zv (c0.2.2.2.1.length:Int)).bind fun t15=>
   Zc (([115,116,114,101,97,109,115,32]:List UInt8).length+t15.1.length≤Z8)<|
   let t16:List UInt8:=([115,116,114,101,97,109,115,32]:List UInt8)++t15.1
   Zc (t16.length+ ([32,99,114,101,100,105,116,32]:List UInt8).length≤Z8)<|
   let t17:List UInt8:=t16++ ([32,99,114,101,100,105,116,32]:List UInt8)
   (Zag c0.2.2.2.2.1).bind fun t20=>
   (Zv t20.1).bind fun t21=>
   Zc (t17.length+t21.1.length≤Z8)<|
   Zc ((t17++t21.1).length+ ([32,119,105,110,100,111,119,32]:List UInt8).length≤Z8)<|
   let t23:List UInt8:=(t17++t21.1)++ ([32,119,105,110,100,111,119,32]:List UInt8)
   (Zrd c0.2.2.2.2.2.1).bind fun t26=>
   (Zv t26.1).bind fun t27=>
   Zc (t23.length+t27.1.length≤Z8)<|
   Zc ((t23++t27.1).length+ ([32,112,97,99,107,101,116,115,32]:List UInt8).length≤Z8)<|
   let t29:List UInt8:=(t23++t27.1)++ ([32,112,97,99,107,101,116,115,32]:List UInt8)
   (Zv (c0.2.2.2.2.2.2.2.2.2.2.2.2.2.2.2.1.length:Int)).bind fun t33=>
   Zc (t29.length+t33.1.length≤Z8)<|
   Zc ((t29++t33.1).length+ ([32,102,108,105,103,104,116,32]:List UInt8).length≤Z8)<|
   let t35:List UInt8:=(t29++t33.1)++ ([32,102,108,105,103,104,116,32]:List UInt8)
   (Zjj c0).bind fun t37=>
   (Zv t37.1).bind fun t38=>
   Zc (t35.length+t38.1.length≤Z8)<|
   some (t35++t38.1,())
def Zsy(p0:Z7):Option (List UInt8×Unit):=
 (Zgj p0).bind fun t4=>
 bif !t4.1 then
  some (([]:List UInt8),())
 else
  (Zcw p0.1).bind fun t8=>
  Zc (([99,108,105,101,110,116,32]:List UInt8).length+t8.1.length≤Z8)<|
  let t9:List UInt8:=([99,108,105,101,110,116,32]:List UInt8)++t8.1
  Zc (t9.length+ ([59,32,115,101,114,118,101,114,32]:List UInt8).length≤Z8)<|
  let t10:List UInt8:=t9++ ([59,32,115,101,114,118,101,114,32]:List UInt8)
  (Zcw p0.2.1).bind fun t13=>
  Zc (t10.length+t13.1.length≤Z8)<|
  Zc ((t10++t13.1).length+ ([59,32,108,101,116,116,101,114,115,32]:List UInt8).length≤Z8)<|
  let t15:List UInt8:=(t10++t13.1)++ ([59,32,108,101,116,116,101,114,115,32]:List UInt8)
  (Zv (p0.2.2.1.length:Int)).bind fun t19=>
  Zc (t15.length+t19.1.length≤Z8)<|
  Zc ((t15++t19.1).length+ ([32]:List UInt8).length≤Z8)<|
  (Zv (p0.2.2.2.1.length:Int)).bind fun t25=>
  Zc (((t15++t19.1)++ ([32]:List UInt8)).length+t25.1.length≤Z8)<|
  some (((t15++t19.1)++ ([32]:List UInt8))++t25.1,())
def Zm4(ok0:Bool)(yes1:List UInt8)(no2:List UInt8):Option (List UInt8×Unit):=
 bif ok0 then
  some (yes1,())
 else
  some (no2,())
def Zea(t0:Xw):Option (List UInt8×Unit):=
 (Z3 t0.1 (0:Int) (999999999:Int)).bind fun t6=>
 bif !t6.1 then
  some (([]:List UInt8),())
 else
  (Ql t0.1).bind fun t10=>
  Zc (t10.1.length+ ([32,98,121,32]:List UInt8).length≤Z8)<|
  (Zm4 t0.2.1 ([115,101,114,118,101,114]:List UInt8) ([99,108,105,101,110,116]:List UInt8)).bind fun t14=>
  Zc ((t10.1++ ([32,98,121,32]:List UInt8)).length+t14.1.length≤Z8)<|
  let t15:List UInt8:=(t10.1++ ([32,98,121,32]:List UInt8))++t14.1
  Zc (t15.length+ ([32,119,114,111,116,101,32]:List UInt8).length≤Z8)<|
  let t16:List UInt8:=t15++ ([32,119,114,111,116,101,32]:List UInt8)
  (Ql (t0.2.2.1.length:Int)).bind fun t20=>
  Zc (t16.length+t20.1.length≤Z8)<|
  Zc ((t16++t20.1).length+ ([32,103,111,116,32]:List UInt8).length≤Z8)<|
  let t22:List UInt8:=(t16++t20.1)++ ([32,103,111,116,32]:List UInt8)
  (Ql (t0.2.2.2.1.length:Int)).bind fun t26=>
  Zc (t22.length+t26.1.length≤Z8)<|
  bif t0.2.2.2.2.2.2.1 then
   Zc ((t22++t26.1).length+ ([32,98,114,111,107,101,110]:List UInt8).length≤Z8)<|
   some ((t22++t26.1)++ ([32,98,114,111,107,101,110]:List UInt8),())
  else
   bif t0.2.2.2.2.2.1 then
    Zc ((t22++t26.1).length+ ([32,101,110,100,101,100]:List UInt8).length≤Z8)<|
    some ((t22++t26.1)++ ([32,101,110,100,101,100]:List UInt8),())
   else
    some (t22++t26.1,())
def Zbt(n0:Int):Option (Bool×Unit):=
 (Zx n0 (0:Int) (999999999:Int)).bind fun t4=>
 some (t4.1,())
abbrev Z77:List PE:=[.box 1 44 (Wk) (.u false),.val 3 (.str) (.u false)]
def Zlr(t1:Xw)(s3:List UInt8):Option (List UInt8×Unit):=
 Zc (s3.length+ ([32,119,114,111,116,101,32]:List UInt8).length≤Z8)<|
 let t19:List UInt8:=s3++ ([32,119,114,111,116,101,32]:List UInt8)
 (Zv (t1.2.2.1.length:Int)).bind fun t23=>
 Zc (t19.length+t23.1.length≤Z8)<|
 Zc ((t19++t23.1).length+ ([32,103,111,116,32]:List UInt8).length≤Z8)<|
 let t25:List UInt8:=(t19++t23.1)++ ([32,103,111,116,32]:List UInt8)
 (Zv (t1.2.2.2.1.length:Int)).bind fun t29=>
 Zc (t25.length+t29.1.length≤Z8)<|
 bif t1.2.2.2.2.2.2.1 then
  Zc ((t25++t29.1).length+ ([32,98,114,111,107,101,110]:List UInt8).length≤Z8)<|
  some ((t25++t29.1)++ ([32,98,114,111,107,101,110]:List UInt8),())
 else
  bif t1.2.2.2.2.2.1 then
   Zc ((t25++t29.1).length+ ([32,101,110,100,101,100]:List UInt8).length≤Z8)<|
   some ((t25++t29.1)++ ([32,101,110,100,101,100]:List UInt8),())
  else
   some (t25++t29.1,())
def Ze4(t0:Xw):Option (List UInt8×Unit):=
 (Zbt t0.1).bind fun t6=>
 bif !t6.1 then
  some (([]:List UInt8),())
 else
  (Zv t0.1).bind fun t10=>
  Zc (t10.1.length+ ([32,98,121,32,99,108,105,101,110,116]:List UInt8).length≤Z8)<|
  bif t0.2.1 then
   (Zv t0.1).bind fun t16=>
   Zc (t16.1.length+ ([32,98,121,32,115,101,114,118,101,114]:List UInt8).length≤Z8)<|
   Zlr t0 (t16.1++ ([32,98,121,32,115,101,114,118,101,114]:List UInt8))
  else
   Zlr t0 (t10.1++ ([32,98,121,32,99,108,105,101,110,116]:List UInt8))
abbrev Z3u:List PE:=[.val 3 (.slice 9 (.str)) (.u true),.val 8 (.slice 44 (Wk)) (.u false),.val 9 (.int .i64) (.u false),.val 10 (.int .i64) (.u false)]
def Zcg(out3:List (List UInt8))(t8:List Xw)(t9_1:Int)(t10:Int):Nat:=(t9_1-t10).toNat+1
def Zeb:Nat→List (List UInt8)→List Xw→Int→Int→Option (List (List UInt8)×Unit)
 |0,_,_,_,_=>none
 |N+1,out3,t8,t9_1,t10=>
  bif decide (t10<t9_1)then
   Zc (0≤t10∧t10<t8.length)<|
   (Zea (t8.getD t10.toNat Zfc)).bind fun t16=>
   Zc (out3.length+ ([t16.1]).length≤Qp)<|
   Zeb N (out3++ ([t16.1])) t8 t9_1 (IntKind.i64.wrap (t10+1))
  else
   some (out3,())
def Ztz(p0:Z7):Option (List (List UInt8)×Unit):=
 Zeb (Zcg ([]:List (List UInt8)) p0.2.2.2.2.1 (p0.2.2.2.2.1.length:Int) (0:Int)) ([]:List (List UInt8)) p0.2.2.2.2.1 (p0.2.2.2.2.1.length:Int) (0:Int)
abbrev Z5l:List PE:=[.box 1 41 (Qs) (.u false),.val 3 (.slice 9 (.str)) (.u true),.val 4 (.int .i64) (.u false)]
def Zcp(p1:Z7)(out3:List (List UInt8))(i4:Int):Nat:=((p1.2.2.2.2.1.length:Int)-i4).toNat+1
def Ze5:Nat→Z7→List (List UInt8)→Int→Option (List (List UInt8)×Unit)
 |0,_,_,_=>none
 |N+1,p1,out3,i4=>
  bif decide (i4< (p1.2.2.2.2.1.length:Int))then
   Zc (0≤i4∧i4<p1.2.2.2.2.1.length)<|
   (Ze4 (p1.2.2.2.2.1.getD i4.toNat Zfc)).bind fun t19=>
   Zc (out3.length+ ([t19.1]).length≤Qp)<|
   Ze5 N p1 (out3++ ([t19.1])) (IntKind.i64.wrap (i4+1))
  else
   some (out3,())
def Zua(p0:Z7):Option (List (List UInt8)×Unit):=
 Ze5 (Zcp p0 ([]:List (List UInt8)) (0:Int)) p0 ([]:List (List UInt8)) (0:Int)
abbrev Z60:List PE:=[.val 0 (.slice 9 (.str)) (.u false),.val 1 (.slice 9 (.str)) (.u false),.val 5 (.int .i64) (.u false)]
def Zjf(a0_1:List (List UInt8))(b1_1:List (List UInt8))(i5:Int):Nat:=((a0_1.length:Int)-i5).toNat+1
def Zf3:Nat→List (List UInt8)→List (List UInt8)→Int→Option (Bool×Unit)
 |0,_,_,_=>none
 |N+1,a0_1,b1_1,i5=>
  bif decide (i5< (a0_1.length:Int))then
   Zc (0≤i5∧i5<a0_1.length)<|
   Zc (0≤i5∧i5<b1_1.length)<|
   bif !((a0_1.getD i5.toNat ([]:List UInt8))==(b1_1.getD i5.toNat ([]:List UInt8)))then
    some (false,())
   else
    Zf3 N a0_1 b1_1 (IntKind.i64.wrap (i5+1))
  else
   some (true,())
def Zl4(a0:List (List UInt8))(b1:List (List UInt8)):Option (Bool×Unit):=
 bif(a0.length:Int) !=(b1.length:Int)then
  some (false,())
 else
  Zf3 (Zjf a0 b1 (0:Int)) a0 b1 (0:Int)
def Zr3(a0:Int)(b1:Int):Option (List UInt8×Unit):=
 (Ql a0).bind fun t6=>
 Zc (t6.1.length+ ([47]:List UInt8).length≤Z8)<|
 (Ql b1).bind fun t9=>
 Zc ((t6.1++ ([47]:List UInt8)).length+t9.1.length≤Z8)<|
 some ((t6.1++ ([47]:List UInt8))++t9.1,())
def Zor(c0:Zg):Option (List UInt8×Unit):=
 (J8 c0).bind fun t4=>
 bif !t4.1 then
  some (([]:List UInt8),())
 else
  (Zr3 c0.2.2.2.2.1.2.1 c0.2.2.2.2.1.1).bind fun t12=>
  Zc (([116,111,116,97,108,32]:List UInt8).length+t12.1.length≤Z8)<|
  Zc ((([116,111,116,97,108,32]:List UInt8)++t12.1).length+ ([32,105,110,102,108,111,119,32]:List UInt8).length≤Z8)<|
  let t14:List UInt8:=(([116,111,116,97,108,32]:List UInt8)++t12.1)++ ([32,105,110,102,108,111,119,32]:List UInt8)
  (Zr3 c0.2.2.2.2.2.1.2.2.2.1 c0.2.2.2.2.2.1.2.2.1).bind fun t21=>
  Zc (t14.length+t21.1.length≤Z8)<|
  Zc ((t14++t21.1).length+ ([32,98,105,100,105,32]:List UInt8).length≤Z8)<|
  let t23:List UInt8:=(t14++t21.1)++ ([32,98,105,100,105,32]:List UInt8)
  (Zr3 c0.2.2.2.2.2.2.1.2.1 c0.2.2.2.2.2.2.1.1).bind fun t30=>
  Zc (t23.length+t30.1.length≤Z8)<|
  Zc ((t23++t30.1).length+ ([32,117,110,105,32]:List UInt8).length≤Z8)<|
  let t32:List UInt8:=(t23++t30.1)++ ([32,117,110,105,32]:List UInt8)
  (Zr3 c0.2.2.2.2.2.2.2.1.2.1 c0.2.2.2.2.2.2.2.1.1).bind fun t39=>
  Zc (t32.length+t39.1.length≤Z8)<|
  some (t32++t39.1,())
def Zoz(c0:Zg):Option (List UInt8×Unit):=
 (Z5 c0).bind fun t4=>
 bif !t4.1 then
  some (([]:List UInt8),())
 else
  (Zv c0.2.2.2.2.1.2.1).bind fun t9=>
  Zc (([116,111,116,97,108,32]:List UInt8).length+t9.1.length≤Z8)<|
  Zc ((([116,111,116,97,108,32]:List UInt8)++t9.1).length+ ([47]:List UInt8).length≤Z8)<|
  let t11:List UInt8:=(([116,111,116,97,108,32]:List UInt8)++t9.1)++ ([47]:List UInt8)
  (Zv c0.2.2.2.2.1.1).bind fun t15=>
  Zc (t11.length+t15.1.length≤Z8)<|
  Zc ((t11++t15.1).length+ ([32,105,110,102,108,111,119,32]:List UInt8).length≤Z8)<|
  let t17:List UInt8:=(t11++t15.1)++ ([32,105,110,102,108,111,119,32]:List UInt8)
  (Zv c0.2.2.2.2.2.1.2.2.2.1).bind fun t21=>
  Zc (t17.length+t21.1.length≤Z8)<|
  Zc ((t17++t21.1).length+ ([47]:List UInt8).length≤Z8)<|
  (Zv c0.2.2.2.2.2.1.2.2.1).bind fun t27=>
  Zc (((t17++t21.1)++ ([47]:List UInt8)).length+t27.1.length≤Z8)<|
  let t28:List UInt8:=((t17++t21.1)++ ([47]:List UInt8))++t27.1
  Zc (t28.length+ ([32,98,105,100,105,32]:List UInt8).length≤Z8)<|
  (Zv c0.2.2.2.2.2.2.1.2.1).bind fun t33=>
  Zc ((t28++ ([32,98,105,100,105,32]:List UInt8)).length+t33.1.length≤Z8)<|
  let t34:List UInt8:=(t28++ ([32,98,105,100,105,32]:List UInt8))++t33.1
  Zc (t34.length+ ([47]:List UInt8).length≤Z8)<|
  (Zv c0.2.2.2.2.2.2.1.1).bind fun t39=>
  Zc ((t34++ ([47]:List UInt8)).length+t39.1.length≤Z8)<|
  Zc (((t34++ ([47]:List UInt8))++t39.1).length+ ([32,117,110,105,32]:List UInt8).length≤Z8)<|
  let t41:List UInt8:=((t34++ ([47]:List UInt8))++t39.1)++ ([32,117,110,105,32]:List UInt8)
  (Zv c0.2.2.2.2.2.2.2.1.2.1).bind fun t45=>
  Zc (t41.length+t45.1.length≤Z8)<|
  Zc ((t41++t45.1).length+ ([47]:List UInt8).length≤Z8)<|
  (Zv c0.2.2.2.2.2.2.2.1.1).bind fun t51=>
  Zc (((t41++t45.1)++ ([47]:List UInt8)).length+t51.1.length≤Z8)<|
  some (((t41++t45.1)++ ([47]:List UInt8))++t51.1,())
abbrev Zzs:List PE:=[.box 1 37 (Zl) (.u false),.val 9 (.slice 88 (Z2)) (.u false),.val 10 (.int .i64) (.u false),.val 11 (.int .i64) (.u false)]
def Zno(c1:Zg)(t9:List Zp)(t10_1:Int)(t11:Int):Nat:=(t10_1-t11).toNat+1
def Zbw:Nat→Zg→List Zp→Int→Int→Option (Bool×Unit)
 |0,_,_,_,_=>none
 |N+1,c1,t9,t10_1,t11=>
  bif decide (t11<t10_1)then
   Zc (0≤t11∧t11<t9.length)<|
   bif(t9.getD t11.toNat Zm).2.2.1.2.1 !=(t9.getD t11.toNat Zm).2.1.2.2.2.2.2.2.2.1 then
    some (false,())
   else
    Zbw N c1 t9 t10_1 (IntKind.i64.wrap (t11+1))
  else
   (Zl1 c1.2.2.2.1).bind fun t28=>
   some (c1.2.2.2.2.1.2.1==t28.1,())
def Zlh(c0:Zg):Option (Bool×Unit):=
 (J8 c0).bind fun t6=>
 bif !t6.1 then
  some (false,())
 else
  Zbw (Zno c0 c0.2.2.2.1 (c0.2.2.2.1.length:Int) (0:Int)) c0 c0.2.2.2.1 (c0.2.2.2.1.length:Int) (0:Int)
abbrev Zzt:List PE:=[.box 1 37 (Zl) (.u false),.val 3 (.int .i64) (.u false),.val 10 (.slice 88 (Z2)) (.u false),.val 11 (.int .i64) (.u false),.val 12 (.int .i64) (.u false)]
def Znp(c1:Zg)(read3:Int)(t10:List Zp)(t11_1:Int)(t12:Int):Nat:=(t11_1-t12).toNat+1
def Zbx:Nat→Zg→Int→List Zp→Int→Int→Option (Bool×Unit)
 |0,_,_,_,_,_=>none
 |N+1,c1,read3,t10,t11_1,t12=>
  bif decide (t12<t11_1)then
   Zc (0≤t12∧t12<t10.length)<|
   bif((t10.getD t12.toNat Zm).2.2.2.2.2.2.2.1&& ((t10.getD t12.toNat Zm).2.2.2.2.1.2.2.2.1 !=(t10.getD t12.toNat Zm).2.2.2.1.2.2.2.1))|| (decide ((t10.getD t12.toNat Zm).2.2.2.2.1.2.2.2.2.1< (t10.getD t12.toNat Zm).2.2.2.1.2.1.1))then
    some (false,())
   else
    Zbx N c1 (IntKind.i64.wrap (read3+ (t10.getD t12.toNat Zm).2.2.2.2.1.2.2.2.2.1)) t10 t11_1 (IntKind.i64.wrap (t12+1))
  else
   (Zl0 c1.2.2.2.1).bind fun t48=>
   some ((c1.2.2.2.2.2.1.2.2.2.1==t48.1)&& (c1.2.2.2.2.2.1.2.2.2.2.1==read3),())
def Zli(c0:Zg):Option (Bool×Unit):=
 (J8 c0).bind fun t7=>
 bif !t7.1 then
  some (false,())
 else
  Zbx (Znp c0 (0:Int) c0.2.2.2.1 (c0.2.2.2.1.length:Int) (0:Int)) c0 (0:Int) c0.2.2.2.1 (c0.2.2.2.1.length:Int) (0:Int)
abbrev Qae:List PE:=[.val 1 (.int .i64) (.u false),.val 5 (.slice 195 (Zt)) (.u true),.val 11 (.slice 67 (J3)) (.u false),.val 12 (.int .i64) (.u false),.val 13 (.int .i64) (.u false),.val 18 (.slice 106 (Zu)) (.u false),.val 19 (.int .i64) (.u false),.val 20 (.int .i64) (.u false)]
def Zfh(id1_2:Int)(out5_1:List Ze)(t11_1:List Q2)(t12_2:Int)(t13_1:Int)(t18:List Zh)(t19_1:Int)(t20:Int):Nat:=(t19_1-t20).toNat+1
def Zbc(K1: (Int×List Ze×List Q2×Int×Int×Unit)→Option (List Ze×Unit)):Nat→Int→List Ze→List Q2→Int→Int→List Zh→Int→Int→Option (List Ze×Unit)
 |0,_,_,_,_,_,_,_,_=>none
 |N+1,id1_2,out5_1,t11_1,t12_2,t13_1,t18,t19_1,t20=>
  bif decide (t20<t19_1)then
   Zc (0≤t20∧t20<t18.length)<|
   bif((t18.getD t20.toNat Xk).1==8)&& ((t18.getD t20.toNat Xk).2.1==id1_2)then
    (Zkv out5_1 ((t18.getD t20.toNat Xk).2.2.1,(IntKind.i64.wrap ((t18.getD t20.toNat Xk).2.2.1+ ((t18.getD t20.toNat Xk).2.2.2.1.length:Int)),()))).bind fun t43=>
    Zbc K1 N id1_2 t43.1 t11_1 t12_2 t13_1 t18 t19_1 (IntKind.i64.wrap (t20+1))
   else
    Zbc K1 N id1_2 out5_1 t11_1 t12_2 t13_1 t18 t19_1 (IntKind.i64.wrap (t20+1))
  else
   K1 (id1_2,out5_1,t11_1,t12_2,IntKind.i64.wrap (t13_1+1),())
abbrev Qad:List PE:=[.val 1 (.int .i64) (.u false),.val 5 (.slice 195 (Zt)) (.u true),.val 11 (.slice 67 (J3)) (.u false),.val 12 (.int .i64) (.u false),.val 13 (.int .i64) (.u false)]
def Zrz(id1_1:Int)(out5:List Ze)(t11:List Q2)(t12_1:Int)(t13:Int):Nat:=(t12_1-t13).toNat+1
def Zhq:Nat→Int→List Ze→List Q2→Int→Int→Option (List Ze×Unit)
 |0,_,_,_,_,_=>none
 |N+1,id1_1,out5,t11,t12_1,t13=>
  bif decide (t13<t12_1)then
   Zc (0≤t13∧t13<t11.length)<|
   let t19:Int:=((t11.getD t13.toNat Qk).2.1.length:Int)
   Zbc (fun v=>Zhq N v.1 v.2.1 v.2.2.1 v.2.2.2.1 v.2.2.2.2.1) (Zfh id1_1 out5 t11 t12_1 t13 (t11.getD t13.toNat Qk).2.1 t19 (0:Int)) id1_1 out5 t11 t12_1 t13 (t11.getD t13.toNat Qk).2.1 t19 (0:Int)
  else
   some (out5,())
def Zsn(l0:List Q2)(id1:Int):Option (List Ze×Unit):=
 Zhq (Zrz id1 ([]:List Ze) l0 (l0.length:Int) (0:Int)) id1 ([]:List Ze) l0 (l0.length:Int) (0:Int)
abbrev Zlu:List PE:=[.val 0 (.slice 195 (Zt)) (.u false),.val 1 (.slice 195 (Zt)) (.u false),.val 12 (.int .i64) (.u false),.val 13 (.int .i64) (.u false)]
def Kc(s1_0_1:List Ze)(s2_1_1:List Ze)(t12_1:Int)(t13:Int):Nat:=(t12_1-t13).toNat+1
def Q7:Nat→List Ze→List Ze→Int→Int→Option (Bool×Unit)
 |0,_,_,_,_=>none
 |N+1,s1_0_1,s2_1_1,t12_1,t13=>
  bif decide (t13<t12_1)then
   Zc (0≤t13∧t13<s1_0_1.length)<|
   Zc (0≤t13∧t13<s2_1_1.length)<|
   bif !(eqV (Zt) (s1_0_1.getD t13.toNat Zz) (s2_1_1.getD t13.toNat Zz))then
    some (false,())
   else
    Q7 N s1_0_1 s2_1_1 t12_1 (IntKind.i64.wrap (t13+1))
  else
   some (true,())
def V0(s1_0:List Ze)(s2_1:List Ze):Option (Bool×Unit):=
 bif(s1_0.length:Int) !=(s2_1.length:Int)then
  some (false,())
 else
  Q7 (Kc s1_0 s2_1 (s1_0.length:Int) (0:Int)) s1_0 s2_1 (s1_0.length:Int) (0:Int)
def Zm2(a0:List Ze)(b1:List Ze):Option (Bool×Unit):=
 (V0 a0 b1).bind fun t7=>
 some (t7.1,())
abbrev Z1x:List PE:=[.box 1 37 (Zl) (.u false),.val 9 (.slice 88 (Z2)) (.u false),.val 10 (.int .i64) (.u false),.val 11 (.int .i64) (.u false)]
def Zn8(c1:Zg)(t9:List Zp)(t10_1:Int)(t11:Int):Nat:=(t10_1-t11).toNat+1
def Zc2:Nat→Zg→List Zp→Int→Int→Option (Bool×Unit)
 |0,_,_,_,_=>none
 |N+1,c1,t9,t10_1,t11=>
  bif decide (t11<t10_1)then
   Zc (0≤t11∧t11<t9.length)<|
   let t24:Bool:=((t9.getD t11.toNat Zm).2.1.1 !=4)&& ((t9.getD t11.toNat Zm).2.1.1 !=5)
   (bif t24 then(Zsn c1.2.2.2.2.2.2.2.2.2.2.2.2.2.2.2.1 (t9.getD t11.toNat Zm).1)else some (([]:List Ze),())).bind fun t33=>
   (bif t24 then(Zm2 (t9.getD t11.toNat Zm).2.1.2.2.2.1 t33.1)else some (false,())).bind fun t34=>
   bif t24&& (!t34.1)then
    some (false,())
   else
    Zc2 N c1 t9 t10_1 (IntKind.i64.wrap (t11+1))
  else
   some (true,())
def Zm1(c0:Zg):Option (Bool×Unit):=
 (J8 c0).bind fun t6=>
 bif !t6.1 then
  some (false,())
 else
  Zc2 (Zn8 c0 c0.2.2.2.1 (c0.2.2.2.1.length:Int) (0:Int)) c0 c0.2.2.2.1 (c0.2.2.2.1.length:Int) (0:Int)
def Zos(id0:Int):Option (Bool×Unit):=
 (Xy id0).bind fun t4=>
 some (t4.1,())
def Z1b(id0:Int):Option (Bool×Unit):=
 (Zos id0).bind fun t4=>
 some (t4.1&& ((bits .and .i64 id0 (1:Int))==1),())
def Z99(server0:Bool)(id1:Int):Option (Bool×Unit):=
 (Zos id1).bind fun t6=>
 (bif t6.1 then(Z1b id1)else some (false,())).bind fun t9=>
 some (t6.1&& (t9.1==server0),())
def Zty(s0:Zp):Option (Bool×Unit):=
 some (((!s0.2.2.2.2.2.2.1)|| (s0.2.1.1==3))|| (s0.2.1.1==5),())
def Ztw(r0:Qo):Option (Bool×Unit):=
 (Zj1 r0).bind fun t4=>
 some (t4.1&& ((r0.1==3)|| (r0.1==5)),())
def Ztx(s0:Zp):Option (Bool×Unit):=
 (bif(!s0.2.2.2.2.2.2.2.1)then some (false,())else(Ztw s0.2.2.2.1)).bind fun t9=>
 some ((!s0.2.2.2.2.2.2.2.1)||t9.1,())
def Zwr(s0:Zp):Option (Bool×Unit):=
 (Zoa s0).bind fun t4=>
 (bif t4.1 then(Zty s0)else some (false,())).bind fun t7=>
 (bif(t4.1&&t7.1)then(Ztx s0)else some (false,())).bind fun t11=>
 some ((t4.1&&t7.1)&&t11.1,())
def Zzx(id0:Int):Option (Bool×Unit):=
 (Zos id0).bind fun t4=>
 some (t4.1&& ((bits .and .i64 id0 (2:Int))==2),())
def Zyb(holds0:Bool):Option (Int×Unit):=
 bif holds0 then
  some ((1:Int),())
 else
  some ((0:Int),())
abbrev Z1w:List PE:=[.box 1 37 (Zl) (.u false),.val 3 (.int .i64) (.u false),.val 4 (.int .i64) (.u false),.box 5 138 (.arr 2 (.int .i64)) (.u false),.val 13 (.slice 88 (Z2)) (.u false),.val 14 (.int .i64) (.u false),.val 15 (.int .i64) (.u false)]
def Zn7(c1:Zg)(own3:Int)(peers4:Int)(counted5_1:List Int)(t13:List Zp)(t14_1:Int)(t15:Int):Nat:=(t14_1-t15).toNat+1
def W3:Nat→Zg→Int→Int→List Int→List Zp→Int→Int→Option (Bool×Unit)
 |0,_,_,_,_,_,_,_=>none
 |N+1,c1,own3,peers4,counted5_1,t13,t14_1,t15=>
  bif decide (t15<t14_1)then
   Zc (0≤t15∧t15<t13.length)<|
   (Z99 c1.1 (t13.getD t15.toNat Zm).1).bind fun t23=>
   bif t23.1 then
    W3 N c1 (IntKind.i64.wrap (own3+1)) peers4 counted5_1 t13 t14_1 (IntKind.i64.wrap (t15+1))
   else
    (Zwr (t13.getD t15.toNat Zm)).bind fun t29=>
    bif !((t13.getD t15.toNat Zm).2.2.2.2.2.2.2.2.2.2.2.2.2.1==t29.1)then
     some (false,())
    else
     (Zzx (t13.getD t15.toNat Zm).1).bind fun t35=>
     (Zyb t35.1).bind fun t36=>
     Zc (0≤t36.1∧t36.1<2)<|
     (Zyb (t13.getD t15.toNat Zm).2.2.2.2.2.2.2.2.2.2.2.2.2.1).bind fun t41=>
     Zc (0≤t36.1∧t36.1<2)<|
     W3 N c1 own3 (IntKind.i64.wrap (peers4+1)) (counted5_1.set t36.1.toNat (IntKind.i64.wrap ((counted5_1.getD t36.1.toNat (0:Int))+t41.1))) t13 t14_1 (IntKind.i64.wrap (t15+1))
  else
   some (((own3==(IntKind.i64.wrap (c1.2.2.2.2.2.2.1.2.1+c1.2.2.2.2.2.2.2.1.2.1)))&& (peers4==(IntKind.i64.wrap (c1.2.2.2.2.2.2.2.2.1.2.2.1+c1.2.2.2.2.2.2.2.2.2.1.2.2.1))))&& (eqV (.arr 2 (.int .i64)) counted5_1 ([c1.2.2.2.2.2.2.2.2.1.2.2.2.1,c1.2.2.2.2.2.2.2.2.2.1.2.2.2.1])),())
def Zm0(c0:Zg):Option (Bool×Unit):=
 (J8 c0).bind fun t9=>
 bif !t9.1 then
  some (false,())
 else
  W3 (Zn7 c0 (0:Int) (0:Int) (List.replicate 2 (0:Int)) c0.2.2.2.1 (c0.2.2.2.1.length:Int) (0:Int)) c0 (0:Int) (0:Int) (List.replicate 2 (0:Int)) c0.2.2.2.1 (c0.2.2.2.1.length:Int) (0:Int)
def Zus(c0:Zg):Option (List UInt8×Unit):=
 (J8 c0).bind fun t5=>
 bif !t5.1 then
  some (([102,111,114,109]:List UInt8),())
 else
  (Zlh c0).bind fun t9=>
  bif !t9.1 then
   some (([99,114,101,100,105,116,115]:List UInt8),())
  else
   (Zli c0).bind fun t13=>
   bif !t13.1 then
    some (([119,105,110,100,111,119,115]:List UInt8),())
   else
    (Zm1 c0).bind fun t17=>
    bif !t17.1 then
     some (([102,108,105,103,104,116]:List UInt8),())
    else
     (Zm0 c0).bind fun t21=>
     bif !t21.1 then
      some (([99,111,117,110,116,115]:List UInt8),())
     else
      some (([]:List UInt8),())
def Zqh(c0:Zg):Option (List UInt8×Unit):=
 (Zus c0).bind fun t5=>
 Zc (([102,97,117,108,116,32]:List UInt8).length+t5.1.length≤Z8)<|
 (Zm4 (t5.1==([]:List UInt8)) ([115,111,117,110,100]:List UInt8) (([102,97,117,108,116,32]:List UInt8)++t5.1)).bind fun t10=>
 some (t10.1,())
abbrev Z0m:List PE:=[.box 1 37 (Zl) (.u false),.val 3 (.int .i64) (.u false)]
def Zfo(c1:Zg)(i3:Int):Nat:=((c1.2.2.2.1.length:Int)-i3).toNat+1
def Zb2:Nat→Zg→Int→Option (Bool×Unit)
 |0,_,_=>none
 |N+1,c1,i3=>
  (bif(decide (i3< (c1.2.2.2.1.length:Int)))then(Z5 c1)else some (false,())).bind fun t11=>
  bif(decide (i3< (c1.2.2.2.1.length:Int)))&&t11.1 then
   Zc (0≤i3∧i3<c1.2.2.2.1.length)<|
   Zc (0≤i3∧i3<c1.2.2.2.1.length)<|
   bif(c1.2.2.2.1.getD i3.toNat Zm).2.2.1.2.1 !=(c1.2.2.2.1.getD i3.toNat Zm).2.1.2.2.2.2.2.2.2.1 then
    some (false,())
   else
    Zb2 N c1 (IntKind.i64.wrap (i3+1))
  else
   (Z5 c1).bind fun t31=>
   (bif t31.1 then(Ze2 c1.2.2.2.1)else some ((0:Int),())).bind fun t35=>
   some (t31.1&& (t35.1==c1.2.2.2.2.1.2.1),())
def Zlk(c0:Zg):Option (Bool×Unit):=
 Zb2 (Zfo c0 (0:Int)) c0 (0:Int)
abbrev Z0n:List PE:=[.box 1 37 (Zl) (.u false),.val 3 (.int .i64) (.u false),.val 4 (.int .i64) (.u false)]
def Zfp(c1:Zg)(read3:Int)(i4:Int):Nat:=((c1.2.2.2.1.length:Int)-i4).toNat+1
def Zb3:Nat→Zg→Int→Int→Option (Bool×Unit)
 |0,_,_,_=>none
 |N+1,c1,read3,i4=>
  (bif(decide (i4< (c1.2.2.2.1.length:Int)))then(Z5 c1)else some (false,())).bind fun t13=>
  bif(decide (i4< (c1.2.2.2.1.length:Int)))&&t13.1 then
   Zc (0≤i4∧i4<c1.2.2.2.1.length)<|
   bif((c1.2.2.2.1.getD i4.toNat Zm).2.2.2.2.2.2.2.1&& ((c1.2.2.2.1.getD i4.toNat Zm).2.2.2.2.1.2.2.2.1 !=(c1.2.2.2.1.getD i4.toNat Zm).2.2.2.1.2.2.2.1))|| (decide ((c1.2.2.2.1.getD i4.toNat Zm).2.2.2.2.1.2.2.2.2.1< (c1.2.2.2.1.getD i4.toNat Zm).2.2.2.1.2.1.1))then
    some (false,())
   else
    Zb3 N c1 (IntKind.i64.wrap (read3+ (c1.2.2.2.1.getD i4.toNat Zm).2.2.2.2.1.2.2.2.2.1)) (IntKind.i64.wrap (i4+1))
  else
   (Z5 c1).bind fun t49=>
   (bif t49.1 then(Ze1 c1.2.2.2.1)else some ((0:Int),())).bind fun t53=>
   some ((t49.1&& (t53.1==c1.2.2.2.2.2.1.2.2.2.1))&& (read3==c1.2.2.2.2.2.1.2.2.2.2.1),())
def Zll(c0:Zg):Option (Bool×Unit):=
 Zb3 (Zfp c0 (0:Int) (0:Int)) c0 (0:Int) (0:Int)
abbrev Z5s:List PE:=[.val 1 (.int .i64) (.u false),.box 2 37 (Zl) (.u false),.val 5 (.slice 195 (Zt)) (.u true),.val 6 (.int .i64) (.u false),.val 7 (.int .i64) (.u false)]
def Zjx(K1: (Int×Zg×List Ze×Int×Unit)→Option (List Ze×Unit))(K2: (Int×Zg×List Ze×Int×Int×Unit)→Option (List Ze×Unit))(id1_3:Int)(c2_2:Zg)(out5_2:List Ze)(i6_2:Int)(k7_1:Int):Option (List Ze×Unit):=
 K2 (id1_3,c2_2,out5_2,i6_2,IntKind.i64.wrap (k7_1+1),())
abbrev Z5u:List PE:=[.val 1 (.int .i64) (.u false),.box 2 37 (Zl) (.u false),.val 5 (.slice 195 (Zt)) (.u true),.val 6 (.int .i64) (.u false),.val 7 (.int .i64) (.u false)]
def Zcq(id1_2:Int)(c2_1:Zg)(out5_1:List Ze)(i6_1:Int)(k7:Int):Nat:=(((c2_1.2.2.2.2.2.2.2.2.2.2.2.2.2.2.2.1.getD i6_1.toNat Qk).2.1.length:Int)-k7).toNat+1
def V8(K1: (Int×Zg×List Ze×Int×Unit)→Option (List Ze×Unit)):Nat→Int→Zg→List Ze→Int→Int→Option (List Ze×Unit)
 |0,_,_,_,_,_=>none
 |N+1,id1_2,c2_1,out5_1,i6_1,k7=>
  Zc (0≤i6_1∧i6_1<c2_1.2.2.2.2.2.2.2.2.2.2.2.2.2.2.2.1.length)<|
  bif decide (k7< ((c2_1.2.2.2.2.2.2.2.2.2.2.2.2.2.2.2.1.getD i6_1.toNat Qk).2.1.length:Int))then
   Zc (0≤i6_1∧i6_1<c2_1.2.2.2.2.2.2.2.2.2.2.2.2.2.2.2.1.length)<|
   Zc (0≤k7∧k7< (c2_1.2.2.2.2.2.2.2.2.2.2.2.2.2.2.2.1.getD i6_1.toNat Qk).2.1.length)<|
   let t36:Zh:=(c2_1.2.2.2.2.2.2.2.2.2.2.2.2.2.2.2.1.getD i6_1.toNat Qk).2.1.getD k7.toNat Xk
   bif((t36.1==8)&& (t36.2.1==id1_2))&& (!(t36.2.2.2.1==([]:List UInt8)))then
    (Jm out5_1 (t36.2.2.1,(IntKind.i64.wrap (t36.2.2.1+ (t36.2.2.2.1.length:Int)),()))).bind fun t61=>
    Zjx K1 (fun v=>V8 K1 N v.1 v.2.1 v.2.2.1 v.2.2.2.1 v.2.2.2.2.1) id1_2 c2_1 t61.1 i6_1 k7
   else
    Zjx K1 (fun v=>V8 K1 N v.1 v.2.1 v.2.2.1 v.2.2.2.1 v.2.2.2.2.1) id1_2 c2_1 out5_1 i6_1 k7
  else
   K1 (id1_2,c2_1,out5_1,IntKind.i64.wrap (i6_1+1),())
abbrev Z5t:List PE:=[.val 1 (.int .i64) (.u false),.box 2 37 (Zl) (.u false),.val 5 (.slice 195 (Zt)) (.u true),.val 6 (.int .i64) (.u false)]
def Ziv(id1_1:Int)(c2:Zg)(out5:List Ze)(i6:Int):Nat:=((c2.2.2.2.2.2.2.2.2.2.2.2.2.2.2.2.1.length:Int)-i6).toNat+1
def Zfb:Nat→Int→Zg→List Ze→Int→Option (List Ze×Unit)
 |0,_,_,_,_=>none
 |N+1,id1_1,c2,out5,i6=>
  bif decide (i6< (c2.2.2.2.2.2.2.2.2.2.2.2.2.2.2.2.1.length:Int))then
   V8 (fun v=>Zfb N v.1 v.2.1 v.2.2.1 v.2.2.2.1) (Zcq id1_1 c2 out5 i6 (0:Int)) id1_1 c2 out5 i6 (0:Int)
  else
   some (out5,())
def Zpf(c0:Zg)(id1:Int):Option (List Ze×Unit):=
 Zfb (Ziv id1 c0 ([]:List Ze) (0:Int)) id1 c0 ([]:List Ze) (0:Int)
abbrev Z2p:List PE:=[.val 0 (.slice 195 (Zt)) (.u false),.val 1 (.slice 195 (Zt)) (.u false),.val 5 (.int .i64) (.u false)]
def Zbp(a0_1:List Ze)(b1_1:List Ze)(i5:Int):Nat:=((a0_1.length:Int)-i5).toNat+1
def Zc9:Nat→List Ze→List Ze→Int→Option (Bool×Unit)
 |0,_,_,_=>none
 |N+1,a0_1,b1_1,i5=>
  bif decide (i5< (a0_1.length:Int))then
   Zc (0≤i5∧i5<a0_1.length)<|
   Zc (0≤i5∧i5<b1_1.length)<|
   bif !(eqV (Zt) (a0_1.getD i5.toNat Zz) (b1_1.getD i5.toNat Zz))then
    some (false,())
   else
    Zc9 N a0_1 b1_1 (IntKind.i64.wrap (i5+1))
  else
   some (true,())
def Znc(a0:List Ze)(b1:List Ze):Option (Bool×Unit):=
 bif(a0.length:Int) !=(b1.length:Int)then
  some (false,())
 else
  Zc9 (Zbp a0 b1 (0:Int)) a0 b1 (0:Int)
abbrev Z2d:List PE:=[.box 1 37 (Zl) (.u false),.val 3 (.int .i64) (.u false)]
def Zgz(c1:Zg)(i3:Int):Nat:=((c1.2.2.2.1.length:Int)-i3).toNat+1
def Zc5:Nat→Zg→Int→Option (Bool×Unit)
 |0,_,_=>none
 |N+1,c1,i3=>
  (bif(decide (i3< (c1.2.2.2.1.length:Int)))then(Z5 c1)else some (false,())).bind fun t12=>
  bif(decide (i3< (c1.2.2.2.1.length:Int)))&&t12.1 then
   Zc (0≤i3∧i3<c1.2.2.2.1.length)<|
   let t24:Bool:=decide ((c1.2.2.2.1.getD i3.toNat Zm).2.1.1< (4:Int))
   (bif t24 then(Zpf c1 (c1.2.2.2.1.getD i3.toNat Zm).1)else some (([]:List Ze),())).bind fun t32=>
   (bif t24 then(Znc (c1.2.2.2.1.getD i3.toNat Zm).2.1.2.2.2.1 t32.1)else some (false,())).bind fun t33=>
   bif t24&& (!t33.1)then
    some (false,())
   else
    Zc5 N c1 (IntKind.i64.wrap (i3+1))
  else
   (Z5 c1).bind fun t37=>
   some (t37.1,())
def Zm9(c0:Zg):Option (Bool×Unit):=
 Zc5 (Zgz c0 (0:Int)) c0 (0:Int)
abbrev Z2b:List PE:=[.box 1 37 (Zl) (.u false),.val 3 (.int .i64) (.u false),.val 4 (.int .i64) (.u false),.val 5 (.int .i64) (.u false),.val 6 (.int .i64) (.u false)]
def Yv(K1: (Zg×Int×Int×Int×Int×Unit)→Option (Bool×Unit))(c1_1:Zg)(own3_1:Int)(bidi4_1:Int)(uni5_1:Int)(i6_1:Int):Option (Bool×Unit):=
 K1 (c1_1,own3_1,bidi4_1,uni5_1,IntKind.i64.wrap (i6_1+1),())
abbrev Z2c:List PE:=[.box 1 37 (Zl) (.u false),.val 3 (.int .i64) (.u false),.val 4 (.int .i64) (.u false),.val 5 (.int .i64) (.u false),.val 6 (.int .i64) (.u false)]
def Zgy(c1:Zg)(own3:Int)(bidi4:Int)(uni5:Int)(i6:Int):Nat:=((c1.2.2.2.1.length:Int)-i6).toNat+1
def Kr:Nat→Zg→Int→Int→Int→Int→Option (Bool×Unit)
 |0,_,_,_,_,_=>none
 |N+1,c1,own3,bidi4,uni5,i6=>
  (bif(decide (i6< (c1.2.2.2.1.length:Int)))then(Z5 c1)else some (false,())).bind fun t15=>
  bif(decide (i6< (c1.2.2.2.1.length:Int)))&&t15.1 then
   Zc (0≤i6∧i6<c1.2.2.2.1.length)<|
   (Zer c1.1 (c1.2.2.2.1.getD i6.toNat Zm).1).bind fun t29=>
   bif t29.1 then
    Yv (fun v=>Kr N v.1 v.2.1 v.2.2.1 v.2.2.2.1 v.2.2.2.2.1) c1 (IntKind.i64.wrap (own3+1)) bidi4 uni5 i6
   else
    (Zme (c1.2.2.2.1.getD i6.toNat Zm)).bind fun t36=>
    bif !((c1.2.2.2.1.getD i6.toNat Zm).2.2.2.2.2.2.2.2.2.2.2.2.2.1==t36.1)then
     some (false,())
    else
     (bif(c1.2.2.2.1.getD i6.toNat Zm).2.2.2.2.2.2.2.2.2.2.2.2.2.1 then(Vv (c1.2.2.2.1.getD i6.toNat Zm).1)else some (false,())).bind fun t44=>
     bif(c1.2.2.2.1.getD i6.toNat Zm).2.2.2.2.2.2.2.2.2.2.2.2.2.1&&t44.1 then
      Yv (fun v=>Kr N v.1 v.2.1 v.2.2.1 v.2.2.2.1 v.2.2.2.2.1) c1 own3 bidi4 (IntKind.i64.wrap (uni5+1)) i6
     else
      bif(c1.2.2.2.1.getD i6.toNat Zm).2.2.2.2.2.2.2.2.2.2.2.2.2.1 then
       Yv (fun v=>Kr N v.1 v.2.1 v.2.2.1 v.2.2.2.1 v.2.2.2.2.1) c1 own3 (IntKind.i64.wrap (bidi4+1)) uni5 i6
      else
       Yv (fun v=>Kr N v.1 v.2.1 v.2.2.1 v.2.2.2.1 v.2.2.2.2.1) c1 own3 bidi4 uni5 i6
  else
   (Z5 c1).bind fun t54=>
   some ((((t54.1&& (own3==(IntKind.i64.wrap (c1.2.2.2.2.2.2.1.2.1+c1.2.2.2.2.2.2.2.1.2.1))))&& ((IntKind.i64.wrap ((c1.2.2.2.1.length:Int)-own3))==(IntKind.i64.wrap (c1.2.2.2.2.2.2.2.2.1.2.2.1+c1.2.2.2.2.2.2.2.2.2.1.2.2.1))))&& (bidi4==c1.2.2.2.2.2.2.2.2.1.2.2.2.1))&& (uni5==c1.2.2.2.2.2.2.2.2.2.1.2.2.2.1),())
def Zm8(c0:Zg):Option (Bool×Unit):=
 Kr (Zgy c0 (0:Int) (0:Int) (0:Int) (0:Int)) c0 (0:Int) (0:Int) (0:Int) (0:Int)
def Zu3(c0:Zg):Option (List UInt8×Unit):=
 (Z5 c0).bind fun t5=>
 bif !t5.1 then
  some (([102,111,114,109]:List UInt8),())
 else
  (Zlk c0).bind fun t9=>
  bif !t9.1 then
   some (([99,114,101,100,105,116,115]:List UInt8),())
  else
   (Zll c0).bind fun t13=>
   bif !t13.1 then
    some (([119,105,110,100,111,119,115]:List UInt8),())
   else
    (Zm9 c0).bind fun t17=>
    bif !t17.1 then
     some (([102,108,105,103,104,116]:List UInt8),())
    else
     (Zm8 c0).bind fun t21=>
     bif !t21.1 then
      some (([99,111,117,110,116,115]:List UInt8),())
     else
      some (([]:List UInt8),())
def Zq7(c0:Zg):Option (List UInt8×Unit):=
 (Zu3 c0).bind fun t5=>
 bif t5.1==([]:List UInt8)then
  some (([115,111,117,110,100]:List UInt8),())
 else
  Zc (([102,97,117,108,116,32]:List UInt8).length+t5.1.length≤Z8)<|
  some (([102,97,117,108,116,32]:List UInt8)++t5.1,())
def Zzz(f0:Zh):Option (Bool×Unit):=
 some (((((decide (f0.2.1≤(999999999:Int)))&& (decide (f0.2.2.1≤(999999999:Int))))&& (decide (f0.2.2.2.2.2.1≤(999999999:Int))))&& (decide (f0.2.2.2.2.2.2.1≤(999999999:Int))))&& (decide (f0.2.2.2.2.2.2.2.1≤(999999999:Int))),())
abbrev Z6z:List PE:=[.val 0 (.str) (.u false),.val 3 (.slice 5 (.int .u8)) (.u true),.val 4 (.int .i64) (.u false)]
def Zjd(s0_1:List UInt8)(out3:List Int)(i4:Int):Nat:=((s0_1.length:Int)-i4).toNat+1
def Zf1:Nat→List UInt8→List Int→Int→Option (List UInt8×Unit)
 |0,_,_,_=>none
 |N+1,s0_1,out3,i4=>
  bif decide (i4< (s0_1.length:Int))then
   Zc (0≤i4∧i4<s0_1.length)<|
   Zc ((16:Int)≠0)<|
   let t16:Int:=IntKind.u8.wrap (Int.tdiv ((s0_1.getD i4.toNat 0).toNat:Int) (16:Int))
   Zc (0≤t16∧t16< ([48,49,50,51,52,53,54,55,56,57,97,98,99,100,101,102]:List UInt8).length)<|
   Zc (0≤i4∧i4<s0_1.length)<|
   Zc ((16:Int)≠0)<|
   let t21:Int:=Int.tmod ((s0_1.getD i4.toNat 0).toNat:Int) (16:Int)
   Zc (0≤t21∧t21< ([48,49,50,51,52,53,54,55,56,57,97,98,99,100,101,102]:List UInt8).length)<|
   let t23:List Int:=[((([48,49,50,51,52,53,54,55,56,57,97,98,99,100,101,102]:List UInt8).getD t16.toNat 0).toNat:Int),((([48,49,50,51,52,53,54,55,56,57,97,98,99,100,101,102]:List UInt8).getD t21.toNat 0).toNat:Int)]
   Zc (out3.length+t23.length≤Qp)<|
   Zf1 N s0_1 (out3++t23) (IntKind.i64.wrap (i4+1))
  else
   some (Ws out3,())
def Zqj(s0:List UInt8):Option (List UInt8×Unit):=
 Zf1 (Zjd s0 ([]:List Int) (0:Int)) s0 ([]:List Int) (0:Int)
def Zjy(l:List (List UInt8))(sep:List UInt8):Option (List UInt8×Unit):=Zc (l.length≤140737488355328∧(Go.Lib.join l sep).length≤140737488355328) (some (Go.Lib.join l sep,()))
abbrev Z10:List PE:=[.val 3 (.slice 9 (.str)) (.u true)]
def Zc3(words3_2:List (List UInt8)):Option (List UInt8×Unit):=
 (Zjy words3_2 ([32]:List UInt8)).bind fun t83=>
 some (t83.1,())
abbrev Z1z:List PE:=[.box 1 106 (Zu) (.u false),.val 3 (.slice 9 (.str)) (.u true)]
def J4(f1_1:Zh)(words3_1:List (List UInt8)):Option (List UInt8×Unit):=
 bif(f1_1.1==18)|| (f1_1.1==22)then
  (Zm4 f1_1.2.2.2.2.2.2.2.2.1 ([117,110,105]:List UInt8) ([98,105,100,105]:List UInt8)).bind fun t79=>
  Zc (words3_1.length+ ([t79.1]).length≤Qp)<|
  Zc3 (words3_1++ ([t79.1]))
 else
  Zc3 words3_1
abbrev Z1y:List PE:=[.box 1 106 (Zu) (.u false),.val 3 (.slice 9 (.str)) (.u true)]
def Zg6(f1:Zh)(words3:List (List UInt8)):Option (List UInt8×Unit):=
 bif f1.1==4 then
  (Ql f1.2.2.2.2.2.1).bind fun t37=>
  (Ql f1.2.2.2.2.2.2.2.1).bind fun t40=>
  Zc (words3.length+ ([t37.1,t40.1]).length≤Qp)<|
  J4 f1 (words3++ ([t37.1,t40.1]))
 else
  bif f1.1==5 then
   (Ql f1.2.2.2.2.2.1).bind fun t48=>
   Zc (words3.length+ ([t48.1]).length≤Qp)<|
   J4 f1 (words3++ ([t48.1]))
  else
   bif f1.1==8 then
    (Ql f1.2.2.1).bind fun t56=>
    (Zqj f1.2.2.2.1).bind fun t59=>
    Zc (([120]:List UInt8).length+t59.1.length≤Z8)<|
    Zc (words3.length+ ([t56.1,(([120]:List UInt8)++t59.1)]).length≤Qp)<|
    let t62:List (List UInt8):=words3++ ([t56.1,(([120]:List UInt8)++t59.1)])
    bif f1.2.2.2.2.1 then
     Zc (t62.length+ ([([102,105,110]:List UInt8)]).length≤Qp)<|
     J4 f1 (t62++ ([([102,105,110]:List UInt8)]))
    else
     J4 f1 t62
   else
    (Ql f1.2.2.2.2.2.2.1).bind fun t29=>
    Zc (words3.length+ ([t29.1]).length≤Qp)<|
    J4 f1 (words3++ ([t29.1]))
def Zd1(f0:Zh):Option (List UInt8×Unit):=
 (Zqk f0).bind fun t5=>
 (bif(!t5.1)then some (false,())else(Zzz f0)).bind fun t9=>
 bif(!t5.1)|| (!t9.1)then
  some (([]:List UInt8),())
 else
  (Zkx f0.1).bind fun t14=>
  (Zje f0).bind fun t17=>
  bif t17.1 then
   (Ql f0.2.1).bind fun t21=>
   Zc (([t14.1]).length+ ([t21.1]).length≤Qp)<|
   Zg6 f0 (([t14.1])++ ([t21.1]))
  else
   Zg6 f0 ([t14.1])
def Ztg(s0:List UInt8):Option (List UInt8×Unit):=
 (Zm4 (!(s0==([]:List UInt8))) s0 ([110,111,110,101]:List UInt8)).bind fun t6=>
 some (t6.1,())
abbrev Zzw:List PE:=[.val 3 (.slice 9 (.str)) (.u true),.val 7 (.slice 106 (Zu)) (.u false),.val 8 (.int .i64) (.u false),.val 9 (.int .i64) (.u false)]
def Zfn(out3:List (List UInt8))(t7:List Zh)(t8_1:Int)(t9:Int):Nat:=(t8_1-t9).toNat+1
def Wb:Nat→List (List UInt8)→List Zh→Int→Int→Option (List UInt8×Unit)
 |0,_,_,_,_=>none
 |N+1,out3,t7,t8_1,t9=>
  bif decide (t9<t8_1)then
   Zc (0≤t9∧t9<t7.length)<|
   (Zd1 (t7.getD t9.toNat Xk)).bind fun t15=>
   Zc (out3.length+ ([t15.1]).length≤Qp)<|
   Wb N (out3++ ([t15.1])) t7 t8_1 (IntKind.i64.wrap (t9+1))
  else
   (Zjy out3 ([59,32]:List UInt8)).bind fun t20=>
   (Ztg t20.1).bind fun t21=>
   some (t21.1,())
def Zf2(l0:List Zh):Option (List UInt8×Unit):=
 Wb (Zfn ([]:List (List UInt8)) l0 (l0.length:Int) (0:Int)) ([]:List (List UInt8)) l0 (l0.length:Int) (0:Int)
abbrev Z11:List PE:=[.val 3 (.slice 9 (.str)) (.u true),.val 12 (.slice 67 (J3)) (.u false),.val 13 (.int .i64) (.u false),.val 14 (.int .i64) (.u false)]
def Zoc(out3:List (List UInt8))(t12:List Q2)(t13_1:Int)(t14:Int):Nat:=(t13_1-t14).toNat+1
def Zc4:Nat→List (List UInt8)→List Q2→Int→Int→Option (List (List UInt8)×Unit)
 |0,_,_,_,_=>none
 |N+1,out3,t12,t13_1,t14=>
  bif decide (t14<t13_1)then
   Zc (0≤t14∧t14<t12.length)<|
   (Ql (t12.getD t14.toNat Qk).1).bind fun t21=>
   Zc (t21.1.length+ ([58,32]:List UInt8).length≤Z8)<|
   (Zf2 (t12.getD t14.toNat Qk).2.1).bind fun t25=>
   Zc ((t21.1++ ([58,32]:List UInt8)).length+t25.1.length≤Z8)<|
   let t27:List (List UInt8):=[((t21.1++ ([58,32]:List UInt8))++t25.1)]
   Zc (out3.length+t27.length≤Qp)<|
   Zc4 N (out3++t27) t12 t13_1 (IntKind.i64.wrap (t14+1))
  else
   some (out3,())
def Zm3(c0:Zg):Option (List (List UInt8)×Unit):=
 (J8 c0).bind fun t8=>
 bif !t8.1 then
  some (([]:List (List UInt8)),())
 else
  Zc4 (Zoc ([]:List (List UInt8)) c0.2.2.2.2.2.2.2.2.2.2.2.2.2.2.2.1 (c0.2.2.2.2.2.2.2.2.2.2.2.2.2.2.2.1.length:Int) (0:Int)) ([]:List (List UInt8)) c0.2.2.2.2.2.2.2.2.2.2.2.2.2.2.2.1 (c0.2.2.2.2.2.2.2.2.2.2.2.2.2.2.2.1.length:Int) (0:Int)
def Zxk(is0:Bool):Option (List UInt8×Unit):=
 bif is0 then
  some (([32,102,105,110]:List UInt8),())
 else
  some (([]:List UInt8),())
def Zxl(is0:Bool):Option (List UInt8×Unit):=
 bif is0 then
  some (([32,117,110,105]:List UInt8),())
 else
  some (([32,98,105,100,105]:List UInt8),())
abbrev Z2r:List PE:=[.box 1 106 (Zu) (.u false),.val 3 (.str) (.u false),.val 109 (.bool) (.u false)]
def W7(f1_1:Zh)(s3_1:List UInt8)(t109:Bool):Option (List UInt8×Unit):=
 bif t109 then
  Zc (s3_1.length+ ([32]:List UInt8).length≤Z8)<|
  (Zv f1_1.2.2.2.2.2.2.1).bind fun t116=>
  Zc ((s3_1++ ([32]:List UInt8)).length+t116.1.length≤Z8)<|
  (Zxl f1_1.2.2.2.2.2.2.2.2.1).bind fun t120=>
  Zc (((s3_1++ ([32]:List UInt8))++t116.1).length+t120.1.length≤Z8)<|
  some (((s3_1++ ([32]:List UInt8))++t116.1)++t120.1,())
 else
  Zc (s3_1.length+ ([32]:List UInt8).length≤Z8)<|
  (Zv f1_1.2.2.2.2.2.2.1).bind fun t126=>
  Zc ((s3_1++ ([32]:List UInt8)).length+t126.1.length≤Z8)<|
  some ((s3_1++ ([32]:List UInt8))++t126.1,())
abbrev Z2q:List PE:=[.box 1 106 (Zu) (.u false),.val 3 (.str) (.u false),.val 41 (.int .i64) (.u false),.val 95 (.bool) (.u false)]
def W6(f1:Zh)(s3:List UInt8)(t41:Int)(t95:Bool):Option (List UInt8×Unit):=
 bif t95 then
  Zc (s3.length+ ([32]:List UInt8).length≤Z8)<|
  (Zv f1.2.1).bind fun t102=>
  Zc ((s3++ ([32]:List UInt8)).length+t102.1.length≤Z8)<|
  Zc (((s3++ ([32]:List UInt8))++t102.1).length+ ([32]:List UInt8).length≤Z8)<|
  let t104:List UInt8:=((s3++ ([32]:List UInt8))++t102.1)++ ([32]:List UInt8)
  (Zv f1.2.2.2.2.2.2.1).bind fun t107=>
  Zc (t104.length+t107.1.length≤Z8)<|
  some (t104++t107.1,())
 else
  bif t41==18 then
   W7 f1 s3 (t41==18)
  else
   W7 f1 s3 (t41==22)
def Ju(f0:Zh):Option (List UInt8×Unit):=
 (Jv f0).bind fun t5=>
 (bif(!t5.1)then some (false,())else(Zbt f0.2.1)).bind fun t10=>
 (bif((!t5.1)|| (!t10.1))then some (false,())else(Zbt f0.2.2.1)).bind fun t16=>
 let t18:Bool:=((!t5.1)|| (!t10.1))|| (!t16.1)
 (bif t18 then some (false,())else(Zbt f0.2.2.2.2.2.1)).bind fun t22=>
 (bif(t18|| (!t22.1))then some (false,())else(Zbt f0.2.2.2.2.2.2.1)).bind fun t28=>
 let t30:Bool:=(t18|| (!t22.1))|| (!t28.1)
 (bif t30 then some (false,())else(Zbt f0.2.2.2.2.2.2.2.1)).bind fun t34=>
 bif t30|| (!t34.1)then
  some (([]:List UInt8),())
 else
  (Wr f0.1).bind fun t39=>
  bif f0.1==4 then
   Zc (t39.1.length+ ([32]:List UInt8).length≤Z8)<|
   (Zv f0.2.1).bind fun t48=>
   Zc ((t39.1++ ([32]:List UInt8)).length+t48.1.length≤Z8)<|
   Zc (((t39.1++ ([32]:List UInt8))++t48.1).length+ ([32]:List UInt8).length≤Z8)<|
   let t50:List UInt8:=((t39.1++ ([32]:List UInt8))++t48.1)++ ([32]:List UInt8)
   (Zv f0.2.2.2.2.2.1).bind fun t53=>
   Zc (t50.length+t53.1.length≤Z8)<|
   Zc ((t50++t53.1).length+ ([32]:List UInt8).length≤Z8)<|
   (Zv f0.2.2.2.2.2.2.2.1).bind fun t58=>
   Zc (((t50++t53.1)++ ([32]:List UInt8)).length+t58.1.length≤Z8)<|
   some (((t50++t53.1)++ ([32]:List UInt8))++t58.1,())
  else
   bif f0.1==5 then
    Zc (t39.1.length+ ([32]:List UInt8).length≤Z8)<|
    (Zv f0.2.1).bind fun t66=>
    Zc ((t39.1++ ([32]:List UInt8)).length+t66.1.length≤Z8)<|
    Zc (((t39.1++ ([32]:List UInt8))++t66.1).length+ ([32]:List UInt8).length≤Z8)<|
    let t68:List UInt8:=((t39.1++ ([32]:List UInt8))++t66.1)++ ([32]:List UInt8)
    (Zv f0.2.2.2.2.2.1).bind fun t71=>
    Zc (t68.length+t71.1.length≤Z8)<|
    some (t68++t71.1,())
   else
    bif f0.1==8 then
     Zc (t39.1.length+ ([32]:List UInt8).length≤Z8)<|
     (Zv f0.2.1).bind fun t79=>
     Zc ((t39.1++ ([32]:List UInt8)).length+t79.1.length≤Z8)<|
     Zc (((t39.1++ ([32]:List UInt8))++t79.1).length+ ([32]:List UInt8).length≤Z8)<|
     let t81:List UInt8:=((t39.1++ ([32]:List UInt8))++t79.1)++ ([32]:List UInt8)
     (Zv f0.2.2.1).bind fun t84=>
     Zc (t81.length+t84.1.length≤Z8)<|
     Zc ((t81++t84.1).length+ ([32,120]:List UInt8).length≤Z8)<|
     let t86:List UInt8:=(t81++t84.1)++ ([32,120]:List UInt8)
     (Ww f0.2.2.2.1).bind fun t89=>
     Zc (t86.length+t89.1.length≤Z8)<|
     (Zxk f0.2.2.2.2.1).bind fun t93=>
     Zc ((t86++t89.1).length+t93.1.length≤Z8)<|
     some ((t86++t89.1)++t93.1,())
    else
     bif f0.1==17 then
      W6 f0 t39.1 f0.1 (f0.1==17)
     else
      W6 f0 t39.1 f0.1 (f0.1==21)
abbrev Z0x:List PE:=[.val 0 (.slice 106 (Zu)) (.u false),.val 3 (.str) (.u false),.val 4 (.int .i64) (.u false)]
def Zgh(K1: (List Zh×List UInt8×Int×Unit)→Option (List UInt8×Unit))(l0_2:List Zh)(s3_2:List UInt8)(i4_1:Int):Option (List UInt8×Unit):=
 Zc (0≤i4_1∧i4_1<l0_2.length)<|
 (Ju (l0_2.getD i4_1.toNat Xk)).bind fun t20=>
 Zc (s3_2.length+t20.1.length≤Z8)<|
 K1 (l0_2,s3_2++t20.1,IntKind.i64.wrap (i4_1+1),())
abbrev Z0y:List PE:=[.val 0 (.slice 106 (Zu)) (.u false),.val 3 (.str) (.u false),.val 4 (.int .i64) (.u false)]
def Zfq(l0_1:List Zh)(s3_1:List UInt8)(i4:Int):Nat:=((l0_1.length:Int)-i4).toNat+1
def Yo:Nat→List Zh→List UInt8→Int→Option (List UInt8×Unit)
 |0,_,_,_=>none
 |N+1,l0_1,s3_1,i4=>
  bif decide (i4< (l0_1.length:Int))then
   bif decide (i4>(0:Int))then
    Zc (s3_1.length+ ([59,32]:List UInt8).length≤Z8)<|
    Zgh (fun v=>Yo N v.1 v.2.1 v.2.2.1) l0_1 (s3_1++ ([59,32]:List UInt8)) i4
   else
    Zgh (fun v=>Yo N v.1 v.2.1 v.2.2.1) l0_1 s3_1 i4
  else
   bif s3_1==([]:List UInt8)then
    some (([110,111,110,101]:List UInt8),())
   else
    some (s3_1,())
def Zgg(l0:List Zh):Option (List UInt8×Unit):=
 Yo (Zfq l0 ([]:List UInt8) (0:Int)) l0 ([]:List UInt8) (0:Int)
abbrev Z2x:List PE:=[.box 1 37 (Zl) (.u false),.val 3 (.slice 9 (.str)) (.u true),.val 4 (.int .i64) (.u false)]
def Vp(c1:Zg)(out3:List (List UInt8))(i4:Int):Nat:=((c1.2.2.2.2.2.2.2.2.2.2.2.2.2.2.2.1.length:Int)-i4).toNat+1
def Zab:Nat→Zg→List (List UInt8)→Int→Option (List (List UInt8)×Unit)
 |0,_,_,_=>none
 |N+1,c1,out3,i4=>
  (bif(decide (i4< (c1.2.2.2.2.2.2.2.2.2.2.2.2.2.2.2.1.length:Int)))then(Z5 c1)else some (false,())).bind fun t13=>
  bif(decide (i4< (c1.2.2.2.2.2.2.2.2.2.2.2.2.2.2.2.1.length:Int)))&&t13.1 then
   Zc (0≤i4∧i4<c1.2.2.2.2.2.2.2.2.2.2.2.2.2.2.2.1.length)<|
   Zc (0≤i4∧i4<c1.2.2.2.2.2.2.2.2.2.2.2.2.2.2.2.1.length)<|
   (Zv (c1.2.2.2.2.2.2.2.2.2.2.2.2.2.2.2.1.getD i4.toNat Qk).1).bind fun t24=>
   Zc (t24.1.length+ ([58,32]:List UInt8).length≤Z8)<|
   (Zgg (c1.2.2.2.2.2.2.2.2.2.2.2.2.2.2.2.1.getD i4.toNat Qk).2.1).bind fun t32=>
   Zc ((t24.1++ ([58,32]:List UInt8)).length+t32.1.length≤Z8)<|
   let t34:List (List UInt8):=[((t24.1++ ([58,32]:List UInt8))++t32.1)]
   Zc (out3.length+t34.length≤Qp)<|
   Zab N c1 (out3++t34) (IntKind.i64.wrap (i4+1))
  else
   some (out3,())
def Znh(c0:Zg):Option (List (List UInt8)×Unit):=
 Zab (Vp c0 ([]:List (List UInt8)) (0:Int)) c0 ([]:List (List UInt8)) (0:Int)
def Zux(code0:List Int):Option (Bool×Unit):=
 (Qsu code0).bind fun t10=>
 bif t10.1 then
  some (true,())
 else
  (Zln code0).bind fun t12=>
  (Zjo code0).bind fun t14=>
  (Zg9 code0).bind fun t16=>
  (Zg8 code0).bind fun t18=>
  (Zjn code0).bind fun t20=>
  (Zgd code0).bind fun t22=>
  (Zsl t12.1.1).bind fun t24=>
  (Zsy t12.1.1).bind fun t26=>
  (bif(t24.1==t26.1)then(Zea t14.1)else some (([]:List UInt8),())).bind fun t30=>
  (bif(t24.1==t26.1)then(Ze4 t14.1)else some (([]:List UInt8),())).bind fun t32=>
  let t34:Bool:=(t24.1==t26.1)&& (t30.1==t32.1)
  (bif t34 then(Ztz t16.1.1)else some (([]:List (List UInt8)),())).bind fun t37=>
  (bif t34 then(Zua t16.1.1)else some (([]:List (List UInt8)),())).bind fun t39=>
  (bif t34 then(Zl4 t37.1 t39.1)else some (false,())).bind fun t40=>
  (bif(t34&&t40.1)then(Zor t18.1.1)else some (([]:List UInt8),())).bind fun t44=>
  (bif(t34&&t40.1)then(Zoz t18.1.1)else some (([]:List UInt8),())).bind fun t46=>
  let t48:Bool:=(t34&&t40.1)&& (t44.1==t46.1)
  (bif t48 then(Zqh t20.1.1)else some (([]:List UInt8),())).bind fun t51=>
  (bif t48 then(Zq7 t20.1.1)else some (([]:List UInt8),())).bind fun t53=>
  (bif(t48&& (t51.1==t53.1))then(Zm3 t22.1.1)else some (([]:List (List UInt8)),())).bind fun t58=>
  (bif(t48&& (t51.1==t53.1))then(Znh t22.1.1)else some (([]:List (List UInt8)),())).bind fun t60=>
  (bif(t48&& (t51.1==t53.1))then(Zl4 t58.1 t60.1)else some (false,())).bind fun t61=>
  some ((t48&& (t51.1==t53.1))&&t61.1,())
end Go.Proofs.YtplcdmnbgcgdfaaGreatDoor

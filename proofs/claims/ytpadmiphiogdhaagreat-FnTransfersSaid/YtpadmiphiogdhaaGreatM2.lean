/- FnTransfers: what the functions that it reaches compute, as plain functions, part 2. No condition. -/
import Derived.Test.YtpadmiphiogdhaaGreatM1
noncomputable section
namespace Go.Proofs.YtpadmiphiogdhaaGreat
open Go.Am
set_option maxRecDepth 100000
set_option linter.unusedVariables false
abbrev Qea:List PE:=[.box 0 58 (V1) (.u false),.box 2 41 (Qe) (.u true),.box 3 41 (Qe) (.p (.u false) (.p (.u false) (.p (.u false) (.p (.u false) (.u true))))),.val 5 (.int .i64) (.u false)]
def Zli(c0_2:Qm)(t2_1:Z1)(p3_1:Z1)(n5:Int):Nat:=(n5-0).toNat+1
def Zjh:Nat→Qm→Z1→Z1→Int→Option ((Z1×Unit)×(Qm×Unit))
 |0,_,_,_,_=>none
 |N+1,c0_2,t2_1,p3_1,n5=>
  bif decide (n5>(0:Int))then
   (Zti c0_2 p3_1).bind fun t37=>
   Zjh N t37.2.1 t2_1 t37.1.1 (IntKind.i64.wrap (n5-1))
  else
   some ((p3_1,()),(c0_2,()))
abbrev Qd9:List PE:=[.box 0 58 (V1) (.u false),.box 2 41 (Qe) (.u true),.box 3 41 (Qe) (.p (.u false) (.p (.u false) (.p (.u false) (.p (.u false) (.u true)))))]
def Zss(c0_1:Qm)(t2:Z1)(p3:Z1):Option ((Z1×Unit)×(Qm×Unit)):=
 (Qo c0_1 (12:Int)).bind fun t30=>
 Zjh (Zli t30.2.1 t2 p3 t30.1.1) t30.2.1 t2 p3 t30.1.1
def Zth(c0:Qm):Option ((Z1×Unit)×(Qm×Unit)):=
 (Zl7 c0).bind fun t8=>
 (Zl7 t8.2.1).bind fun t10=>
 (Zta t8.1.1 t10.1.1).bind fun t11=>
 (Zeh t11.1 false ((1:Int),((0:Int),((0:Int),(([98,105,100,105]:List UInt8),()))))).bind fun t17=>
 (Wy t10.2.1 (8:Int)).bind fun t23=>
 Zf (([97]:List UInt8).length+t23.1.1.length≤W9)<|
 (Zeh t17.1.2.1 false ((2:Int),((0:Int),((0:Int),(([97]:List UInt8)++t23.1.1,()))))).bind fun t26=>
 Ql 1 (
  Zss t23.2.1 Zb4 t26.1.2.1
 )
def Zvs(c0:Qm):Option ((Z1×Unit)×(Qm×Unit)):=
 (Zth c0).bind fun t5=>
 (Qo t5.2.1 (20:Int)).bind fun t7=>
 bif t7.1.1==0 then
  some ((((true,t5.1.1.1.2),t5.1.1.2),()),(t7.2.1,()))
 else
  bif t7.1.1==1 then
   some (((t5.1.1.1,((t5.1.1.2.1.1,(t5.1.1.2.1.2.1,(t5.1.1.2.1.2.2.1,(t5.1.1.2.1.2.2.2.1,(t5.1.1.2.1.2.2.2.2.1,(t5.1.1.2.1.2.2.2.2.2.1,(t5.1.1.2.1.2.2.2.2.2.2.1,(t5.1.1.2.1.2.2.2.2.2.2.2.1,(t5.1.1.2.1.2.2.2.2.2.2.2.2.1,(t5.1.1.2.1.2.2.2.2.2.2.2.2.2.1,(t5.1.1.2.1.2.2.2.2.2.2.2.2.2.2.1,(t5.1.1.2.1.2.2.2.2.2.2.2.2.2.2.2.1,(t5.1.1.2.1.2.2.2.2.2.2.2.2.2.2.2.2.1,(t5.1.1.2.1.2.2.2.2.2.2.2.2.2.2.2.2.2.1,(t5.1.1.2.1.2.2.2.2.2.2.2.2.2.2.2.2.2.2.1,(t5.1.1.2.1.2.2.2.2.2.2.2.2.2.2.2.2.2.2.2.1,(t5.1.1.2.1.2.2.2.2.2.2.2.2.2.2.2.2.2.2.2.2.1,((3:Int),t5.1.1.2.1.2.2.2.2.2.2.2.2.2.2.2.2.2.2.2.2.2.2)))))))))))))))))),t5.1.1.2.2)),()),(t7.2.1,()))
  else
   some ((t5.1.1,()),(t7.2.1,()))
abbrev Qef:List PE:=[.box 2 41 (Qe) (.u true),.ptr 3 7 [],.box 4 41 (Qe) (.p (.u false) (.p (.u false) (.p (.u false) (.p (.u false) (.p (.u true) (.u false)))))),.val 5 (.int .i64) (.u false),.box 7 58 (V1) (.u false)]
def Zjj(t2:Z1)(p4:Z1)(k5:Int)(t7_1:Qm):Option ((Z1×Unit)×(Unit)):=
 (Zdb t7_1 (2:Int)).bind fun t41=>
 Zf (0≤k5∧k5<p4.2.2.2.2.1.length)<|
 some (((p4.1,(p4.2.1,(p4.2.2.1,(p4.2.2.2.1,(p4.2.2.2.2.1.set k5.toNat ((p4.2.2.2.2.1.getD k5.toNat Qq).1,((p4.2.2.2.2.1.getD k5.toNat Qq).2.1,((p4.2.2.2.2.1.getD k5.toNat Qq).2.2.1,((p4.2.2.2.2.1.getD k5.toNat Qq).2.2.2.1,((p4.2.2.2.2.1.getD k5.toNat Qq).2.2.2.2.1,(t41.1.1,(p4.2.2.2.2.1.getD k5.toNat Qq).2.2.2.2.2.2)))))),p4.2.2.2.2.2))))),()),())
def Ztj(code0:List Int):Option ((Z1×Unit)×(Unit)):=
 (Zqq code0).bind fun t7=>
 (Zvs t7.1).bind fun t9=>
 bif decide ((t9.1.1.2.2.2.2.1.length:Int)>(0:Int))then
  (Zdb t9.2.1 (3:Int)).bind fun t16=>
  let t17:Bool:=(decide ((t9.1.1.2.2.2.2.1.length:Int)>(0:Int)))&&t16.1.1
  bif t17 then
   (Qo t16.2.1 (t9.1.1.2.2.2.2.1.length:Int)).bind fun t22=>
   Zf (0≤t22.1.1∧t22.1.1<t9.1.1.2.2.2.2.1.length)<|
   Ql 1 (
    (Wy t22.2.1 (2:Int)).bind fun t33=>
    Zf ((t9.1.1.2.2.2.2.1.getD t22.1.1.toNat Qq).2.2.2.1.length+t33.1.1.length≤W9)<|
    let t34:List UInt8:=(t9.1.1.2.2.2.2.1.getD t22.1.1.toNat Qq).2.2.2.1++t33.1.1
    Zf (0≤t22.1.1∧t22.1.1<t9.1.1.2.2.2.2.1.length)<|
    let p4_2:List Yc:=t9.1.1.2.2.2.2.1.set t22.1.1.toNat ((t9.1.1.2.2.2.2.1.getD t22.1.1.toNat Qq).1,((t9.1.1.2.2.2.2.1.getD t22.1.1.toNat Qq).2.1,((t9.1.1.2.2.2.2.1.getD t22.1.1.toNat Qq).2.2.1,(t34,(t9.1.1.2.2.2.2.1.getD t22.1.1.toNat Qq).2.2.2.2))))
    Zjj Zb4 (t9.1.1.1,(t9.1.1.2.1,(t9.1.1.2.2.1,(t9.1.1.2.2.2.1,(p4_2,t9.1.1.2.2.2.2.2))))) t22.1.1 t33.2.1
   )
  else
   some ((t9.1.1,()),())
 else
  let t17:Bool:=(decide ((t9.1.1.2.2.2.2.1.length:Int)>(0:Int)))&&false
  bif t17 then
   (Qo t9.2.1 (t9.1.1.2.2.2.2.1.length:Int)).bind fun t22=>
   Zf (0≤t22.1.1∧t22.1.1<t9.1.1.2.2.2.2.1.length)<|
   Ql 1 (
    (Wy t22.2.1 (2:Int)).bind fun t33=>
    Zf ((t9.1.1.2.2.2.2.1.getD t22.1.1.toNat Qq).2.2.2.1.length+t33.1.1.length≤W9)<|
    let t34:List UInt8:=(t9.1.1.2.2.2.2.1.getD t22.1.1.toNat Qq).2.2.2.1++t33.1.1
    Zf (0≤t22.1.1∧t22.1.1<t9.1.1.2.2.2.2.1.length)<|
    let p4:List Yc:=t9.1.1.2.2.2.2.1.set t22.1.1.toNat ((t9.1.1.2.2.2.2.1.getD t22.1.1.toNat Qq).1,((t9.1.1.2.2.2.2.1.getD t22.1.1.toNat Qq).2.1,((t9.1.1.2.2.2.2.1.getD t22.1.1.toNat Qq).2.2.1,(t34,(t9.1.1.2.2.2.2.1.getD t22.1.1.toNat Qq).2.2.2.2))))
    Zjj Zb4 (t9.1.1.1,(t9.1.1.2.1,(t9.1.1.2.2.1,(t9.1.1.2.2.2.1,(p4,t9.1.1.2.2.2.2.2))))) t22.1.1 t33.2.1
   )
  else
   some ((t9.1.1,()),())
def Za3(code0:List Int):Option ((Z1×Unit)×(Unit)):=
 (Ztj code0).bind fun t4=>
 some ((t4.1.1,()),())
def Zj1(s0:List UInt8)(prefix1:List UInt8):Option (Bool×Unit):=
 let t9:Bool:=decide ((s0.length:Int)≥(prefix1.length:Int))
 Zf ((t9=true→(0≤(0:Int)∧(0:Int)≤(prefix1.length:Int)∧(prefix1.length:Int)≤s0.length)))<|
 some (t9&& (((s0.drop (0:Int).toNat).take ((prefix1.length:Int).toNat- (0:Int).toNat))==prefix1),())
def Zp9(s0:List UInt8)(prefix1:List UInt8):Option (Bool×Unit):=
 (Zj1 s0 prefix1).bind fun t7=>
 some (t7.1,())
def Zir(a0:List UInt8)(b1:List UInt8):Option (Bool×Unit):=
 (Zp9 b1 a0).bind fun t7=>
 some (t7.1,())
abbrev Zur:List PE:=[.val 6 (.slice 49 (W8)) (.u false),.val 7 (.int .i64) (.u false),.val 8 (.int .i64) (.u false)]
def Ziq(t6:List Yc)(t7_1:Int)(t8:Int):Nat:=(t7_1-t8).toNat+1
def Vr:Nat→List Yc→Int→Int→Option (Int×Unit)
 |0,_,_,_=>none
 |N+1,t6,t7_1,t8=>
  bif decide (t8<t7_1)then
   Zf (0≤t8∧t8<t6.length)<|
   (Zir (t6.getD t8.toNat Qq).2.2.2.1 (t6.getD t8.toNat Qq).2.2.1).bind fun t17=>
   bif(!t17.1)|| ((t6.getD t8.toNat Qq).2.2.2.2.2.1&& ((!((t6.getD t8.toNat Qq).2.2.2.1==(t6.getD t8.toNat Qq).2.2.1))|| (!(t6.getD t8.toNat Qq).2.2.2.2.1)))then
    some (t8,())
   else
    Vr N t6 t7_1 (IntKind.i64.wrap (t8+1))
  else
   some ((-1:Int),())
def Zfa(p0:Z1):Option (Int×Unit):=
 Vr (Ziq p0.2.2.2.2.1 (p0.2.2.2.2.1.length:Int) (0:Int)) p0.2.2.2.2.1 (p0.2.2.2.2.1.length:Int) (0:Int)
def Zf8(code0:List Int):Option (List UInt8×List UInt8×Unit):=
 (Zqq code0).bind fun t7=>
 (Wy t7.1 (3:Int)).bind fun t9=>
 (Zdb t9.2.1 (2:Int)).bind fun t11=>
 bif t11.1.1 then
  (Wy t11.2.1 (3:Int)).bind fun t15=>
  Zf (t9.1.1.length+t15.1.1.length≤W9)<|
  some (t9.1.1,t9.1.1++t15.1.1,())
 else
  (Wy t11.2.1 (4:Int)).bind fun t19=>
  some (t9.1.1,t19.1.1,())
def Zi3(a0:List UInt8)(b1:List UInt8):Option (Bool×Unit):=
 let t9:Bool:=decide ((a0.length:Int)≤(b1.length:Int))
 Zf ((t9=true→(0≤(0:Int)∧(0:Int)≤(a0.length:Int)∧(a0.length:Int)≤b1.length)))<|
 some (t9&& (((b1.drop (0:Int).toNat).take ((a0.length:Int).toNat- (0:Int).toNat))==a0),())
abbrev Zus:List PE:=[.box 1 41 (Qe) (.u false),.val 3 (.int .i64) (.u false)]
def Zi2(p1:Z1)(i3:Int):Nat:=((p1.2.2.2.2.1.length:Int)-i3).toNat+1
def Vz:Nat→Z1→Int→Option (Int×Unit)
 |0,_,_=>none
 |N+1,p1,i3=>
  bif decide (i3< (p1.2.2.2.2.1.length:Int))then
   Zf (0≤i3∧i3<p1.2.2.2.2.1.length)<|
   (Zi3 (p1.2.2.2.2.1.getD i3.toNat Qq).2.2.2.1 (p1.2.2.2.2.1.getD i3.toNat Qq).2.2.1).bind fun t21=>
   bif(!t21.1)|| ((p1.2.2.2.2.1.getD i3.toNat Qq).2.2.2.2.2.1&& ((!((p1.2.2.2.2.1.getD i3.toNat Qq).2.2.2.1==(p1.2.2.2.2.1.getD i3.toNat Qq).2.2.1))|| (!(p1.2.2.2.2.1.getD i3.toNat Qq).2.2.2.2.1)))then
    some (i3,())
   else
    Vz N p1 (IntKind.i64.wrap (i3+1))
  else
   some ((-1:Int),())
def Zk1(p0:Z1):Option (Int×Unit):=
 Vz (Zi2 p0 (0:Int)) p0 (0:Int)
def Znc(p0:Z1):Option (Bool×Unit):=
 (Zfa p0).bind fun t4=>
 some (t4.1==(-1:Int),())
abbrev Z09:List PE:=[.val 6 (.slice 49 (W8)) (.u false),.val 7 (.int .i64) (.u false),.val 8 (.int .i64) (.u false)]
def Zol(t6:List Yc)(t7_1:Int)(t8:Int):Nat:=(t7_1-t8).toNat+1
def Zdm:Nat→List Yc→Int→Int→Option (Bool×Unit)
 |0,_,_,_=>none
 |N+1,t6,t7_1,t8=>
  bif decide (t8<t7_1)then
   Zf (0≤t8∧t8<t6.length)<|
   bif(!(t6.getD t8.toNat Qq).2.2.2.2.2.2.1)&& ((!((t6.getD t8.toNat Qq).2.2.2.1==(t6.getD t8.toNat Qq).2.2.1))|| (!((t6.getD t8.toNat Qq).2.2.2.2.2.1==(t6.getD t8.toNat Qq).2.2.2.2.1)))then
    some (false,())
   else
    Zdm N t6 t7_1 (IntKind.i64.wrap (t8+1))
  else
   some (true,())
def Zr6(p0:Z1):Option (Bool×Unit):=
 Zdm (Zol p0.2.2.2.2.1 (p0.2.2.2.2.1.length:Int) (0:Int)) p0.2.2.2.2.1 (p0.2.2.2.2.1.length:Int) (0:Int)
abbrev Z2p:List PE:=[.box 1 41 (Qe) (.u false),.val 3 (.int .i64) (.u false)]
def Zor(p1:Z1)(i3:Int):Nat:=((p1.2.2.2.2.1.length:Int)-i3).toNat+1
def Zd4:Nat→Z1→Int→Option (Bool×Unit)
 |0,_,_=>none
 |N+1,p1,i3=>
  bif decide (i3< (p1.2.2.2.2.1.length:Int))then
   Zf (0≤i3∧i3<p1.2.2.2.2.1.length)<|
   bif(!(p1.2.2.2.2.1.getD i3.toNat Qq).2.2.2.2.2.2.1)&& ((!((p1.2.2.2.2.1.getD i3.toNat Qq).2.2.2.1==(p1.2.2.2.2.1.getD i3.toNat Qq).2.2.1))|| (!((p1.2.2.2.2.1.getD i3.toNat Qq).2.2.2.2.1==(p1.2.2.2.2.1.getD i3.toNat Qq).2.2.2.2.2.1)))then
    some (false,())
   else
    Zd4 N p1 (IntKind.i64.wrap (i3+1))
  else
   some (true,())
def Zsk(p0:Z1):Option (Bool×Unit):=
 Zd4 (Zor p0 (0:Int)) p0 (0:Int)
def Z3(n0:Int)(low1:Int)(high2:Int):Option (Bool×Unit):=
 some ((decide (low1≤n0))&& (decide (n0≤high2)),())
def Zit(size0:Int):Option (Bool×Unit):=
 (Z3 size0 (1:Int) (64:Int)).bind fun t4=>
 some (t4.1&& ((bits .and .i64 size0 (IntKind.i64.wrap (size0-1)))==0),())
def Zrv(c0:Zo0):Option (Bool×Unit):=
 (Zit c0.1).bind fun t5=>
 (bif t5.1 then(Z3 c0.2.2.1 (1:Int) (4096:Int))else some (false,())).bind fun t9=>
 (bif(t5.1&&t9.1)then(Z3 c0.2.2.2.2.1 (1:Int) (4096:Int))else some (false,())).bind fun t14=>
 (bif((t5.1&&t9.1)&&t14.1)then(Z3 c0.2.1 (1:Int) c0.2.2.1)else some (false,())).bind fun t21=>
 let t22:Bool:=((t5.1&&t9.1)&&t14.1)&&t21.1
 (bif t22 then(Z3 c0.2.2.2.1 (1:Int) c0.2.2.2.2.1)else some (false,())).bind fun t28=>
 (bif(t22&&t28.1)then(Z3 c0.2.2.2.2.2.1 (0:Int) (1000:Int))else some (false,())).bind fun t33=>
 (bif((t22&&t28.1)&&t33.1)then(Z3 c0.2.2.2.2.2.2.1 (0:Int) (1000:Int))else some (false,())).bind fun t38=>
 let t39:Bool:=((t22&&t28.1)&&t33.1)&&t38.1
 (bif t39 then(Z3 c0.2.2.2.2.2.2.2.1 (1:Int) (1000:Int))else some (false,())).bind fun t43=>
 some (t39&&t43.1,())
def Xs(n0:Int):Option (Bool×Unit):=
 (Z3 n0 (0:Int) (4611686018427387903:Int)).bind fun t4=>
 some (t4.1,())
def Zvy(n0:Int):Option (Bool×Unit):=
 (Z3 n0 (0:Int) (255:Int)).bind fun t4=>
 some (!t4.1,())
abbrev Zh5:List PE:=[.val 0 (.slice 3 (.int .i64)) (.u false),.val 1 (.fnc 244) (.u false),.val 7 (.int .i64) (.u false),.val 8 (.int .i64) (.u false)]
def Xh(s0_1:List Int)(f1:Unit)(t7_1:Int)(t8:Int):Nat:=(t7_1-t8).toNat+1
def Q8:Nat→List Int→Unit→Int→Int→Option (Int×Unit)
 |0,_,_,_,_=>none
 |N+1,s0_1,f1,t7_1,t8=>
  bif decide (t8<t7_1)then
   Zf (0≤t8∧t8<s0_1.length)<|
   (Zvy (s0_1.getD t8.toNat (0:Int))).bind fun t16=>
   bif t16.1 then
    some (t8,())
   else
    Q8 N s0_1 () t7_1 (IntKind.i64.wrap (t8+1))
  else
   some ((-1:Int),())
def Ky(s0:List Int):Option (Int×Unit):=
 Q8 (Xh s0 () (s0.length:Int) (0:Int)) s0 () (s0.length:Int) (0:Int)
def Kd(s0:List Int):Option (Bool×Unit):=
 (Ky s0).bind fun t7=>
 some (decide (t7.1≥(0:Int)),())
def Zu0(r0:Ko):Option (Bool×Unit):=
 (Zit r0.1).bind fun t5=>
 let t14:Bool:=(!t5.1)|| ((r0.2.2.2.1.length:Int) !=r0.1)
 (bif t14 then some (false,())else(Kd r0.2.2.2.1)).bind fun t18=>
 bif t14||t18.1 then
  some (false,())
 else
  (Xs r0.2.1).bind fun t22=>
  (bif t22.1 then(Z3 r0.2.2.1 r0.2.1 (min (IntKind.i64.wrap (r0.2.1+r0.1)) (4611686018427387903:Int)))else some (false,())).bind fun t34=>
  some (t22.1&&t34.1,())
def Zs3(r0:Zd):Option (Bool×Unit):=
 some (((decide (r0.1≥(0:Int)))&& (decide (r0.1<r0.2.1)))&& (decide (r0.2.1≤(4611686018427387903:Int))),())
abbrev Z7r:List PE:=[.val 0 (.slice 124 (Zr)) (.u false),.val 5 (.slice 124 (Zr)) (.u false),.val 6 (.int .i64) (.u false),.val 7 (.int .i64) (.u false)]
def Zjs(l0_1:List Zd)(t5:List Zd)(t6_1:Int)(t7:Int):Nat:=(t6_1-t7).toNat+1
def Zgl:Nat→List Zd→List Zd→Int→Int→Option (Bool×Unit)
 |0,_,_,_,_=>none
 |N+1,l0_1,t5,t6_1,t7=>
  bif decide (t7<t6_1)then
   Zf (0≤t7∧t7<t5.length)<|
   (Zs3 (t5.getD t7.toNat Zx)).bind fun t13=>
   Zf (((!t13.1)=false→((decide (t7>(0:Int)))=true→(0≤(IntKind.i64.wrap (t7-1))∧(IntKind.i64.wrap (t7-1))<l0_1.length))))<|
   bif(!t13.1)|| ((decide (t7>(0:Int)))&& (decide ((t5.getD t7.toNat Zx).1≤(l0_1.getD (IntKind.i64.wrap (t7-1)).toNat Zx).2.1)))then
    some (false,())
   else
    Zgl N l0_1 t5 t6_1 (IntKind.i64.wrap (t7+1))
  else
   some (true,())
def V6(l0:List Zd):Option (Bool×Unit):=
 Zgl (Zjs l0 l0 (l0.length:Int) (0:Int)) l0 l0 (l0.length:Int) (0:Int)
abbrev Zxx:List PE:=[.val 3 (.int .i64) (.u false),.val 9 (.slice 124 (Zr)) (.u false),.val 10 (.int .i64) (.u false),.val 11 (.int .i64) (.u false)]
def Zex(count3:Int)(t9:List Zd)(t10_1:Int)(t11:Int):Nat:=(t10_1-t11).toNat+1
def Zbc:Nat→Int→List Zd→Int→Int→Option (Int×Unit)
 |0,_,_,_,_=>none
 |N+1,count3,t9,t10_1,t11=>
  bif decide (t11<t10_1)then
   Zf (0≤t11∧t11<t9.length)<|
   Zbc N (IntKind.i64.wrap (count3+ (IntKind.i64.wrap ((t9.getD t11.toNat Zx).2.1- (t9.getD t11.toNat Zx).1)))) t9 t10_1 (IntKind.i64.wrap (t11+1))
  else
   some (count3,())
def Wa(l0:List Zd):Option (Int×Unit):=
 (V6 l0).bind fun t7=>
 bif !t7.1 then
  some ((-1:Int),())
 else
  Zbc (Zex (0:Int) l0 (l0.length:Int) (0:Int)) (0:Int) l0 (l0.length:Int) (0:Int)
def Zb7(l0:List Zd):Option (List Zd×Unit):=
 Zf (([]:List Zd).length+l0.length≤Qv)<|
 some (([]:List Zd)++l0,())
abbrev Z7m:List PE:=[.box 3 124 (Zr) (.u false),.val 5 (.slice 124 (Zr)) (.u true),.val 6 (.bool) (.u false),.box 8 124 (Zr) (.u false),.val 20 (.slice 124 (Zr)) (.u false),.val 21 (.int .i64) (.u false),.val 22 (.int .i64) (.u false)]
def Zgj(K1: (Zd×List Zd×Bool×List Zd×Int×Int×Unit)→Option (List Zd×Unit))(r3_1:Zd)(out5_1:List Zd)(placed6_1:Bool)(x8:Zd)(t20_1:List Zd)(t21_2:Int)(t22_1:Int):Option (List Zd×Unit):=
 Zf (out5_1.length+ ([x8]).length≤Qv)<|
 K1 (r3_1,out5_1++ ([x8]),placed6_1,t20_1,t21_2,IntKind.i64.wrap (t22_1+1),())
abbrev Z7n:List PE:=[.box 3 124 (Zr) (.u false),.val 5 (.slice 124 (Zr)) (.u true),.val 6 (.bool) (.u false),.val 20 (.slice 124 (Zr)) (.u false),.val 21 (.int .i64) (.u false),.val 22 (.int .i64) (.u false)]
def Zep(r3:Zd)(out5:List Zd)(placed6:Bool)(t20:List Zd)(t21_1:Int)(t22:Int):Nat:=(t21_1-t22).toNat+1
def Yf:Nat→Zd→List Zd→Bool→List Zd→Int→Int→Option (List Zd×Unit)
 |0,_,_,_,_,_,_=>none
 |N+1,r3,out5,placed6,t20,t21_1,t22=>
  bif decide (t22<t21_1)then
   Zf (0≤t22∧t22<t20.length)<|
   bif decide ((t20.getD t22.toNat Zx).2.1<r3.1)then
    Zf (out5.length+ ([(t20.getD t22.toNat Zx)]).length≤Qv)<|
    Yf N r3 (out5++ ([(t20.getD t22.toNat Zx)])) placed6 t20 t21_1 (IntKind.i64.wrap (t22+1))
   else
    bif decide ((t20.getD t22.toNat Zx).1>r3.2.1)then
     bif !placed6 then
      Zf (out5.length+ ([r3]).length≤Qv)<|
      Zgj (fun v=>Yf N v.1 v.2.1 v.2.2.1 v.2.2.2.1 v.2.2.2.2.1 v.2.2.2.2.2.1) r3 (out5++ ([r3])) true (t20.getD t22.toNat Zx) t20 t21_1 t22
     else
      Zgj (fun v=>Yf N v.1 v.2.1 v.2.2.1 v.2.2.2.1 v.2.2.2.2.1 v.2.2.2.2.2.1) r3 out5 placed6 (t20.getD t22.toNat Zx) t20 t21_1 t22
    else
     Yf N (min r3.1 (t20.getD t22.toNat Zx).1,(max r3.2.1 (t20.getD t22.toNat Zx).2.1,())) out5 placed6 t20 t21_1 (IntKind.i64.wrap (t22+1))
  else
   bif !placed6 then
    Zf (out5.length+ ([r3]).length≤Qv)<|
    some (out5++ ([r3]),())
   else
    some (out5,())
def Zjk(l0:List Zd)(r1:Zd):Option (List Zd×Unit):=
 (V6 l0).bind fun t10=>
 (bif(!t10.1)then some (false,())else(Zs3 r1)).bind fun t14=>
 bif(!t10.1)|| (!t14.1)then
  (Zb7 l0).bind fun t18=>
  some (t18.1,())
 else
  Yf (Zep r1 ([]:List Zd) false l0 (l0.length:Int) (0:Int)) r1 ([]:List Zd) false l0 (l0.length:Int) (0:Int)
def Zb8(l0:List Zd)(place1:Int):Option (Bool×Unit):=
 let t12:Int:=IntKind.i64.wrap ((l0.length:Int)- (1:Int))
 Zf (((decide ((l0.length:Int)>(0:Int)))=true→(0≤t12∧t12<l0.length)))<|
 some ((decide ((l0.length:Int)>(0:Int)))&& (decide ((l0.getD t12.toNat Zx).2.1>place1)),())
abbrev Z7t:List PE:=[.val 3 (.int .i64) (.u false),.val 9 (.slice 124 (Zr)) (.u true),.val 27 (.slice 124 (Zr)) (.u true),.val 28 (.int .i64) (.u false),.val 29 (.int .i64) (.u false)]
def Zer(end3_1:Int)(all9:List Zd)(t27_1:List Zd)(t28_1:Int)(t29:Int):Nat:=(t28_1-t29).toNat+1
def Zgo:Nat→Int→List Zd→List Zd→Int→Int→Option (Bool×Unit)
 |0,_,_,_,_,_=>none
 |N+1,end3_1,all9,t27_1,t28_1,t29=>
  bif decide (t29<t28_1)then
   Zf (0≤t29∧t29<t27_1.length)<|
   (Zjk all9 (t27_1.getD t29.toNat Zx)).bind fun t35=>
   Zgo N end3_1 t35.1 t27_1 t28_1 (IntKind.i64.wrap (t29+1))
  else
   (Wa all9).bind fun t38=>
   (bif(t38.1==end3_1)then(Zb8 all9 end3_1)else some (false,())).bind fun t44=>
   some ((t38.1==end3_1)&& (!t44.1),())
def Zq2(a0:List Zd)(b1:List Zd)(c2:List Zd)(end3:Int):Option (Bool×Unit):=
 (Wa a0).bind fun t13=>
 (Wa b1).bind fun t15=>
 (Wa c2).bind fun t18=>
 bif(IntKind.i64.wrap ((IntKind.i64.wrap (t13.1+t15.1))+t18.1)) !=end3 then
  some (false,())
 else
  (Zb7 a0).bind fun t23=>
  (Zb7 b1).bind fun t25=>
  Zf (t25.1.length+c2.length≤Qv)<|
  Zgo (Zer end3 t23.1 (t25.1++c2) ((t25.1++c2).length:Int) (0:Int)) end3 t23.1 (t25.1++c2) ((t25.1++c2).length:Int) (0:Int)
abbrev Z7o:List PE:=[.val 1 (.int .i64) (.u false),.val 14 (.slice 124 (Zr)) (.u false),.val 15 (.int .i64) (.u false),.val 16 (.int .i64) (.u false)]
def Zjr(from1_1:Int)(t14:List Zd)(t15_1:Int)(t16:Int):Nat:=(t15_1-t16).toNat+1
def Zde:Nat→Int→List Zd→Int→Int→Option (Int×Unit)
 |0,_,_,_,_=>none
 |N+1,from1_1,t14,t15_1,t16=>
  bif decide (t16<t15_1)then
   Zf (0≤t16∧t16<t14.length)<|
   bif(decide ((t14.getD t16.toNat Zx).1≤from1_1))&& (decide (from1_1< (t14.getD t16.toNat Zx).2.1))then
    Zde N (t14.getD t16.toNat Zx).2.1 t14 t15_1 (IntKind.i64.wrap (t16+1))
   else
    Zde N from1_1 t14 t15_1 (IntKind.i64.wrap (t16+1))
  else
   some (from1_1,())
def Zqv(l0:List Zd)(from1:Int):Option (Int×Unit):=
 (V6 l0).bind fun t8=>
 bif(!t8.1)|| (decide (from1< (0:Int)))then
  some ((-1:Int),())
 else
  Zde (Zjr from1 l0 (l0.length:Int) (0:Int)) from1 l0 (l0.length:Int) (0:Int)
def Zo5(s0:Zq):Option (Int×Unit):=
 bif(s0.2.2.2.2.2.2.1==3)&& (s0.2.1.2.1==s0.2.1.2.2.1)then
  some ((3:Int),())
 else
  bif((s0.2.2.2.2.2.2.1==2)|| (s0.2.2.2.2.2.2.1==3))|| ((s0.2.2.2.2.2.2.1==1)&& (s0.1==2))then
   some ((2:Int),())
  else
   bif(decide (s0.2.2.2.2.2.2.2.1>(0:Int)))|| ((s0.2.2.2.2.2.2.1==1)&& (s0.1==1))then
    some ((1:Int),())
   else
    some ((0:Int),())
abbrev Z7s:List PE:=[.box 1 90 (Z8) (.u false),.val 4 (.int .i64) (.u false)]
def Zgm(s1:Zq)(final4:Int):Option (Bool×Unit):=
 (Zq2 s1.2.2.1 s1.2.2.2.1 s1.2.2.2.2.1 s1.2.1.2.2.1).bind fun t117=>
 (bif t117.1 then(Zqv s1.2.2.2.2.1 (0:Int))else some ((0:Int),())).bind fun t121=>
 (bif(t117.1&& (t121.1==s1.2.1.2.1))then(Zb8 s1.2.2.2.1 s1.2.2.2.2.2.2.2.1)else some (false,())).bind fun t132=>
 let t134:Bool:=(t117.1&& (t121.1==s1.2.1.2.1))&& (!t132.1)
 (bif t134 then(Zb8 s1.2.2.2.2.1 s1.2.2.2.2.2.2.2.1)else some (false,())).bind fun t140=>
 let t153:Bool:=((t134&& (!t140.1))&& (s1.2.2.2.2.2.2.2.2.1==0))&& (s1.2.2.2.2.2.1==final4)
 (bif t153 then(Zo5 s1)else some ((0:Int),())).bind fun t158=>
 some (t153&& (s1.1==t158.1),())
def Zq0(s0:Zq):Option (Bool×Unit):=
 (Zu0 s0.2.1).bind fun t7=>
 (bif(!t7.1)then some (false,())else(V6 s0.2.2.1)).bind fun t12=>
 (bif((!t7.1)|| (!t12.1))then some (false,())else(V6 s0.2.2.2.1)).bind fun t18=>
 let t20:Bool:=((!t7.1)|| (!t12.1))|| (!t18.1)
 (bif t20 then some (false,())else(V6 s0.2.2.2.2.1)).bind fun t24=>
 (bif(t20|| (!t24.1))then some (false,())else(Z3 s0.2.2.2.2.2.2.2.1 (0:Int) s0.2.1.2.2.1)).bind fun t33=>
 let t35:Bool:=(t20|| (!t24.1))|| (!t33.1)
 (bif t35 then some (false,())else(Xs s0.2.2.2.2.2.2.2.2.1)).bind fun t39=>
 (bif(t35|| (!t39.1))then some (false,())else(Z3 s0.2.2.2.2.2.2.1 (0:Int) (3:Int))).bind fun t45=>
 bif(t35|| (!t39.1))|| (!t45.1)then
  some (false,())
 else
  bif(s0.1==4)|| (s0.1==5)then
   some ((((((((s0.2.2.1.length:Int)==(0:Int))&& ((s0.2.2.2.1.length:Int)==(0:Int)))&& ((s0.2.2.2.2.1.length:Int)==(0:Int)))&& (s0.2.1.2.1==s0.2.1.2.2.1))&& (s0.2.2.2.2.2.1==s0.2.2.2.2.2.2.2.1))&& (s0.2.2.2.2.2.2.2.1==s0.2.1.2.2.1))&& (s0.2.2.2.2.2.2.1==0),())
  else
   bif s0.2.2.2.2.2.2.1==0 then
    Zgm s0 (-1:Int)
   else
    Zgm s0 s0.2.1.2.2.1
def Zqx(c0:Kw):Option (Bool×Unit):=
 (Xs c0.1).bind fun t5=>
 (bif t5.1 then(Z3 c0.2.1 (0:Int) c0.1)else some (false,())).bind fun t11=>
 (bif(t5.1&&t11.1)then(Z3 c0.2.2.1 (-1:Int) c0.1)else some (false,())).bind fun t18=>
 (bif((t5.1&&t11.1)&&t18.1)then(Z3 c0.2.2.2.1 (-1:Int) c0.1)else some (false,())).bind fun t25=>
 some (((t5.1&&t11.1)&&t18.1)&&t25.1,())
def Zo2(c0:Zy):Option (Int×Unit):=
 some (IntKind.i64.wrap (c0.1+ (c0.2.1.length:Int)),())
abbrev Z7p:List PE:=[.val 3 (.int .i64) (.u false),.val 13 (.slice 258 (Qs)) (.u false),.val 14 (.int .i64) (.u false),.val 15 (.int .i64) (.u false)]
def Zeq(least3:Int)(t13:List Zy)(t14_1:Int)(t15:Int):Nat:=(t14_1-t15).toNat+1
def Zgk:Nat→Int→List Zy→Int→Int→Option (Bool×Unit)
 |0,_,_,_,_=>none
 |N+1,least3,t13,t14_1,t15=>
  bif decide (t15<t14_1)then
   Zf (0≤t15∧t15<t13.length)<|
   bif((((t13.getD t15.toNat Qp).2.1.length:Int)==(0:Int))|| (decide ((t13.getD t15.toNat Qp).1<least3)))|| (decide ((t13.getD t15.toNat Qp).1>(IntKind.i64.wrap ((4611686018427387903:Int)- ((t13.getD t15.toNat Qp).2.1.length:Int)))))then
    some (false,())
   else
    (Zo2 (t13.getD t15.toNat Qp)).bind fun t39=>
    Zgk N (IntKind.i64.wrap (t39.1+1)) t13 t14_1 (IntKind.i64.wrap (t15+1))
  else
   some (true,())
def Zjl(b0:Z4):Option (Bool×Unit):=
 (Xs b0.1).bind fun t8=>
 bif !t8.1 then
  some (false,())
 else
  Zgk (Zeq b0.1 b0.2.1 (b0.2.1.length:Int) (0:Int)) b0.1 b0.2.1 (b0.2.1.length:Int) (0:Int)
def Zxy(b0:Z4):Option (Int×Unit):=
 (Zjl b0).bind fun t4=>
 bif(!t4.1)|| ((b0.2.1.length:Int)==(0:Int))then
  some (b0.1,())
 else
  let t19:Int:=IntKind.i64.wrap ((b0.2.1.length:Int)- (1:Int))
  Zf (0≤t19∧t19<b0.2.1.length)<|
  (Zo2 (b0.2.1.getD t19.toNat Qp)).bind fun t22=>
  some (t22.1,())
def Zne(b0:Z4):Option (Int×Unit):=
 (Zjl b0).bind fun t4=>
 let t11:Bool:=(!t4.1)|| ((b0.2.1.length:Int)==(0:Int))
 Zf ((t11=false→(0≤(0:Int)∧(0:Int)<b0.2.1.length)))<|
 bif t11|| ((b0.2.1.getD (0:Int).toNat Qp).1 !=b0.1)then
  some ((0:Int),())
 else
  Zf (0≤(0:Int)∧(0:Int)<b0.2.1.length)<|
  some (((b0.2.1.getD (0:Int).toNat Qp).2.1.length:Int),())
def Zvz(b0:Z4):Option (Int×Unit):=
 (Zne b0).bind fun t6=>
 some (IntKind.i64.wrap (b0.1+t6.1),())
abbrev Z1a:List PE:=[.box 1 95 (Q5) (.u false),.val 101 (.bool) (.u false)]
def Vf(r1:Qh)(t101:Bool):Option (Bool×Unit):=
 bif t101 then
  some ((r1.2.2.1==r1.2.2.2.1)&& ((r1.2.1.2.1.length:Int)==(0:Int)),())
 else
  some (false,())
def Zis(r0:Qh):Option (Bool×Unit):=
 (Zjl r0.2.1).bind fun t6=>
 (bif(!t6.1)then some ((0:Int),())else(Zxy r0.2.1)).bind fun t11=>
 let t15:Bool:=(!t6.1)|| (decide (t11.1>r0.2.2.2.1))
 (bif t15 then some (false,())else(Xs r0.2.2.2.1)).bind fun t19=>
 (bif(t15|| (!t19.1))then some (false,())else(Xs r0.2.2.2.2.1)).bind fun t25=>
 let t27:Bool:=(t15|| (!t19.1))|| (!t25.1)
 (bif(r0.2.2.1 !=(-1:Int))then(bif t27 then some (false,())else(Z3 r0.2.2.1 r0.2.2.2.1 (4611686018427387903:Int)))else some (false,())).bind fun t37=>
 bif t27|| ((r0.2.2.1 !=(-1:Int))&& (!t37.1))then
  some (false,())
 else
  (bif(r0.2.2.1 !=(-1:Int))then(Zvz r0.2.1)else some ((0:Int),())).bind fun t47=>
  let t51:Bool:=(r0.2.2.1 !=(-1:Int))&& (t47.1==r0.2.2.1)
  bif r0.1==0 then
   some ((r0.2.2.1==(-1:Int))&& (r0.2.2.2.2.1==0),())
  else
   bif r0.1==1 then
    some (((r0.2.2.1 !=(-1:Int))&& (!t51))&& (r0.2.2.2.2.1==0),())
   else
    bif r0.1==2 then
     some (t51&& (r0.2.2.2.2.1==0),())
    else
     bif r0.1==3 then
      some ((t51&& (r0.2.2.2.2.1==0))&& ((r0.2.1.2.1.length:Int)==(0:Int)),())
     else
      bif r0.1==4 then
       Vf r0 (r0.1==4)
      else
       Vf r0 (r0.1==5)
def Zq1(w0:Jq):Option (Bool×Unit):=
 (Z3 w0.2.1 (1:Int) (4096:Int)).bind fun t5=>
 (bif t5.1 then(Z3 w0.1 (1:Int) w0.2.1)else some (false,())).bind fun t11=>
 (bif(t5.1&&t11.1)then(Z3 w0.2.2.1 (1:Int) (4611686018427387903:Int))else some (false,())).bind fun t16=>
 (bif((t5.1&&t11.1)&&t16.1)then(Z3 w0.2.2.2.1 (0:Int) w0.2.2.1)else some (false,())).bind fun t23=>
 let t24:Bool:=((t5.1&&t11.1)&&t16.1)&&t23.1
 (bif t24 then(Z3 w0.2.2.2.2.1 (0:Int) w0.2.2.2.1)else some (false,())).bind fun t30=>
 let t41:Bool:=(t24&&t30.1)&& (decide (w0.2.2.1≤(IntKind.i64.wrap (w0.2.2.2.2.1+w0.1))))
 (bif t41 then(Z3 w0.2.2.2.2.2.1 (0:Int) (1000000:Int))else some (false,())).bind fun t45=>
 some (t41&&t45.1,())
def Zr7(p0:Xl):Option (Bool×Unit):=
 (Z3 p0.1 (0:Int) (7:Int)).bind fun t5=>
 some (t5.1,())
def Zmv(s0:Zn):Option (Bool×Unit):=
 (Xs s0.1).bind fun t6=>
 (bif(!t6.1)then some (false,())else(Xs s0.2.2.2.2.2.2.2.2.2.2.2.2.1)).bind fun t11=>
 (bif((!t6.1)|| (!t11.1))then some (false,())else(Zq0 s0.2.1)).bind fun t17=>
 let t19:Bool:=((!t6.1)|| (!t11.1))|| (!t17.1)
 (bif t19 then some (false,())else(Zqx s0.2.2.1)).bind fun t23=>
 (bif(t19|| (!t23.1))then some (false,())else(Zis s0.2.2.2.1)).bind fun t29=>
 let t31:Bool:=(t19|| (!t23.1))|| (!t29.1)
 (bif t31 then some (false,())else(Zq1 s0.2.2.2.2.1)).bind fun t35=>
 (bif(t31|| (!t35.1))then some (false,())else(Zr7 s0.2.2.2.2.2.1)).bind fun t41=>
 bif(t31|| (!t35.1))|| (!t41.1)then
  some (false,())
 else
  bif(((!s0.2.2.2.2.2.2.1)&& (!s0.2.2.2.2.2.2.2.1))|| (decide (s0.2.1.2.2.2.2.2.2.2.1>s0.2.2.1.2.1)))|| (decide (s0.2.2.2.1.2.2.2.1>s0.2.2.2.2.1.2.2.2.1))then
   some (false,())
  else
   bif((s0.2.2.2.2.2.2.2.2.1&& (s0.2.1.1 !=4))|| (s0.2.2.2.2.2.2.2.2.2.1&& (!s0.2.2.2.2.2.2.2.2.2.2.2.1)))|| ((s0.2.2.2.2.2.2.2.2.2.2.2.2.1 !=0)&& (!s0.2.2.2.2.2.2.2.2.2.2.2.1))then
    some (false,())
   else
    bif(!s0.2.2.2.2.2.2.1)&& (((s0.2.1.1 !=0)|| (s0.2.1.2.1.2.2.1 !=0))|| (s0.2.1.2.2.2.2.2.1 !=(-1:Int)))then
     some (false,())
    else
     some (s0.2.2.2.2.2.2.2.1|| (((s0.2.2.2.1.1==0)&& (s0.2.2.2.1.2.2.2.1==0))&& (!s0.2.2.2.2.2.2.2.2.2.2.2.1)),())
abbrev Z08:List PE:=[.val 0 (.slice 99 (Z2)) (.u false),.val 5 (.slice 99 (Z2)) (.u false),.val 6 (.int .i64) (.u false),.val 7 (.int .i64) (.u false)]
def Zbs(l0_1:List Zn)(t5:List Zn)(t6_1:Int)(t7:Int):Nat:=(t6_1-t7).toNat+1
def Ve:Nat→List Zn→List Zn→Int→Int→Option (Bool×Unit)
 |0,_,_,_,_=>none
 |N+1,l0_1,t5,t6_1,t7=>
  bif decide (t7<t6_1)then
   Zf (0≤t7∧t7<t5.length)<|
   (bif(decide (t7≥(24:Int)))then some (false,())else(Zmv (t5.getD t7.toNat Zz))).bind fun t16=>
   let t18:Bool:=(decide (t7≥(24:Int)))|| (!t16.1)
   Zf ((t18=false→((decide (t7>(0:Int)))=true→(0≤(IntKind.i64.wrap (t7-1))∧(IntKind.i64.wrap (t7-1))<l0_1.length))))<|
   bif t18|| ((decide (t7>(0:Int)))&& (decide ((l0_1.getD (IntKind.i64.wrap (t7-1)).toNat Zz).1≥(t5.getD t7.toNat Zz).1)))then
    some (false,())
   else
    Ve N l0_1 t5 t6_1 (IntKind.i64.wrap (t7+1))
  else
   some (true,())
def Zb6(l0:List Zn):Option (Bool×Unit):=
 Ve (Zbs l0 l0 (l0.length:Int) (0:Int)) l0 l0 (l0.length:Int) (0:Int)
def Zs1(c0:Zjp):Option (Bool×Unit):=
 (Z3 c0.1 (0:Int) (1152921504606846976:Int)).bind fun t5=>
 (bif t5.1 then(Z3 c0.2.1 (0:Int) c0.1)else some (false,())).bind fun t11=>
 (bif(t5.1&&t11.1)then(Z3 c0.2.2.1 (-1:Int) c0.1)else some (false,())).bind fun t18=>
 some ((t5.1&&t11.1)&&t18.1,())
def Zs0(a0:Kw):Option (Bool×Unit):=
 (Z3 a0.1 (0:Int) (1000:Int)).bind fun t5=>
 (bif t5.1 then(Z3 a0.2.1 a0.1 (1152921504606846976:Int))else some (false,())).bind fun t11=>
 (bif(t5.1&&t11.1)then(Z3 a0.2.2.1 (0:Int) a0.2.1)else some (false,())).bind fun t18=>
 (bif((t5.1&&t11.1)&&t18.1)then(Z3 a0.2.2.2.1 (0:Int) a0.2.2.1)else some (false,())).bind fun t25=>
 some ((((t5.1&&t11.1)&&t18.1)&&t25.1)&& (decide (a0.2.1≤(IntKind.i64.wrap (a0.2.2.2.1+a0.1)))),())
def Zmw(kind0:Int):Option (List UInt8×Unit):=
 bif kind0==4 then
  some (([114,101,115,101,116]:List UInt8),())
 else
  bif kind0==5 then
   some (([115,116,111,112]:List UInt8),())
  else
   bif kind0==8 then
    some (([115,116,114,101,97,109]:List UInt8),())
   else
    bif kind0==16 then
     some (([109,97,120,100,97,116,97]:List UInt8),())
    else
     bif kind0==17 then
      some (([109,97,120,115,116,114,101,97,109,100,97,116,97]:List UInt8),())
     else
      bif kind0==18 then
       some (([109,97,120,115,116,114,101,97,109,115]:List UInt8),())
      else
       bif kind0==20 then
        some (([100,97,116,97,98,108,111,99,107,101,100]:List UInt8),())
       else
        bif kind0==21 then
         some (([115,116,114,101,97,109,100,97,116,97,98,108,111,99,107,101,100]:List UInt8),())
        else
         bif kind0==22 then
          some (([115,116,114,101,97,109,115,98,108,111,99,107,101,100]:List UInt8),())
         else
          some (([]:List UInt8),())
abbrev Zwc:List PE:=[.val 5 (.bool) (.u false)]
def Jy(t5:Bool):Option (Bool×Unit):=
 bif t5 then
  some (true,())
 else
  some (false,())
def Zn4(f0:Zh):Option (Bool×Unit):=
 bif f0.1==4 then
  Jy (f0.1==4)
 else
  bif f0.1==5 then
   Jy (f0.1==5)
  else
   bif f0.1==8 then
    Jy (f0.1==8)
   else
    bif f0.1==17 then
     Jy (f0.1==17)
    else
     Jy (f0.1==21)
abbrev Qoz:List PE:=[.box 1 115 (Zt) (.u false),.box 2 115 (Zt) (.u false),.box 3 115 (Zt) (.u false),.val 41 (.bool) (.u false)]
def Zx2(f1_1:Zh)(t2_1:Zh)(out3_1:Zh)(t41:Bool):Option (Zh×Unit):=
 bif t41 then
  some ((out3_1.1,(out3_1.2.1,(out3_1.2.2.1,(out3_1.2.2.2.1,(out3_1.2.2.2.2.1,(out3_1.2.2.2.2.2.1,(f1_1.2.2.2.2.2.2.1,(out3_1.2.2.2.2.2.2.2.1,(f1_1.2.2.2.2.2.2.2.2.1,out3_1.2.2.2.2.2.2.2.2.2))))))))),())
 else
  some ((out3_1.1,(out3_1.2.1,(out3_1.2.2.1,(out3_1.2.2.2.1,(out3_1.2.2.2.2.1,(out3_1.2.2.2.2.2.1,(f1_1.2.2.2.2.2.2.1,out3_1.2.2.2.2.2.2.2))))))),())
abbrev Qoy:List PE:=[.box 1 115 (Zt) (.u false),.box 2 115 (Zt) (.u false),.box 3 115 (Zt) (.u false)]
def Zx1(f1:Zh)(t2:Zh)(out3:Zh):Option (Zh×Unit):=
 bif f1.1==4 then
  some ((out3.1,(out3.2.1,(out3.2.2.1,(out3.2.2.2.1,(out3.2.2.2.2.1,(f1.2.2.2.2.2.1,(out3.2.2.2.2.2.2.1,(f1.2.2.2.2.2.2.2.1,out3.2.2.2.2.2.2.2.2)))))))),())
 else
  bif f1.1==5 then
   some ((out3.1,(out3.2.1,(out3.2.2.1,(out3.2.2.2.1,(out3.2.2.2.2.1,(f1.2.2.2.2.2.1,out3.2.2.2.2.2.2)))))),())
  else
   bif f1.1==8 then
    some ((out3.1,(out3.2.1,(f1.2.2.1,(f1.2.2.2.1,(f1.2.2.2.2.1,out3.2.2.2.2.2))))),())
   else
    bif f1.1==18 then
     Zx2 f1 t2 out3 (f1.1==18)
    else
     Zx2 f1 t2 out3 (f1.1==22)
def Qgb(f0:Zh):Option (Zh×Unit):=
 (Zn4 f0).bind fun t8=>
 bif t8.1 then
  Zx1 f0 Xr (f0.1,(f0.2.1,((0:Int),(([]:List UInt8),(false,((0:Int),((0:Int),((0:Int),(false,())))))))))
 else
  Zx1 f0 Xr (f0.1,((0:Int),((0:Int),(([]:List UInt8),(false,((0:Int),((0:Int),((0:Int),(false,())))))))))
def Zs2(f0:Zh):Option (Bool×Unit):=
 (Zmw f0.1).bind fun t5=>
 (bif(t5.1==([]:List UInt8))then some (Xr,())else(Qgb f0)).bind fun t10=>
 let t12:Bool:=(t5.1==([]:List UInt8))|| (!(eqV (Zt) f0 t10.1))
 (bif t12 then some (false,())else(Xs f0.2.1)).bind fun t16=>
 (bif(t12|| (!t16.1))then some (false,())else(Xs f0.2.2.1)).bind fun t22=>
 let t24:Bool:=(t12|| (!t16.1))|| (!t22.1)
 (bif t24 then some (false,())else(Xs f0.2.2.2.2.2.1)).bind fun t28=>
 (bif(t24|| (!t28.1))then some (false,())else(Xs f0.2.2.2.2.2.2.1)).bind fun t34=>
 let t36:Bool:=(t24|| (!t28.1))|| (!t34.1)
 (bif t36 then some (false,())else(Xs f0.2.2.2.2.2.2.2.1)).bind fun t40=>
 bif t36|| (!t40.1)then
  some (false,())
 else
  bif(f0.1==18)|| (f0.1==22)then
   some (decide (f0.2.2.2.2.2.2.1≤(1152921504606846976:Int)),())
  else
   some ((decide ((f0.2.2.2.1.length:Int)≤(400:Int)))&& (decide (f0.2.2.1≤(IntKind.i64.wrap ((4611686018427387903:Int)- (f0.2.2.2.1.length:Int))))),())
def Zo4(f0:Zh):Option (Bool×Unit):=
 (Zs2 f0).bind fun t4=>
 some (!t4.1,())
abbrev Ws:List PE:=[.val 0 (.slice 115 (Zt)) (.u false),.val 1 (.fnc 87) (.u false),.val 7 (.int .i64) (.u false),.val 8 (.int .i64) (.u false)]
def Q0(s0_1:List Zh)(f1:Unit)(t7_1:Int)(t8:Int):Nat:=(t7_1-t8).toNat+1
def Qb:Nat→List Zh→Unit→Int→Int→Option (Int×Unit)
 |0,_,_,_,_=>none
 |N+1,s0_1,f1,t7_1,t8=>
  bif decide (t8<t7_1)then
   Zf (0≤t8∧t8<s0_1.length)<|
   (Zo4 (s0_1.getD t8.toNat Xr)).bind fun t16=>
   bif t16.1 then
    some (t8,())
   else
    Qb N s0_1 () t7_1 (IntKind.i64.wrap (t8+1))
  else
   some ((-1:Int),())
def Xi(s0:List Zh):Option (Int×Unit):=
 Qb (Q0 s0 () (s0.length:Int) (0:Int)) s0 () (s0.length:Int) (0:Int)
def Qk(s0:List Zh):Option (Bool×Unit):=
 (Xi s0).bind fun t7=>
 some (decide (t7.1≥(0:Int)),())
abbrev Z1b:List PE:=[.val 0 (.slice 83 (J6)) (.u false),.val 1 (.int .i64) (.u false),.val 7 (.slice 83 (J6)) (.u false),.val 8 (.int .i64) (.u false),.val 9 (.int .i64) (.u false)]
def Zgn(l0_1:List Q4)(number1_1:Int)(t7:List Q4)(t8_1:Int)(t9:Int):Nat:=(t8_1-t9).toNat+1
def Zdn:Nat→List Q4→Int→List Q4→Int→Int→Option (Bool×Unit)
 |0,_,_,_,_,_=>none
 |N+1,l0_1,number1_1,t7,t8_1,t9=>
  bif decide (t9<t8_1)then
   Zf (0≤t9∧t9<t7.length)<|
   (Z3 (t7.getD t9.toNat Qz).1 (0:Int) (IntKind.i64.wrap (number1_1-1))).bind fun t18=>
   Zf (((!t18.1)=false→((decide (t9>(0:Int)))=true→(0≤(IntKind.i64.wrap (t9-1))∧(IntKind.i64.wrap (t9-1))<l0_1.length))))<|
   let t34:Bool:=(!t18.1)|| ((decide (t9>(0:Int)))&& (decide ((l0_1.getD (IntKind.i64.wrap (t9-1)).toNat Qz).1≥(t7.getD t9.toNat Qz).1)))
   (bif t34 then some (false,())else(Qk (t7.getD t9.toNat Qz).2.1)).bind fun t38=>
   bif t34||t38.1 then
    some (false,())
   else
    Zdn N l0_1 number1_1 t7 t8_1 (IntKind.i64.wrap (t9+1))
  else
   some (true,())
def Zsb(l0:List Q4)(number1:Int):Option (Bool×Unit):=
 Zdn (Zgn l0 number1 l0 (l0.length:Int) (0:Int)) l0 number1 l0 (l0.length:Int) (0:Int)
def Zwe(s0:Zn):Option (Int×Unit):=
 some (s0.2.1.2.2.2.2.2.2.2.1,())
abbrev Zo7:List PE:=[.val 1 (.fnc 90) (.u false),.val 5 (.int .i64) (.u false),.val 11 (.slice 99 (Z2)) (.u false),.val 12 (.int .i64) (.u false),.val 13 (.int .i64) (.u false)]
def Xt(number1:Unit)(sum5:Int)(t11:List Zn)(t12_1:Int)(t13:Int):Nat:=(t12_1-t13).toNat+1
def Yz:Nat→Unit→Int→List Zn→Int→Int→Option (Int×Unit)
 |0,_,_,_,_,_=>none
 |N+1,number1,sum5,t11,t12_1,t13=>
  bif decide (t13<t12_1)then
   Zf (0≤t13∧t13<t11.length)<|
   (Zwe (t11.getD t13.toNat Zz)).bind fun t20=>
   Yz N () (min (IntKind.i64.wrap (sum5+t20.1)) (4611686018427387904:Int)) t11 t12_1 (IntKind.i64.wrap (t13+1))
  else
   some (sum5,())
def Zcw(l0:List Zn):Option (Int×Unit):=
 (Zb6 l0).bind fun t9=>
 bif !t9.1 then
  some ((0:Int),())
 else
  Yz (Xt () (0:Int) l0 (l0.length:Int) (0:Int)) () (0:Int) l0 (l0.length:Int) (0:Int)
def Zko(l0:List Zn):Option (Int×Unit):=
 (Zcw l0).bind fun t4=>
 some (t4.1,())
def Zwd(s0:Zn):Option (Int×Unit):=
 some (s0.2.2.2.1.2.2.2.1,())
abbrev Zo6:List PE:=[.val 1 (.fnc 91) (.u false),.val 5 (.int .i64) (.u false),.val 11 (.slice 99 (Z2)) (.u false),.val 12 (.int .i64) (.u false),.val 13 (.int .i64) (.u false)]
def J2(number1:Unit)(sum5:Int)(t11:List Zn)(t12_1:Int)(t13:Int):Nat:=(t12_1-t13).toNat+1
def Yy:Nat→Unit→Int→List Zn→Int→Int→Option (Int×Unit)
 |0,_,_,_,_,_=>none
 |N+1,number1,sum5,t11,t12_1,t13=>
  bif decide (t13<t12_1)then
   Zf (0≤t13∧t13<t11.length)<|
   (Zwd (t11.getD t13.toNat Zz)).bind fun t20=>
   Yy N () (min (IntKind.i64.wrap (sum5+t20.1)) (4611686018427387904:Int)) t11 t12_1 (IntKind.i64.wrap (t13+1))
  else
   some (sum5,())
def Zcv(l0:List Zn):Option (Int×Unit):=
 (Zb6 l0).bind fun t9=>
 bif !t9.1 then
  some ((0:Int),())
 else
  Yy (J2 () (0:Int) l0 (l0.length:Int) (0:Int)) () (0:Int) l0 (l0.length:Int) (0:Int)
def Zkn(l0:List Zn):Option (Int×Unit):=
 (Zcv l0).bind fun t4=>
 some (t4.1,())
def Zbd(c0:Zg):Option (Bool×Unit):=
 (Zrv c0.2.1).bind fun t6=>
 (bif(!t6.1)then some (false,())else(Zrv c0.2.2.1)).bind fun t11=>
 (bif((!t6.1)|| (!t11.1))then some (false,())else(Zb6 c0.2.2.2.1)).bind fun t17=>
 let t19:Bool:=((!t6.1)|| (!t11.1))|| (!t17.1)
 (bif t19 then some (false,())else(Zqx c0.2.2.2.2.1)).bind fun t23=>
 (bif(t19|| (!t23.1))then some (false,())else(Zq1 c0.2.2.2.2.2.1)).bind fun t29=>
 bif(t19|| (!t23.1))|| (!t29.1)then
  some (false,())
 else
  (Zs1 c0.2.2.2.2.2.2.1).bind fun t35=>
  (bif(!t35.1)then some (false,())else(Zs1 c0.2.2.2.2.2.2.2.1)).bind fun t40=>
  (bif((!t35.1)|| (!t40.1))then some (false,())else(Zs0 c0.2.2.2.2.2.2.2.2.1)).bind fun t46=>
  let t48:Bool:=((!t35.1)|| (!t40.1))|| (!t46.1)
  (bif t48 then some (false,())else(Zs0 c0.2.2.2.2.2.2.2.2.2.1)).bind fun t52=>
  bif t48|| (!t52.1)then
   some (false,())
  else
   (Z3 c0.2.2.2.2.2.2.2.2.2.2.2.2.2.1 (-1:Int) (4611686018427387903:Int)).bind fun t58=>
   (bif(!t58.1)then some (false,())else(Z3 c0.2.2.2.2.2.2.2.2.2.2.2.2.2.2.1 (0:Int) (1000000:Int))).bind fun t63=>
   (bif((!t58.1)|| (!t63.1))then some (false,())else(Z3 c0.2.2.2.2.2.2.2.2.2.2.2.2.2.2.2.2.1 (0:Int) (1000000:Int))).bind fun t69=>
   let t71:Bool:=((!t58.1)|| (!t63.1))|| (!t69.1)
   (bif t71 then some (false,())else(Z3 c0.2.2.2.2.2.2.2.2.2.2.2.2.2.2.2.2.2.1 (0:Int) (255:Int))).bind fun t75=>
   bif t71|| (!t75.1)then
    some (false,())
   else
    (Zsb c0.2.2.2.2.2.2.2.2.2.2.2.2.2.2.2.1 c0.2.2.2.2.2.2.2.2.2.2.2.2.2.2.1).bind fun t82=>
    (bif t82.1 then(Zko c0.2.2.2.1)else some ((0:Int),())).bind fun t86=>
    (bif(t82.1&& (decide (t86.1≤c0.2.2.2.2.1.2.1)))then(Zkn c0.2.2.2.1)else some ((0:Int),())).bind fun t95=>
    some ((t82.1&& (decide (t86.1≤c0.2.2.2.2.1.2.1)))&& (decide (t95.1≤c0.2.2.2.2.2.1.2.2.2.1)),())
def Zj4(x0:Zy):Option (Bool×Unit):=
 (Z3 x0.1 (0:Int) (999999:Int)).bind fun t5=>
 (bif(!t5.1)then some (false,())else(Z3 (x0.2.1.length:Int) (1:Int) (400:Int))).bind fun t11=>
 some ((!t5.1)|| (!t11.1),())
abbrev V5:List PE:=[.val 0 (.slice 78 (Qs)) (.u false),.val 1 (.fnc 59) (.u false),.val 7 (.int .i64) (.u false),.val 8 (.int .i64) (.u false)]
def Qw(s0_1:List Zy)(f1:Unit)(t7_1:Int)(t8:Int):Nat:=(t7_1-t8).toNat+1
def Z9:Nat→List Zy→Unit→Int→Int→Option (Int×Unit)
 |0,_,_,_,_=>none
 |N+1,s0_1,f1,t7_1,t8=>
  bif decide (t8<t7_1)then
   Zf (0≤t8∧t8<s0_1.length)<|
   (Zj4 (s0_1.getD t8.toNat Qp)).bind fun t16=>
   bif t16.1 then
    some (t8,())
   else
    Z9 N s0_1 () t7_1 (IntKind.i64.wrap (t8+1))
  else
   some ((-1:Int),())
def Xg(s0:List Zy):Option (Int×Unit):=
 Z9 (Qw s0 () (s0.length:Int) (0:Int)) s0 () (s0.length:Int) (0:Int)
def Q6(s0:List Zy):Option (Bool×Unit):=
 (Xg s0).bind fun t7=>
 some (decide (t7.1≥(0:Int)),())
def Zip(l0:List Zy):Option (Bool×Unit):=
 (bif(decide ((l0.length:Int)≤(60:Int)))then(Q6 l0)else some (false,())).bind fun t8=>
 some ((decide ((l0.length:Int)≤(60:Int)))&& (!t8.1),())
def Zqz(t0:Yc):Option (Bool×Unit):=
 (Xs t0.1).bind fun t5=>
 some (((!t5.1)|| (decide ((t0.2.2.1.length:Int)>(4000:Int))))|| (decide ((t0.2.2.2.1.length:Int)>(4000:Int))),())
abbrev Za1:List PE:=[.val 0 (.slice 49 (W8)) (.u false),.val 1 (.fnc 35) (.u false),.val 7 (.int .i64) (.u false),.val 8 (.int .i64) (.u false)]
def Xb(s0_1:List Yc)(f1:Unit)(t7_1:Int)(t8:Int):Nat:=(t7_1-t8).toNat+1
def Qg:Nat→List Yc→Unit→Int→Int→Option (Int×Unit)
 |0,_,_,_,_=>none
 |N+1,s0_1,f1,t7_1,t8=>
  bif decide (t8<t7_1)then
   Zf (0≤t8∧t8<s0_1.length)<|
   (Zqz (s0_1.getD t8.toNat Qq)).bind fun t16=>
   bif t16.1 then
    some (t8,())
   else
    Qg N s0_1 () t7_1 (IntKind.i64.wrap (t8+1))
  else
   some ((-1:Int),())
def Xq(s0:List Yc):Option (Int×Unit):=
 Qg (Xb s0 () (s0.length:Int) (0:Int)) s0 () (s0.length:Int) (0:Int)
def Xj(s0:List Yc):Option (Bool×Unit):=
 (Xq s0).bind fun t7=>
 some (decide (t7.1≥(0:Int)),())
def Zuz(p0:Z1):Option (Bool×Unit):=
 (Zbd p0.1).bind fun t5=>
 (bif t5.1 then(Zbd p0.2.1)else some (false,())).bind fun t9=>
 let t21:Bool:=((t5.1&&t9.1)&& (!p0.1.1))&&p0.2.1.1
 (bif t21 then(Zip p0.2.2.1)else some (false,())).bind fun t25=>
 (bif(t21&&t25.1)then(Zip p0.2.2.2.1)else some (false,())).bind fun t30=>
 let t37:Bool:=((t21&&t25.1)&&t30.1)&& (decide ((p0.2.2.2.2.1.length:Int)≤(100:Int)))
 (bif t37 then(Xj p0.2.2.2.2.1)else some (false,())).bind fun t41=>
 some (t37&& (!t41.1),())
def Zqw(c0:Zg):Option (Bool×Unit):=
 some (c0.2.2.2.2.2.2.2.2.2.2.2.2.2.2.2.2.2.1 !=0,())
abbrev Zxv:List PE:=[.box 1 37 (Zl) (.u false),.val 9 (.slice 99 (Z2)) (.u false),.val 10 (.int .i64) (.u false),.val 11 (.int .i64) (.u false)]
def Zmd(c1:Zg)(t9:List Zn)(t10_1:Int)(t11:Int):Nat:=(t10_1-t11).toNat+1
def Zba:Nat→Zg→List Zn→Int→Int→Option (Bool×Unit)
 |0,_,_,_,_=>none
 |N+1,c1,t9,t10_1,t11=>
  bif decide (t11<t10_1)then
   Zf (0≤t11∧t11<t9.length)<|
   bif(t9.getD t11.toNat Zz).2.2.1.2.1 !=(t9.getD t11.toNat Zz).2.1.2.2.2.2.2.2.2.1 then
    some (false,())
   else
    Zba N c1 t9 t10_1 (IntKind.i64.wrap (t11+1))
  else
   (Zko c1.2.2.2.1).bind fun t28=>
   some (c1.2.2.2.2.1.2.1==t28.1,())
def Zj5(c0:Zg):Option (Bool×Unit):=
 (Zbd c0).bind fun t6=>
 bif !t6.1 then
  some (false,())
 else
  Zba (Zmd c0 c0.2.2.2.1 (c0.2.2.2.1.length:Int) (0:Int)) c0 c0.2.2.2.1 (c0.2.2.2.1.length:Int) (0:Int)
abbrev Zxw:List PE:=[.box 1 37 (Zl) (.u false),.val 3 (.int .i64) (.u false),.val 10 (.slice 99 (Z2)) (.u false),.val 11 (.int .i64) (.u false),.val 12 (.int .i64) (.u false)]
def Zme(c1:Zg)(read3:Int)(t10:List Zn)(t11_1:Int)(t12:Int):Nat:=(t11_1-t12).toNat+1
def Zbb:Nat→Zg→Int→List Zn→Int→Int→Option (Bool×Unit)
 |0,_,_,_,_,_=>none
 |N+1,c1,read3,t10,t11_1,t12=>
  bif decide (t12<t11_1)then
   Zf (0≤t12∧t12<t10.length)<|
   bif((t10.getD t12.toNat Zz).2.2.2.2.2.2.2.1&& ((t10.getD t12.toNat Zz).2.2.2.2.1.2.2.2.1 !=(t10.getD t12.toNat Zz).2.2.2.1.2.2.2.1))|| (decide ((t10.getD t12.toNat Zz).2.2.2.2.1.2.2.2.2.1< (t10.getD t12.toNat Zz).2.2.2.1.2.1.1))then
    some (false,())
   else
    Zbb N c1 (IntKind.i64.wrap (read3+ (t10.getD t12.toNat Zz).2.2.2.2.1.2.2.2.2.1)) t10 t11_1 (IntKind.i64.wrap (t12+1))
  else
   (Zkn c1.2.2.2.1).bind fun t48=>
   some ((c1.2.2.2.2.2.1.2.2.2.1==t48.1)&& (c1.2.2.2.2.2.1.2.2.2.2.1==read3),())
def Zj6(c0:Zg):Option (Bool×Unit):=
 (Zbd c0).bind fun t7=>
 bif !t7.1 then
  some (false,())
 else
  Zbb (Zme c0 (0:Int) c0.2.2.2.1 (c0.2.2.2.1.length:Int) (0:Int)) c0 (0:Int) c0.2.2.2.1 (c0.2.2.2.1.length:Int) (0:Int)
abbrev Z7v:List PE:=[.val 1 (.int .i64) (.u false),.val 5 (.slice 124 (Zr)) (.u true),.val 11 (.slice 83 (J6)) (.u false),.val 12 (.int .i64) (.u false),.val 13 (.int .i64) (.u false),.val 18 (.slice 115 (Zt)) (.u false),.val 19 (.int .i64) (.u false),.val 20 (.int .i64) (.u false)]
def Zes(id1_2:Int)(out5_1:List Zd)(t11_1:List Q4)(t12_2:Int)(t13_1:Int)(t18:List Zh)(t19_1:Int)(t20:Int):Nat:=(t19_1-t20).toNat+1
def Zar(K1: (Int×List Zd×List Q4×Int×Int×Unit)→Option (List Zd×Unit)):Nat→Int→List Zd→List Q4→Int→Int→List Zh→Int→Int→Option (List Zd×Unit)
 |0,_,_,_,_,_,_,_,_=>none
 |N+1,id1_2,out5_1,t11_1,t12_2,t13_1,t18,t19_1,t20=>
  bif decide (t20<t19_1)then
   Zf (0≤t20∧t20<t18.length)<|
   bif((t18.getD t20.toNat Xr).1==8)&& ((t18.getD t20.toNat Xr).2.1==id1_2)then
    (Zjk out5_1 ((t18.getD t20.toNat Xr).2.2.1,(IntKind.i64.wrap ((t18.getD t20.toNat Xr).2.2.1+ ((t18.getD t20.toNat Xr).2.2.2.1.length:Int)),()))).bind fun t43=>
    Zar K1 N id1_2 t43.1 t11_1 t12_2 t13_1 t18 t19_1 (IntKind.i64.wrap (t20+1))
   else
    Zar K1 N id1_2 out5_1 t11_1 t12_2 t13_1 t18 t19_1 (IntKind.i64.wrap (t20+1))
  else
   K1 (id1_2,out5_1,t11_1,t12_2,IntKind.i64.wrap (t13_1+1),())
abbrev Z7u:List PE:=[.val 1 (.int .i64) (.u false),.val 5 (.slice 124 (Zr)) (.u true),.val 11 (.slice 83 (J6)) (.u false),.val 12 (.int .i64) (.u false),.val 13 (.int .i64) (.u false)]
def Zqe(id1_1:Int)(out5:List Zd)(t11:List Q4)(t12_1:Int)(t13:Int):Nat:=(t12_1-t13).toNat+1
def Zgp:Nat→Int→List Zd→List Q4→Int→Int→Option (List Zd×Unit)
 |0,_,_,_,_,_=>none
 |N+1,id1_1,out5,t11,t12_1,t13=>
  bif decide (t13<t12_1)then
   Zf (0≤t13∧t13<t11.length)<|
   let t19:Int:=((t11.getD t13.toNat Qz).2.1.length:Int)
   Zar (fun v=>Zgp N v.1 v.2.1 v.2.2.1 v.2.2.2.1 v.2.2.2.2.1) (Zes id1_1 out5 t11 t12_1 t13 (t11.getD t13.toNat Qz).2.1 t19 (0:Int)) id1_1 out5 t11 t12_1 t13 (t11.getD t13.toNat Qz).2.1 t19 (0:Int)
  else
   some (out5,())
def Zq3(l0:List Q4)(id1:Int):Option (List Zd×Unit):=
 Zgp (Zqe id1 ([]:List Zd) l0 (l0.length:Int) (0:Int)) id1 ([]:List Zd) l0 (l0.length:Int) (0:Int)
abbrev Zkh:List PE:=[.val 0 (.slice 124 (Zr)) (.u false),.val 1 (.slice 124 (Zr)) (.u false),.val 12 (.int .i64) (.u false),.val 13 (.int .i64) (.u false)]
def Y6(s1_0_1:List Zd)(s2_1_1:List Zd)(t12_1:Int)(t13:Int):Nat:=(t12_1-t13).toNat+1
def Q3:Nat→List Zd→List Zd→Int→Int→Option (Bool×Unit)
 |0,_,_,_,_=>none
 |N+1,s1_0_1,s2_1_1,t12_1,t13=>
  bif decide (t13<t12_1)then
   Zf (0≤t13∧t13<s1_0_1.length)<|
   Zf (0≤t13∧t13<s2_1_1.length)<|
   bif !(eqV (Zr) (s1_0_1.getD t13.toNat Zx) (s2_1_1.getD t13.toNat Zx))then
    some (false,())
   else
    Q3 N s1_0_1 s2_1_1 t12_1 (IntKind.i64.wrap (t13+1))
  else
   some (true,())
def Vg(s1_0:List Zd)(s2_1:List Zd):Option (Bool×Unit):=
 bif(s1_0.length:Int) !=(s2_1.length:Int)then
  some (false,())
 else
  Q3 (Y6 s1_0 s2_1 (s1_0.length:Int) (0:Int)) s1_0 s2_1 (s1_0.length:Int) (0:Int)
def Zlr(a0:List Zd)(b1:List Zd):Option (Bool×Unit):=
 (Vg a0 b1).bind fun t7=>
 some (t7.1,())
abbrev Zzr:List PE:=[.box 1 37 (Zl) (.u false),.val 9 (.slice 99 (Z2)) (.u false),.val 10 (.int .i64) (.u false),.val 11 (.int .i64) (.u false)]
def Zmu(c1:Zg)(t9:List Zn)(t10_1:Int)(t11:Int):Nat:=(t10_1-t11).toNat+1
def Zch:Nat→Zg→List Zn→Int→Int→Option (Bool×Unit)
 |0,_,_,_,_=>none
 |N+1,c1,t9,t10_1,t11=>
  bif decide (t11<t10_1)then
   Zf (0≤t11∧t11<t9.length)<|
   let t24:Bool:=((t9.getD t11.toNat Zz).2.1.1 !=4)&& ((t9.getD t11.toNat Zz).2.1.1 !=5)
   (bif t24 then(Zq3 c1.2.2.2.2.2.2.2.2.2.2.2.2.2.2.2.1 (t9.getD t11.toNat Zz).1)else some (([]:List Zd),())).bind fun t33=>
   (bif t24 then(Zlr (t9.getD t11.toNat Zz).2.1.2.2.2.1 t33.1)else some (false,())).bind fun t34=>
   bif t24&& (!t34.1)then
    some (false,())
   else
    Zch N c1 t9 t10_1 (IntKind.i64.wrap (t11+1))
  else
   some (true,())
def Zlq(c0:Zg):Option (Bool×Unit):=
 (Zbd c0).bind fun t6=>
 bif !t6.1 then
  some (false,())
 else
  Zch (Zmu c0 c0.2.2.2.1 (c0.2.2.2.1.length:Int) (0:Int)) c0 c0.2.2.2.1 (c0.2.2.2.1.length:Int) (0:Int)
def Znd(id0:Int):Option (Bool×Unit):=
 (Xs id0).bind fun t4=>
 some (t4.1,())
def Zza(id0:Int):Option (Bool×Unit):=
 (Znd id0).bind fun t4=>
 some (t4.1&& ((bits .and .i64 id0 (1:Int))==1),())
def Z7q(server0:Bool)(id1:Int):Option (Bool×Unit):=
 (Znd id1).bind fun t6=>
 (bif t6.1 then(Zza id1)else some (false,())).bind fun t9=>
 some (t6.1&& (t9.1==server0),())
def Zsa(s0:Zn):Option (Bool×Unit):=
 some (((!s0.2.2.2.2.2.2.1)|| (s0.2.1.1==3))|| (s0.2.1.1==5),())
def Zr8(r0:Qh):Option (Bool×Unit):=
 (Zis r0).bind fun t4=>
 some (t4.1&& ((r0.1==3)|| (r0.1==5)),())
def Zr9(s0:Zn):Option (Bool×Unit):=
 (bif(!s0.2.2.2.2.2.2.2.1)then some (false,())else(Zr8 s0.2.2.2.1)).bind fun t9=>
 some ((!s0.2.2.2.2.2.2.2.1)||t9.1,())
def Zuy(s0:Zn):Option (Bool×Unit):=
 (Zmv s0).bind fun t4=>
 (bif t4.1 then(Zsa s0)else some (false,())).bind fun t7=>
 (bif(t4.1&&t7.1)then(Zr9 s0)else some (false,())).bind fun t11=>
 some ((t4.1&&t7.1)&&t11.1,())
def Zx0(id0:Int):Option (Bool×Unit):=
 (Znd id0).bind fun t4=>
 some (t4.1&& ((bits .and .i64 id0 (2:Int))==2),())
def Zwf(holds0:Bool):Option (Int×Unit):=
 bif holds0 then
  some ((1:Int),())
 else
  some ((0:Int),())
abbrev Zzq:List PE:=[.box 1 37 (Zl) (.u false),.val 3 (.int .i64) (.u false),.val 4 (.int .i64) (.u false),.box 5 121 (.arr 2 (.int .i64)) (.u false),.val 13 (.slice 99 (Z2)) (.u false),.val 14 (.int .i64) (.u false),.val 15 (.int .i64) (.u false)]
def Zmt(c1:Zg)(own3:Int)(peers4:Int)(counted5_1:List Int)(t13:List Zn)(t14_1:Int)(t15:Int):Nat:=(t14_1-t15).toNat+1
def Wk:Nat→Zg→Int→Int→List Int→List Zn→Int→Int→Option (Bool×Unit)
 |0,_,_,_,_,_,_,_=>none
 |N+1,c1,own3,peers4,counted5_1,t13,t14_1,t15=>
  bif decide (t15<t14_1)then
   Zf (0≤t15∧t15<t13.length)<|
   (Z7q c1.1 (t13.getD t15.toNat Zz).1).bind fun t23=>
   bif t23.1 then
    Wk N c1 (IntKind.i64.wrap (own3+1)) peers4 counted5_1 t13 t14_1 (IntKind.i64.wrap (t15+1))
   else
    (Zuy (t13.getD t15.toNat Zz)).bind fun t29=>
    bif !((t13.getD t15.toNat Zz).2.2.2.2.2.2.2.2.2.2.2.2.2.1==t29.1)then
     some (false,())
    else
     (Zx0 (t13.getD t15.toNat Zz).1).bind fun t35=>
     (Zwf t35.1).bind fun t36=>
     Zf (0≤t36.1∧t36.1<2)<|
     (Zwf (t13.getD t15.toNat Zz).2.2.2.2.2.2.2.2.2.2.2.2.2.1).bind fun t41=>
     Zf (0≤t36.1∧t36.1<2)<|
     Wk N c1 own3 (IntKind.i64.wrap (peers4+1)) (counted5_1.set t36.1.toNat (IntKind.i64.wrap ((counted5_1.getD t36.1.toNat (0:Int))+t41.1))) t13 t14_1 (IntKind.i64.wrap (t15+1))
  else
   some (((own3==(IntKind.i64.wrap (c1.2.2.2.2.2.2.1.2.1+c1.2.2.2.2.2.2.2.1.2.1)))&& (peers4==(IntKind.i64.wrap (c1.2.2.2.2.2.2.2.2.1.2.2.1+c1.2.2.2.2.2.2.2.2.2.1.2.2.1))))&& (eqV (.arr 2 (.int .i64)) counted5_1 ([c1.2.2.2.2.2.2.2.2.1.2.2.2.1,c1.2.2.2.2.2.2.2.2.2.1.2.2.2.1])),())
def Zlp(c0:Zg):Option (Bool×Unit):=
 (Zbd c0).bind fun t9=>
 bif !t9.1 then
  some (false,())
 else
  Wk (Zmt c0 (0:Int) (0:Int) (List.replicate 2 (0:Int)) c0.2.2.2.1 (c0.2.2.2.1.length:Int) (0:Int)) c0 (0:Int) (0:Int) (List.replicate 2 (0:Int)) c0.2.2.2.1 (c0.2.2.2.1.length:Int) (0:Int)
def Zxz(c0:Zg):Option (List UInt8×Unit):=
 (Zbd c0).bind fun t5=>
 bif !t5.1 then
  some (([102,111,114,109]:List UInt8),())
 else
  (Zj5 c0).bind fun t9=>
  bif !t9.1 then
   some (([99,114,101,100,105,116,115]:List UInt8),())
  else
   (Zj6 c0).bind fun t13=>
   bif !t13.1 then
    some (([119,105,110,100,111,119,115]:List UInt8),())
   else
    (Zlq c0).bind fun t17=>
    bif !t17.1 then
     some (([102,108,105,103,104,116]:List UInt8),())
    else
     (Zlp c0).bind fun t21=>
     bif !t21.1 then
      some (([99,111,117,110,116,115]:List UInt8),())
     else
      some (([]:List UInt8),())
def Zkm(c0:Zg):Option (Bool×Unit):=
 (Zbd c0).bind fun t4=>
 (bif t4.1 then(Zxz c0)else some (([]:List UInt8),())).bind fun t7=>
 some (t4.1&& (t7.1==([]:List UInt8)),())
def Zqy(p0:Z1):Option (Bool×Unit):=
 (Zuz p0).bind fun t4=>
 (bif t4.1 then(Zqw p0.1)else some (false,())).bind fun t8=>
 (bif(t4.1&& (!t8.1))then(Zqw p0.2.1)else some (false,())).bind fun t14=>
 let t16:Bool:=(t4.1&& (!t8.1))&& (!t14.1)
 (bif t16 then(Zkm p0.1)else some (false,())).bind fun t20=>
 (bif(t16&&t20.1)then(Zkm p0.2.1)else some (false,())).bind fun t25=>
 some ((t16&&t20.1)&&t25.1,())
abbrev Zyo:List PE:=[.box 1 37 (Zl) (.u false),.val 3 (.int .i64) (.u false)]
def W3(c1:Zg)(i3:Int):Nat:=((c1.2.2.2.1.length:Int)-i3).toNat+1
def Vw:Nat→Zg→Int→Option (Bool×Unit)
 |0,_,_=>none
 |N+1,c1,i3=>
  (bif(decide (i3< (c1.2.2.2.1.length:Int)))then(Z6 c1)else some (false,())).bind fun t11=>
  bif(decide (i3< (c1.2.2.2.1.length:Int)))&&t11.1 then
   Zf (0≤i3∧i3<c1.2.2.2.1.length)<|
   Zf (0≤i3∧i3<c1.2.2.2.1.length)<|
   bif(c1.2.2.2.1.getD i3.toNat Zz).2.2.1.2.1 !=(c1.2.2.2.1.getD i3.toNat Zz).2.1.2.2.2.2.2.2.2.1 then
    some (false,())
   else
    Vw N c1 (IntKind.i64.wrap (i3+1))
  else
   (Z6 c1).bind fun t31=>
   (bif t31.1 then(Zeg c1.2.2.2.1)else some ((0:Int),())).bind fun t35=>
   some (t31.1&& (t35.1==c1.2.2.2.2.1.2.1),())
def Zbw(c0:Zg):Option (Bool×Unit):=
 Vw (W3 c0 (0:Int)) c0 (0:Int)
abbrev Zyp:List PE:=[.box 1 37 (Zl) (.u false),.val 3 (.int .i64) (.u false),.val 4 (.int .i64) (.u false)]
def Zey(c1:Zg)(read3:Int)(i4:Int):Nat:=((c1.2.2.2.1.length:Int)-i4).toNat+1
def Zbg:Nat→Zg→Int→Int→Option (Bool×Unit)
 |0,_,_,_=>none
 |N+1,c1,read3,i4=>
  (bif(decide (i4< (c1.2.2.2.1.length:Int)))then(Z6 c1)else some (false,())).bind fun t13=>
  bif(decide (i4< (c1.2.2.2.1.length:Int)))&&t13.1 then
   Zf (0≤i4∧i4<c1.2.2.2.1.length)<|
   bif((c1.2.2.2.1.getD i4.toNat Zz).2.2.2.2.2.2.2.1&& ((c1.2.2.2.1.getD i4.toNat Zz).2.2.2.2.1.2.2.2.1 !=(c1.2.2.2.1.getD i4.toNat Zz).2.2.2.1.2.2.2.1))|| (decide ((c1.2.2.2.1.getD i4.toNat Zz).2.2.2.2.1.2.2.2.2.1< (c1.2.2.2.1.getD i4.toNat Zz).2.2.2.1.2.1.1))then
    some (false,())
   else
    Zbg N c1 (IntKind.i64.wrap (read3+ (c1.2.2.2.1.getD i4.toNat Zz).2.2.2.2.1.2.2.2.2.1)) (IntKind.i64.wrap (i4+1))
  else
   (Z6 c1).bind fun t49=>
   (bif t49.1 then(Zef c1.2.2.2.1)else some ((0:Int),())).bind fun t53=>
   some ((t49.1&& (t53.1==c1.2.2.2.2.2.1.2.2.2.1))&& (read3==c1.2.2.2.2.2.1.2.2.2.2.1),())
def Zj8(c0:Zg):Option (Bool×Unit):=
 Zbg (Zey c0 (0:Int) (0:Int)) c0 (0:Int) (0:Int)
abbrev Z3a:List PE:=[.val 1 (.int .i64) (.u false),.box 2 37 (Zl) (.u false),.val 5 (.slice 124 (Zr)) (.u true),.val 6 (.int .i64) (.u false),.val 7 (.int .i64) (.u false)]
def Zio(K1: (Int×Zg×List Zd×Int×Unit)→Option (List Zd×Unit))(K2: (Int×Zg×List Zd×Int×Int×Unit)→Option (List Zd×Unit))(id1_3:Int)(c2_2:Zg)(out5_2:List Zd)(i6_2:Int)(k7_1:Int):Option (List Zd×Unit):=
 K2 (id1_3,c2_2,out5_2,i6_2,IntKind.i64.wrap (k7_1+1),())
abbrev Z3c:List PE:=[.val 1 (.int .i64) (.u false),.box 2 37 (Zl) (.u false),.val 5 (.slice 124 (Zr)) (.u true),.val 6 (.int .i64) (.u false),.val 7 (.int .i64) (.u false)]
def Zb3(id1_2:Int)(c2_1:Zg)(out5_1:List Zd)(i6_1:Int)(k7:Int):Nat:=(((c2_1.2.2.2.2.2.2.2.2.2.2.2.2.2.2.2.1.getD i6_1.toNat Qz).2.1.length:Int)-k7).toNat+1
def Vo(K1: (Int×Zg×List Zd×Int×Unit)→Option (List Zd×Unit)):Nat→Int→Zg→List Zd→Int→Int→Option (List Zd×Unit)
 |0,_,_,_,_,_=>none
 |N+1,id1_2,c2_1,out5_1,i6_1,k7=>
  Zf (0≤i6_1∧i6_1<c2_1.2.2.2.2.2.2.2.2.2.2.2.2.2.2.2.1.length)<|
  bif decide (k7< ((c2_1.2.2.2.2.2.2.2.2.2.2.2.2.2.2.2.1.getD i6_1.toNat Qz).2.1.length:Int))then
   Zf (0≤i6_1∧i6_1<c2_1.2.2.2.2.2.2.2.2.2.2.2.2.2.2.2.1.length)<|
   Zf (0≤k7∧k7< (c2_1.2.2.2.2.2.2.2.2.2.2.2.2.2.2.2.1.getD i6_1.toNat Qz).2.1.length)<|
   let t36:Zh:=(c2_1.2.2.2.2.2.2.2.2.2.2.2.2.2.2.2.1.getD i6_1.toNat Qz).2.1.getD k7.toNat Xr
   bif((t36.1==8)&& (t36.2.1==id1_2))&& (!(t36.2.2.2.1==([]:List UInt8)))then
    (Jb out5_1 (t36.2.2.1,(IntKind.i64.wrap (t36.2.2.1+ (t36.2.2.2.1.length:Int)),()))).bind fun t61=>
    Zio K1 (fun v=>Vo K1 N v.1 v.2.1 v.2.2.1 v.2.2.2.1 v.2.2.2.2.1) id1_2 c2_1 t61.1 i6_1 k7
   else
    Zio K1 (fun v=>Vo K1 N v.1 v.2.1 v.2.2.1 v.2.2.2.1 v.2.2.2.2.1) id1_2 c2_1 out5_1 i6_1 k7
  else
   K1 (id1_2,c2_1,out5_1,IntKind.i64.wrap (i6_1+1),())
abbrev Z3b:List PE:=[.val 1 (.int .i64) (.u false),.box 2 37 (Zl) (.u false),.val 5 (.slice 124 (Zr)) (.u true),.val 6 (.int .i64) (.u false)]
def Zhv(id1_1:Int)(c2:Zg)(out5:List Zd)(i6:Int):Nat:=((c2.2.2.2.2.2.2.2.2.2.2.2.2.2.2.2.1.length:Int)-i6).toNat+1
def Zen:Nat→Int→Zg→List Zd→Int→Option (List Zd×Unit)
 |0,_,_,_,_=>none
 |N+1,id1_1,c2,out5,i6=>
  bif decide (i6< (c2.2.2.2.2.2.2.2.2.2.2.2.2.2.2.2.1.length:Int))then
   Vo (fun v=>Zen N v.1 v.2.1 v.2.2.1 v.2.2.2.1) (Zb3 id1_1 c2 out5 i6 (0:Int)) id1_1 c2 out5 i6 (0:Int)
  else
   some (out5,())
def Zn0(c0:Zg)(id1:Int):Option (List Zd×Unit):=
 Zen (Zhv id1 c0 ([]:List Zd) (0:Int)) id1 c0 ([]:List Zd) (0:Int)
abbrev Z0c:List PE:=[.val 0 (.slice 124 (Zr)) (.u false),.val 1 (.slice 124 (Zr)) (.u false),.val 5 (.int .i64) (.u false)]
def Za4(a0_1:List Zd)(b1_1:List Zd)(i5:Int):Nat:=((a0_1.length:Int)-i5).toNat+1
def Zcm:Nat→List Zd→List Zd→Int→Option (Bool×Unit)
 |0,_,_,_=>none
 |N+1,a0_1,b1_1,i5=>
  bif decide (i5< (a0_1.length:Int))then
   Zf (0≤i5∧i5<a0_1.length)<|
   Zf (0≤i5∧i5<b1_1.length)<|
   bif !(eqV (Zr) (a0_1.getD i5.toNat Zx) (b1_1.getD i5.toNat Zx))then
    some (false,())
   else
    Zcm N a0_1 b1_1 (IntKind.i64.wrap (i5+1))
  else
   some (true,())
def Zl0(a0:List Zd)(b1:List Zd):Option (Bool×Unit):=
 bif(a0.length:Int) !=(b1.length:Int)then
  some (false,())
 else
  Zcm (Za4 a0 b1 (0:Int)) a0 b1 (0:Int)
abbrev Zz0:List PE:=[.box 1 37 (Zl) (.u false),.val 3 (.int .i64) (.u false)]
def Zf2(c1:Zg)(i3:Int):Nat:=((c1.2.2.2.1.length:Int)-i3).toNat+1
def Zci:Nat→Zg→Int→Option (Bool×Unit)
 |0,_,_=>none
 |N+1,c1,i3=>
  (bif(decide (i3< (c1.2.2.2.1.length:Int)))then(Z6 c1)else some (false,())).bind fun t12=>
  bif(decide (i3< (c1.2.2.2.1.length:Int)))&&t12.1 then
   Zf (0≤i3∧i3<c1.2.2.2.1.length)<|
   let t24:Bool:=decide ((c1.2.2.2.1.getD i3.toNat Zz).2.1.1< (4:Int))
   (bif t24 then(Zn0 c1 (c1.2.2.2.1.getD i3.toNat Zz).1)else some (([]:List Zd),())).bind fun t32=>
   (bif t24 then(Zl0 (c1.2.2.2.1.getD i3.toNat Zz).2.1.2.2.2.1 t32.1)else some (false,())).bind fun t33=>
   bif t24&& (!t33.1)then
    some (false,())
   else
    Zci N c1 (IntKind.i64.wrap (i3+1))
  else
   (Z6 c1).bind fun t37=>
   some (t37.1,())
def Zlx(c0:Zg):Option (Bool×Unit):=
 Zci (Zf2 c0 (0:Int)) c0 (0:Int)
abbrev Zzy:List PE:=[.box 1 37 (Zl) (.u false),.val 3 (.int .i64) (.u false),.val 4 (.int .i64) (.u false),.val 5 (.int .i64) (.u false),.val 6 (.int .i64) (.u false)]
def Yq(K1: (Zg×Int×Int×Int×Int×Unit)→Option (Bool×Unit))(c1_1:Zg)(own3_1:Int)(bidi4_1:Int)(uni5_1:Int)(i6_1:Int):Option (Bool×Unit):=
 K1 (c1_1,own3_1,bidi4_1,uni5_1,IntKind.i64.wrap (i6_1+1),())
abbrev Zzz:List PE:=[.box 1 37 (Zl) (.u false),.val 3 (.int .i64) (.u false),.val 4 (.int .i64) (.u false),.val 5 (.int .i64) (.u false),.val 6 (.int .i64) (.u false)]
def Zf1(c1:Zg)(own3:Int)(bidi4:Int)(uni5:Int)(i6:Int):Nat:=((c1.2.2.2.1.length:Int)-i6).toNat+1
def Ki:Nat→Zg→Int→Int→Int→Int→Option (Bool×Unit)
 |0,_,_,_,_,_=>none
 |N+1,c1,own3,bidi4,uni5,i6=>
  (bif(decide (i6< (c1.2.2.2.1.length:Int)))then(Z6 c1)else some (false,())).bind fun t15=>
  bif(decide (i6< (c1.2.2.2.1.length:Int)))&&t15.1 then
   Zf (0≤i6∧i6<c1.2.2.2.1.length)<|
   (Zd5 c1.1 (c1.2.2.2.1.getD i6.toNat Zz).1).bind fun t29=>
   bif t29.1 then
    Yq (fun v=>Ki N v.1 v.2.1 v.2.2.1 v.2.2.2.1 v.2.2.2.2.1) c1 (IntKind.i64.wrap (own3+1)) bidi4 uni5 i6
   else
    (Zk2 (c1.2.2.2.1.getD i6.toNat Zz)).bind fun t36=>
    bif !((c1.2.2.2.1.getD i6.toNat Zz).2.2.2.2.2.2.2.2.2.2.2.2.2.1==t36.1)then
     some (false,())
    else
     (bif(c1.2.2.2.1.getD i6.toNat Zz).2.2.2.2.2.2.2.2.2.2.2.2.2.1 then(Va (c1.2.2.2.1.getD i6.toNat Zz).1)else some (false,())).bind fun t44=>
     bif(c1.2.2.2.1.getD i6.toNat Zz).2.2.2.2.2.2.2.2.2.2.2.2.2.1&&t44.1 then
      Yq (fun v=>Ki N v.1 v.2.1 v.2.2.1 v.2.2.2.1 v.2.2.2.2.1) c1 own3 bidi4 (IntKind.i64.wrap (uni5+1)) i6
     else
      bif(c1.2.2.2.1.getD i6.toNat Zz).2.2.2.2.2.2.2.2.2.2.2.2.2.1 then
       Yq (fun v=>Ki N v.1 v.2.1 v.2.2.1 v.2.2.2.1 v.2.2.2.2.1) c1 own3 (IntKind.i64.wrap (bidi4+1)) uni5 i6
      else
       Yq (fun v=>Ki N v.1 v.2.1 v.2.2.1 v.2.2.2.1 v.2.2.2.2.1) c1 own3 bidi4 uni5 i6
  else
   (Z6 c1).bind fun t54=>
   some ((((t54.1&& (own3==(IntKind.i64.wrap (c1.2.2.2.2.2.2.1.2.1+c1.2.2.2.2.2.2.2.1.2.1))))&& ((IntKind.i64.wrap ((c1.2.2.2.1.length:Int)-own3))==(IntKind.i64.wrap (c1.2.2.2.2.2.2.2.2.1.2.2.1+c1.2.2.2.2.2.2.2.2.2.1.2.2.1))))&& (bidi4==c1.2.2.2.2.2.2.2.2.1.2.2.2.1))&& (uni5==c1.2.2.2.2.2.2.2.2.2.1.2.2.2.1),())
def Zlw(c0:Zg):Option (Bool×Unit):=
 Ki (Zf1 c0 (0:Int) (0:Int) (0:Int) (0:Int)) c0 (0:Int) (0:Int) (0:Int) (0:Int)
def Zkx(c0:Zg):Option (Bool×Unit):=
 (Zbw c0).bind fun t4=>
 (bif t4.1 then(Zj8 c0)else some (false,())).bind fun t7=>
 (bif(t4.1&&t7.1)then(Zlx c0)else some (false,())).bind fun t11=>
 (bif((t4.1&&t7.1)&&t11.1)then(Zlw c0)else some (false,())).bind fun t15=>
 some (((t4.1&&t7.1)&&t11.1)&&t15.1,())
def Zra(p0:Z1):Option (Bool×Unit):=
 (Zfm p0).bind fun t4=>
 (bif t4.1 then(V7 p0.1)else some (false,())).bind fun t8=>
 (bif(t4.1&& (!t8.1))then(V7 p0.2.1)else some (false,())).bind fun t14=>
 let t16:Bool:=(t4.1&& (!t8.1))&& (!t14.1)
 (bif t16 then(Zkx p0.1)else some (false,())).bind fun t20=>
 (bif(t16&&t20.1)then(Zkx p0.2.1)else some (false,())).bind fun t25=>
 some ((t16&&t20.1)&&t25.1,())
abbrev Z4f:List PE:=[.val 3 (.int .i64) (.u false),.val 7 (.slice 49 (W8)) (.u false),.val 8 (.int .i64) (.u false),.val 9 (.int .i64) (.u false)]
def Zo3(sum3:Int)(t7:List Yc)(t8_1:Int)(t9:Int):Nat:=(t8_1-t9).toNat+1
def Zbt:Nat→Int→List Yc→Int→Int→Option (Int×Unit)
 |0,_,_,_,_=>none
 |N+1,sum3,t7,t8_1,t9=>
  bif decide (t9<t8_1)then
   Zf (0≤t9∧t9<t7.length)<|
   bif !(t7.getD t9.toNat Qq).2.2.2.2.2.2.1 then
    Zbt N (IntKind.i64.wrap (sum3+ (max (IntKind.i64.wrap (((t7.getD t9.toNat Qq).2.2.1.length:Int)- ((t7.getD t9.toNat Qq).2.2.2.1.length:Int))) (0:Int)))) t7 t8_1 (IntKind.i64.wrap (t9+1))
   else
    Zbt N sum3 t7 t8_1 (IntKind.i64.wrap (t9+1))
  else
   some (sum3,())
def Zts(p0:Z1):Option (Int×Unit):=
 Zbt (Zo3 (0:Int) p0.2.2.2.2.1 (p0.2.2.2.2.1.length:Int) (0:Int)) (0:Int) p0.2.2.2.2.1 (p0.2.2.2.2.1.length:Int) (0:Int)
abbrev Z5d:List PE:=[.box 1 41 (Qe) (.u false),.val 3 (.int .i64) (.u false),.val 4 (.int .i64) (.u false)]
def Zkc(K1: (Z1×Int×Int×Unit)→Option (Int×Unit))(p1_1:Z1)(n3_1:Int)(i4_1:Int):Option (Int×Unit):=
 K1 (p1_1,n3_1,IntKind.i64.wrap (i4_1+1),())
abbrev Z5e:List PE:=[.box 1 41 (Qe) (.u false),.val 3 (.int .i64) (.u false),.val 4 (.int .i64) (.u false)]
def Zps(p1:Z1)(n3:Int)(i4:Int):Nat:=((p1.2.2.2.2.1.length:Int)-i4).toNat+1
def Zb1:Nat→Z1→Int→Int→Option (Int×Unit)
 |0,_,_,_=>none
 |N+1,p1,n3,i4=>
  bif decide (i4< (p1.2.2.2.2.1.length:Int))then
   Zf (0≤i4∧i4<p1.2.2.2.2.1.length)<|
   bif !(p1.2.2.2.2.1.getD i4.toNat Qq).2.2.2.2.2.2.1 then
    Zf (0≤i4∧i4<p1.2.2.2.2.1.length)<|
    Zf (0≤i4∧i4<p1.2.2.2.2.1.length)<|
    Zkc (fun v=>Zb1 N v.1 v.2.1 v.2.2.1) p1 (IntKind.i64.wrap (n3+ (max (0:Int) (IntKind.i64.wrap (((p1.2.2.2.2.1.getD i4.toNat Qq).2.2.1.length:Int)- ((p1.2.2.2.2.1.getD i4.toNat Qq).2.2.2.1.length:Int)))))) i4
   else
    Zkc (fun v=>Zb1 N v.1 v.2.1 v.2.2.1) p1 n3 i4
  else
   some (n3,())
def Zul(p0:Z1):Option (Int×Unit):=
 Zb1 (Zps p0 (0:Int) (0:Int)) p0 (0:Int) (0:Int)
def Zlt(code0:List Int):Option (Bool×Unit):=
 (Qo8 code0).bind fun t8=>
 bif t8.1 then
  some (true,())
 else
  (Za3 code0).bind fun t10=>
  (Zfa t10.1.1).bind fun t12=>
  (Zf8 code0).bind fun t15=>
  (Zk1 t10.1.1).bind fun t20=>
  (bif(t12.1==t20.1)then(Znc t10.1.1)else some (false,())).bind fun t24=>
  let t28:Bool:=(t12.1==t20.1)&& (t24.1==(decide (t12.1< (0:Int))))
  (bif t28 then(Zr6 t10.1.1)else some (false,())).bind fun t31=>
  (bif t28 then(Zsk t10.1.1)else some (false,())).bind fun t33=>
  (bif(t28&& (t31.1==t33.1))then(Zqy t10.1.1)else some (false,())).bind fun t38=>
  (bif(t28&& (t31.1==t33.1))then(Zra t10.1.1)else some (false,())).bind fun t40=>
  let t42:Bool:=(t28&& (t31.1==t33.1))&& (t38.1==t40.1)
  (bif t42 then(Zts t10.1.1)else some ((0:Int),())).bind fun t45=>
  (bif t42 then(Zul t10.1.1)else some ((0:Int),())).bind fun t47=>
  (bif(t42&& (t45.1==t47.1))then(Zir t15.1 t15.2.1)else some (false,())).bind fun t53=>
  (bif(t42&& (t45.1==t47.1))then(Zi3 t15.1 t15.2.1)else some (false,())).bind fun t56=>
  some ((t42&& (t45.1==t47.1))&& (t53.1==t56.1),())
end Go.Proofs.YtpadmiphiogdhaaGreat

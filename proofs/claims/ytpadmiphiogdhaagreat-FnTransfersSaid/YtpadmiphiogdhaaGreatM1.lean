/- FnTransfers: what the functions that it reaches compute, as plain functions, part 1. No condition. -/
import Derived.Test.YtpadmiphiogdhaaGreatRows
import Derived.Test.YtpadmiphiogdhaaGreatAm5
import Derived.Lib.AppendIntMem
import Derived.Lib.SplitLaws
import Derived.Lib.IndexMore
import Derived.Lib.Atoi
import Derived.Lib.AtoiBound
import Derived.Lib.Join
import Derived.Lib.ItoaNum
import Derived.Lib.ItoaLen
noncomputable section
namespace Go.Proofs.YtpadmiphiogdhaaGreat
open Go.Am
set_option maxRecDepth 100000
set_option linter.unusedVariables false
abbrev Qs:Ty:= .pair (.int .i64) (.pair (.str) (.unit))
abbrev Zy:Type:=Int×List UInt8×Unit
def Qp:Zy:=((0:Int),(([]:List UInt8),()))
abbrev Ja:Ty:= .pair (.int .i64) (.pair (.bool) (.unit))
abbrev Xl:Type:=Int×Bool×Unit
def Q8t:Xl:=((0:Int),(false,()))
abbrev Zr:Ty:= .pair (.int .i64) (.pair (.int .i64) (.unit))
abbrev Zd:Type:=Int×Int×Unit
def Zx:Zd:=((0:Int),((0:Int),()))
abbrev Zkf:Ty:= .pair (.int .i64) (Zr)
abbrev Zjp:Type:=Int×Zd
def Qy5:Zjp:=((0:Int),((0:Int),((0:Int),())))
abbrev Za9:Ty:= .pair (.int .i64) (.pair (.str) (.pair (.bool) (.unit)))
abbrev Kl:Type:=Int×List UInt8×Bool×Unit
def Zqb:Kl:=((0:Int),(([]:List UInt8),(false,())))
abbrev V1:Ty:= .pair (.slice 5 (.int .u8)) (Zr)
abbrev Qm:Type:=List Int×Zd
def Xai:Qm:=(([]:List Int),((0:Int),((0:Int),())))
abbrev Yb:Ty:= .pair (.int .i64) (Zkf)
abbrev Kw:Type:=Int×Zjp
def Qy4:Kw:=((0:Int),((0:Int),((0:Int),((0:Int),()))))
abbrev Vc:Ty:= .pair (.int .i64) (.pair (.int .i64) (Qs))
abbrev Jc:Type:=Int×Int×Zy
def Zv6:Jc:=((0:Int),((0:Int),((0:Int),(([]:List UInt8),()))))
abbrev Xf:Ty:= .pair (.int .i64) (.pair (Ja) (.unit))
abbrev Z0:Type:=Int×Xl×Unit
def Kn:Z0:=((0:Int),(((0:Int),(false,())),()))
abbrev Ye:Ty:= .pair (.int .i64) (.pair (.slice 258 (Qs)) (.unit))
abbrev Z4:Type:=Int×List Zy×Unit
def Qz9:Z4:=((0:Int),(([]:List Zy),()))
abbrev Zce:Ty:= .pair (.int .i64) (.pair (.int .i64) (.pair (.int .i64) (.pair (.slice 3 (.int .i64)) (.unit))))
abbrev Ko:Type:=Int×Int×Int×List Int×Unit
def Qxf:Ko:=((0:Int),((0:Int),((0:Int),(([]:List Int),()))))
abbrev Wi:Ty:= .pair (.int .i64) (.pair (.int .i64) (Yb))
abbrev Jq:Type:=Int×Int×Kw
def Qu5:Jq:=((0:Int),((0:Int),((0:Int),((0:Int),((0:Int),((0:Int),()))))))
abbrev W8:Ty:= .pair (.int .i64) (.pair (.bool) (.pair (.str) (.pair (.str) (.pair (.bool) (.pair (.bool) (.pair (.bool) (.unit)))))))
abbrev Yc:Type:=Int×Bool×List UInt8×List UInt8×Bool×Bool×Bool×Unit
def Qq:Yc:=((0:Int),(false,(([]:List UInt8),(([]:List UInt8),(false,(false,(false,())))))))
abbrev Zqa:Ty:= .pair (.int .i64) (.pair (.int .i64) (Wi))
abbrev Zo0:Type:=Int×Int×Jq
def Xam:Zo0:=((0:Int),((0:Int),((0:Int),((0:Int),((0:Int),((0:Int),((0:Int),((0:Int),()))))))))
abbrev Zt:Ty:= .pair (.int .i64) (.pair (.int .i64) (.pair (.int .i64) (.pair (.str) (.pair (.bool) (.pair (.int .i64) (.pair (.int .i64) (Ja)))))))
abbrev Zh:Type:=Int×Int×Int×List UInt8×Bool×Int×Int×Xl
def Xr:Zh:=((0:Int),((0:Int),((0:Int),(([]:List UInt8),(false,((0:Int),((0:Int),((0:Int),(false,())))))))))
abbrev Q5:Ty:= .pair (.int .i64) (.pair (Ye) (Zkf))
abbrev Qh:Type:=Int×Z4×Zjp
def Z3u:Qh:=((0:Int),(((0:Int),(([]:List Zy),())),((0:Int),((0:Int),((0:Int),())))))
abbrev J6:Ty:= .pair (.int .i64) (.pair (.slice 115 (Zt)) (.unit))
abbrev Q4:Type:=Int×List Zh×Unit
def Qz:Q4:=((0:Int),(([]:List Zh),()))
abbrev Z8:Ty:= .pair (.int .i64) (.pair (Zce) (.pair (.slice 124 (Zr)) (.pair (.slice 124 (Zr)) (.pair (.slice 124 (Zr)) (Yb)))))
abbrev Zq:Type:=Int×Ko×List Zd×List Zd×List Zd×Kw
def Zc5:Zq:=((0:Int),(((0:Int),((0:Int),((0:Int),(([]:List Int),())))),(([]:List Zd),(([]:List Zd),(([]:List Zd),((0:Int),((0:Int),((0:Int),((0:Int),())))))))))
abbrev Z2:Ty:= .pair (.int .i64) (.pair (Z8) (.pair (Yb) (.pair (Q5) (.pair (Wi) (.pair (Ja) (.pair (.bool) (.pair (.bool) (.pair (.bool) (.pair (.bool) (.pair (.bool) (.pair (.bool) (Ja))))))))))))
abbrev Zn:Type:=Int×Zq×Kw×Qh×Jq×Xl×Bool×Bool×Bool×Bool×Bool×Bool×Xl
def Zz:Zn:=((0:Int),(((0:Int),(((0:Int),((0:Int),((0:Int),(([]:List Int),())))),(([]:List Zd),(([]:List Zd),(([]:List Zd),((0:Int),((0:Int),((0:Int),((0:Int),()))))))))),(((0:Int),((0:Int),((0:Int),((0:Int),())))),(((0:Int),(((0:Int),(([]:List Zy),())),((0:Int),((0:Int),((0:Int),()))))),(((0:Int),((0:Int),((0:Int),((0:Int),((0:Int),((0:Int),())))))),(((0:Int),(false,())),(false,(false,(false,(false,(false,(false,((0:Int),(false,()))))))))))))))
abbrev Zl:Ty:= .pair (.bool) (.pair (Zqa) (.pair (Zqa) (.pair (.slice 99 (Z2)) (.pair (Yb) (.pair (Wi) (.pair (Zkf) (.pair (Zkf) (.pair (Yb) (.pair (Yb) (.pair (.bool) (.pair (.bool) (.pair (.bool) (.pair (.int .i64) (.pair (.int .i64) (.pair (.slice 83 (J6)) (Zr))))))))))))))))
abbrev Zg:Type:=Bool×Zo0×Zo0×List Zn×Kw×Jq×Zjp×Zjp×Kw×Kw×Bool×Bool×Bool×Int×Int×List Q4×Zd
def Wj:Zg:=(false,(((0:Int),((0:Int),((0:Int),((0:Int),((0:Int),((0:Int),((0:Int),((0:Int),())))))))),(((0:Int),((0:Int),((0:Int),((0:Int),((0:Int),((0:Int),((0:Int),((0:Int),())))))))),(([]:List Zn),(((0:Int),((0:Int),((0:Int),((0:Int),())))),(((0:Int),((0:Int),((0:Int),((0:Int),((0:Int),((0:Int),())))))),(((0:Int),((0:Int),((0:Int),()))),(((0:Int),((0:Int),((0:Int),()))),(((0:Int),((0:Int),((0:Int),((0:Int),())))),(((0:Int),((0:Int),((0:Int),((0:Int),())))),(false,(false,(false,((0:Int),((0:Int),(([]:List Q4),((0:Int),((0:Int),()))))))))))))))))))
abbrev Qe:Ty:= .pair (Zl) (.pair (Zl) (.pair (.slice 78 (Qs)) (.pair (.slice 78 (Qs)) (.pair (.slice 49 (W8)) (.unit)))))
abbrev Z1:Type:=Zg×Zg×List Zy×List Zy×List Yc×Unit
def Zb4:Z1:=((false,(((0:Int),((0:Int),((0:Int),((0:Int),((0:Int),((0:Int),((0:Int),((0:Int),())))))))),(((0:Int),((0:Int),((0:Int),((0:Int),((0:Int),((0:Int),((0:Int),((0:Int),())))))))),(([]:List Zn),(((0:Int),((0:Int),((0:Int),((0:Int),())))),(((0:Int),((0:Int),((0:Int),((0:Int),((0:Int),((0:Int),())))))),(((0:Int),((0:Int),((0:Int),()))),(((0:Int),((0:Int),((0:Int),()))),(((0:Int),((0:Int),((0:Int),((0:Int),())))),(((0:Int),((0:Int),((0:Int),((0:Int),())))),(false,(false,(false,((0:Int),((0:Int),(([]:List Q4),((0:Int),((0:Int),())))))))))))))))))),((false,(((0:Int),((0:Int),((0:Int),((0:Int),((0:Int),((0:Int),((0:Int),((0:Int),())))))))),(((0:Int),((0:Int),((0:Int),((0:Int),((0:Int),((0:Int),((0:Int),((0:Int),())))))))),(([]:List Zn),(((0:Int),((0:Int),((0:Int),((0:Int),())))),(((0:Int),((0:Int),((0:Int),((0:Int),((0:Int),((0:Int),())))))),(((0:Int),((0:Int),((0:Int),()))),(((0:Int),((0:Int),((0:Int),()))),(((0:Int),((0:Int),((0:Int),((0:Int),())))),(((0:Int),((0:Int),((0:Int),((0:Int),())))),(false,(false,(false,((0:Int),((0:Int),(([]:List Q4),((0:Int),((0:Int),())))))))))))))))))),(([]:List Zy),(([]:List Zy),(([]:List Yc),())))))
def Qo8(code0:List Int):Option (Bool×Unit):=
 some (decide ((code0.length:Int)>(1048576:Int)),())
abbrev Qlz:List PE:=[.val 0 (.slice 5 (.int .u8)) (.u false),.val 3 (.int .i64) (.u false),.val 4 (.int .i64) (.u false)]
def Zoh(code0_1:List Int)(h3:Int)(i4:Int):Nat:=((code0_1.length:Int)-i4).toNat+1
def Zm8:Nat→List Int→Int→Int→Option ((Qm)×(Unit))
 |0,_,_,_=>none
 |N+1,code0_1,h3,i4=>
  bif(decide (i4< (code0_1.length:Int)))&& (decide (i4< (4000:Int)))then
   Zf (0≤i4∧i4<code0_1.length)<|
   Zm8 N code0_1 (bits .and .i64 (IntKind.i64.wrap ((IntKind.i64.wrap ((IntKind.i64.wrap (h3*131))+ (IntKind.i64.wrap (code0_1.getD i4.toNat (0:Int)))))+7)) (1073741823:Int)) (IntKind.i64.wrap (i4+1))
  else
   some ((code0_1,((0:Int),(h3,()))),())
def Zqq(code0:List Int):Option ((Qm)×(Unit)):=
 let t7:Int:=IntKind.i64.wrap ((10101:Int)+ (code0.length:Int))
 Zm8 (Zoh code0 t7 (0:Int)) code0 t7 (0:Int)
def Zqm:Option (Zo0×Unit):=
 some (((16:Int),((8:Int),((32:Int),((16:Int),((64:Int),((2:Int),((2:Int),((4:Int),())))))))),())
def Zh6(c0:Qm):Option ((Int×Unit)×(Qm×Unit)):=
 let t10:Int:=IntKind.i64.wrap ((IntKind.i64.wrap (c0.2.2.1*6364136223846793005))+1442695040888963407)
 Zf (0≤(33:Int))<|
 Zf (0≤(45:Int))<|
 let t24:Int:=bits .and .i64 (bits .xor .i64 (t10.fdiv (2^ (min (33:Int).toNat IntKind.i64.bits))) (t10.fdiv (2^ (min (45:Int).toNat IntKind.i64.bits)))) (255:Int)
 bif decide (c0.2.1< (c0.1.length:Int))then
  Zf (0≤c0.2.1∧c0.2.1<c0.1.length)<|
  some ((bits .and .i64 (IntKind.i64.wrap (t24+ (IntKind.i64.wrap (c0.1.getD c0.2.1.toNat (0:Int))))) (255:Int),()),((c0.1,(IntKind.i64.wrap (c0.2.1+1),(t10,c0.2.2.2))),()))
 else
  some ((t24,()),((c0.1,(c0.2.1,(t10,c0.2.2.2))),()))
def Qo(c0:Qm)(n1:Int):Option ((Int×Unit)×(Qm×Unit)):=
 bif decide (n1≤(0:Int))then
  some (((0:Int),()),(c0,()))
 else
  bif decide (n1≤(256:Int))then
   (Zh6 c0).bind fun t14=>
   Zf (n1≠0)<|
   some ((Int.tmod t14.1.1 n1,()),(t14.2.1,()))
  else
   (Zh6 c0).bind fun t18=>
   (Zh6 t18.2.1).bind fun t20=>
   (Zh6 t20.2.1).bind fun t22=>
   (Zh6 t22.2.1).bind fun t24=>
   Zf (n1≠0)<|
   some ((Int.tmod (IntKind.i64.wrap ((IntKind.i64.wrap ((IntKind.i64.wrap ((IntKind.i64.wrap (t18.1.1*16777216))+ (IntKind.i64.wrap (t20.1.1*65536))))+ (IntKind.i64.wrap (t22.1.1*256))))+t24.1.1)) n1,()),(t24.2.1,()))
def Zl7(c0:Qm):Option ((Zo0×Unit)×(Qm×Unit)):=
 Option.bind Zqm fun t4=>
 (Qo c0 (3:Int)).bind fun t6=>
 bif t6.1.1==0 then
  some ((((8:Int),((4:Int),(t4.1.2.2.1,((6:Int),(t4.1.2.2.2.2.1,((1:Int),t4.1.2.2.2.2.2.2)))))),()),(t6.2.1,()))
 else
  bif t6.1.1==1 then
   some (((t4.1.1,(t4.1.2.1,(t4.1.2.2.1,(t4.1.2.2.2.1,(t4.1.2.2.2.2.1,((3:Int),((1:Int),((2:Int),t4.1.2.2.2.2.2.2.2.2)))))))),()),(t6.2.1,()))
  else
   some ((t4.1,()),(t6.2.1,()))
def Za8(n0:Int):Option (Bool×Unit):=
 some (((decide (n0>(0:Int)))&& (decide (n0≤(64:Int))))&& ((bits .and .i64 n0 (IntKind.i64.wrap (n0-1)))==0),())
def Zu(x0:Int)(low1:Int)(high2:Int):Option (Bool×Unit):=
 some ((decide (x0≥low1))&& (decide (x0≤high2)),())
def Zbk(c0:Zo0):Option (Bool×Unit):=
 (Za8 c0.1).bind fun t5=>
 (bif t5.1 then(Zu c0.2.2.1 (1:Int) (4096:Int))else some (false,())).bind fun t9=>
 (bif(t5.1&&t9.1)then(Zu c0.2.1 (1:Int) c0.2.2.1)else some (false,())).bind fun t16=>
 (bif((t5.1&&t9.1)&&t16.1)then(Zu c0.2.2.2.2.1 (1:Int) (4096:Int))else some (false,())).bind fun t21=>
 let t22:Bool:=((t5.1&&t9.1)&&t16.1)&&t21.1
 (bif t22 then(Zu c0.2.2.2.1 (1:Int) c0.2.2.2.2.1)else some (false,())).bind fun t28=>
 (bif(t22&&t28.1)then(Zu c0.2.2.2.2.2.1 (0:Int) (1000:Int))else some (false,())).bind fun t33=>
 (bif((t22&&t28.1)&&t33.1)then(Zu c0.2.2.2.2.2.2.1 (0:Int) (1000:Int))else some (false,())).bind fun t38=>
 let t39:Bool:=((t22&&t28.1)&&t33.1)&&t38.1
 (bif t39 then(Zu c0.2.2.2.2.2.2.2.1 (1:Int) (1000:Int))else some (false,())).bind fun t43=>
 some (t39&&t43.1,())
def Qd(n0:Int):Option (Bool×Unit):=
 (Zu n0 (0:Int) (4611686018427387903:Int)).bind fun t4=>
 some (t4.1,())
def Zg9(limit0:Int):Option (Kw×Bool×Unit):=
 (Qd limit0).bind fun t5=>
 bif !t5.1 then
  some (Qy4,false,())
 else
  some ((limit0,((0:Int),((-1:Int),((-1:Int),())))),true,())
def Zhb(size0:Int)(most1:Int):Option (Jq×Bool×Unit):=
 (Zu most1 (1:Int) (4096:Int)).bind fun t7=>
 (bif(!t7.1)then some (false,())else(Zu size0 (1:Int) most1)).bind fun t12=>
 bif(!t7.1)|| (!t12.1)then
  some (Qu5,false,())
 else
  some ((size0,(most1,(size0,Qy5))),true,())
def Zrd(limit0:Int):Option (Zjp×Bool×Unit):=
 (Zu limit0 (0:Int) (1152921504606846976:Int)).bind fun t5=>
 bif !t5.1 then
  some (Qy5,false,())
 else
  some ((limit0,((0:Int),((-1:Int),()))),true,())
def Zrb(most0:Int):Option (Kw×Bool×Unit):=
 (Zu most0 (0:Int) (1000:Int)).bind fun t5=>
 bif !t5.1 then
  some (Qy4,false,())
 else
  some ((most0,(most0,((0:Int),((0:Int),())))),true,())
def Zpu(server0:Bool)(own1:Zo0)(peer2:Zo0):Option (Zg×Bool×Unit):=
 (Zbk own1).bind fun t22=>
 (bif(!t22.1)then some (false,())else(Zbk peer2)).bind fun t26=>
 bif(!t22.1)|| (!t26.1)then
  some (Wj,false,())
 else
  (Zg9 peer2.2.2.2.1).bind fun t37=>
  (Zhb own1.2.2.2.1 own1.2.2.2.2.1).bind fun t47=>
  (Zrd peer2.2.2.2.2.2.1).bind fun t55=>
  (Zrd peer2.2.2.2.2.2.2.1).bind fun t63=>
  (Zrb own1.2.2.2.2.2.1).bind fun t71=>
  (Zrb own1.2.2.2.2.2.2.1).bind fun t79=>
  some ((server0,(own1,(peer2,(([]:List Zn),(t37.1,(t47.1,(t55.1,(t63.1,(t71.1,(t79.1,(false,(false,(false,((-1:Int),((0:Int),(([]:List Q4),((0:Int),((0:Int),())))))))))))))))))),true,())
def Zta(client0:Zo0)(server1:Zo0):Option (Z1×Bool×Unit):=
 (Zpu false client0 server1).bind fun t13=>
 (Zpu true server1 client0).bind fun t19=>
 bif(!t13.2.1)|| (!t19.2.1)then
  some (Zb4,false,())
 else
  some ((t13.1,(t19.1,(([]:List Zy),(([]:List Zy),(([]:List Yc),()))))),true,())
def Zou(r0:Ko):Option (Ko×Unit):=
 Zf (([]:List Int).length+r0.2.2.2.1.length≤Qv)<|
 some ((r0.1,(r0.2.1,(r0.2.2.1,(([]:List Int)++r0.2.2.2.1,())))),())
def Zf0(l0:List Zd):Option (List Zd×Unit):=
 Zf (([]:List Zd).length+l0.length≤Qv)<|
 some (([]:List Zd)++l0,())
def Zbq(s0:Zq):Option (Zq×Unit):=
 (Zou s0.2.1).bind fun t7=>
 (Zf0 s0.2.2.1).bind fun t10=>
 (Zf0 s0.2.2.2.1).bind fun t13=>
 (Zf0 s0.2.2.2.2.1).bind fun t16=>
 some ((s0.1,(t7.1,(t10.1,(t13.1,(t16.1,(s0.2.2.2.2.2.1,(s0.2.2.2.2.2.2.1,(s0.2.2.2.2.2.2.2.1,(s0.2.2.2.2.2.2.2.2.1,()))))))))),())
def Zh8(b0:Z4):Option (Z4×Unit):=
 Zf (([]:List Zy).length+b0.2.1.length≤Qv)<|
 some ((b0.1,(([]:List Zy)++b0.2.1,())),())
def Zlm(r0:Qh):Option (Qh×Unit):=
 (Zh8 r0.2.1).bind fun t7=>
 some ((r0.1,(t7.1,(r0.2.2.1,(r0.2.2.2.1,(r0.2.2.2.2.1,()))))),())
def Zc0(s0:Zn):Option (Zn×Unit):=
 (Zbq s0.2.1).bind fun t7=>
 (Zlm s0.2.2.2.1).bind fun t11=>
 some ((s0.1,(t7.1,(s0.2.2.1,(t11.1,s0.2.2.2.2)))),())
abbrev Z24:List PE:=[.val 0 (.slice 83 (J6)) (.u false),.val 3 (.slice 83 (J6)) (.u true),.val 4 (.int .i64) (.u false)]
def Zho(l0_1:List Q4)(out3:List Q4)(i4:Int):Nat:=((l0_1.length:Int)-i4).toNat+1
def Zej:Nat→List Q4→List Q4→Int→Option (List Q4×Unit)
 |0,_,_,_=>none
 |N+1,l0_1,out3,i4=>
  bif decide (i4< (l0_1.length:Int))then
   Zf (0≤i4∧i4<l0_1.length)<|
   Zf (0≤i4∧i4<l0_1.length)<|
   Zf (([]:List Zh).length+ (l0_1.getD i4.toNat Qz).2.1.length≤Qv)<|
   let t26:List Q4:=[((l0_1.getD i4.toNat Qz).1,(([]:List Zh)++ (l0_1.getD i4.toNat Qz).2.1,()))]
   Zf (out3.length+t26.length≤Qv)<|
   Zej N l0_1 (out3++t26) (IntKind.i64.wrap (i4+1))
  else
   some (out3,())
def Znx(l0:List Q4):Option (List Q4×Unit):=
 Zej (Zho l0 ([]:List Q4) (0:Int)) l0 ([]:List Q4) (0:Int)
abbrev Qdq:List PE:=[.box 1 37 (Zl) (.u false),.box 2 37 (Zl) (.u true),.box 3 37 (Zl) (.p (.u false) (.p (.u false) (.p (.u false) (.p (.u true) (.u false))))),.val 4 (.int .i64) (.u false)]
def Zlc(c1:Zg)(t2:Zg)(x3:Zg)(i4:Int):Nat:=((c1.2.2.2.1.length:Int)-i4).toNat+1
def Zjb:Nat→Zg→Zg→Zg→Int→Option (Zg×Unit)
 |0,_,_,_,_=>none
 |N+1,c1,t2,x3,i4=>
  bif decide (i4< (c1.2.2.2.1.length:Int))then
   Zf (0≤i4∧i4<c1.2.2.2.1.length)<|
   (Zc0 (c1.2.2.2.1.getD i4.toNat Zz)).bind fun t21=>
   Zf (x3.2.2.2.1.length+ ([t21.1]).length≤Qv)<|
   Zjb N c1 t2 (x3.1,(x3.2.1,(x3.2.2.1,(x3.2.2.2.1++ ([t21.1]),x3.2.2.2.2)))) (IntKind.i64.wrap (i4+1))
  else
   (Znx c1.2.2.2.2.2.2.2.2.2.2.2.2.2.2.2.1).bind fun t30=>
   some ((x3.1,(x3.2.1,(x3.2.2.1,(x3.2.2.2.1,(x3.2.2.2.2.1,(x3.2.2.2.2.2.1,(x3.2.2.2.2.2.2.1,(x3.2.2.2.2.2.2.2.1,(x3.2.2.2.2.2.2.2.2.1,(x3.2.2.2.2.2.2.2.2.2.1,(x3.2.2.2.2.2.2.2.2.2.2.1,(x3.2.2.2.2.2.2.2.2.2.2.2.1,(x3.2.2.2.2.2.2.2.2.2.2.2.2.1,(x3.2.2.2.2.2.2.2.2.2.2.2.2.2.1,(x3.2.2.2.2.2.2.2.2.2.2.2.2.2.2.1,(t30.1,x3.2.2.2.2.2.2.2.2.2.2.2.2.2.2.2.2)))))))))))))))),())
def Zw(c0:Zg):Option (Zg×Unit):=
 Zjb (Zlc c0 Wj (c0.1,(c0.2.1,(c0.2.2.1,(([]:List Zn),c0.2.2.2.2)))) (0:Int)) c0 Wj (c0.1,(c0.2.1,(c0.2.2.1,(([]:List Zn),c0.2.2.2.2)))) (0:Int)
def Ys(l0:List Zy):Option (List Zy×Unit):=
 Zf (([]:List Zy).length+l0.length≤Qv)<|
 some (([]:List Zy)++l0,())
def Zc2(p0:Z1):Option (Z1×Unit):=
 Z5 (
  (Zw p0.1).bind fun t5=>
  Z5 (
   (Zw p0.2.1).bind fun t8=>
   Z5 (
    (Ys p0.2.2.1).bind fun t11=>
    Ql 1 (
     (Ys p0.2.2.2.1).bind fun t14=>
     Zf (([]:List Yc).length+p0.2.2.2.2.1.length≤Qv)<|
     some ((t5.1,(t8.1,(t11.1,(t14.1,(([]:List Yc)++p0.2.2.2.2.1,()))))),())
    )
   ) (
    (Ys p0.2.2.1).bind fun t11=>
    (Ys p0.2.2.2.1).bind fun t14=>
    Zf (([]:List Yc).length+p0.2.2.2.2.1.length≤Qv)<|
    some ((t5.1,(t8.1,(t11.1,(t14.1,(([]:List Yc)++p0.2.2.2.2.1,()))))),())
   )
  ) (
   (Zw p0.2.1).bind fun t8=>
   (Ys p0.2.2.1).bind fun t11=>
   (Ys p0.2.2.2.1).bind fun t14=>
   Zf (([]:List Yc).length+p0.2.2.2.2.1.length≤Qv)<|
   some ((t5.1,(t8.1,(t11.1,(t14.1,(([]:List Yc)++p0.2.2.2.2.1,()))))),())
  )
 ) (
  (Zw p0.1).bind fun t5=>
  (Zw p0.2.1).bind fun t8=>
  (Ys p0.2.2.1).bind fun t11=>
  (Ys p0.2.2.2.1).bind fun t14=>
  Zf (([]:List Yc).length+p0.2.2.2.2.1.length≤Qv)<|
  some ((t5.1,(t8.1,(t11.1,(t14.1,(([]:List Yc)++p0.2.2.2.2.1,()))))),())
 )
abbrev Qhz:List PE:=[.box 1 87 (Zce) (.u false),.val 3 (.int .i64) (.u false)]
def Wp(r1:Ko)(i3:Int):Nat:=((r1.2.2.2.1.length:Int)-i3).toNat+1
def Zd7:Nat→Ko→Int→Option (Bool×Unit)
 |0,_,_=>none
 |N+1,r1,i3=>
  bif decide (i3< (r1.2.2.2.1.length:Int))then
   Zf (0≤i3∧i3<r1.2.2.2.1.length)<|
   (Zu (r1.2.2.2.1.getD i3.toNat (0:Int)) (0:Int) (255:Int)).bind fun t55=>
   bif !t55.1 then
    some (false,())
   else
    Zd7 N r1 (IntKind.i64.wrap (i3+1))
  else
   some (true,())
def Zbl(r0:Ko):Option (Bool×Unit):=
 (Za8 r0.1).bind fun t6=>
 bif(((((!t6.1)|| ((r0.2.2.2.1.length:Int) !=r0.1))|| (decide (r0.2.1< (0:Int))))|| (decide (r0.2.2.1<r0.2.1)))|| (decide ((IntKind.i64.wrap (r0.2.2.1-r0.2.1))>r0.1)))|| (decide (r0.2.2.1>(4611686018427387903:Int)))then
  some (false,())
 else
  Zd7 (Wp r0 (0:Int)) r0 (0:Int)
def Zr2(r0:Zd):Option (Bool×Unit):=
 some (((decide (r0.1≥(0:Int)))&& (decide (r0.1<r0.2.1)))&& (decide (r0.2.1≤(4611686018427387903:Int))),())
abbrev Z9i:List PE:=[.val 0 (.slice 124 (Zr)) (.u false),.val 3 (.int .i64) (.u false)]
def Zak(l0_1:List Zd)(i3:Int):Nat:=((l0_1.length:Int)-i3).toNat+1
def V0:Nat→List Zd→Int→Option (Bool×Unit)
 |0,_,_=>none
 |N+1,l0_1,i3=>
  bif decide (i3< (l0_1.length:Int))then
   Zf (0≤i3∧i3<l0_1.length)<|
   (Zr2 (l0_1.getD i3.toNat Zx)).bind fun t14=>
   Zf (((!t14.1)=false→((decide (i3>(0:Int)))=true→(0≤(IntKind.i64.wrap (i3-1))∧(IntKind.i64.wrap (i3-1))<l0_1.length))))<|
   Zf (((!t14.1)=false→((decide (i3>(0:Int)))=true→(0≤i3∧i3<l0_1.length))))<|
   bif(!t14.1)|| ((decide (i3>(0:Int)))&& (decide ((l0_1.getD (IntKind.i64.wrap (i3-1)).toNat Zx).2.1≥(l0_1.getD i3.toNat Zx).1)))then
    some (false,())
   else
    V0 N l0_1 (IntKind.i64.wrap (i3+1))
  else
   some (true,())
def Y1(l0:List Zd):Option (Bool×Unit):=
 V0 (Zak l0 (0:Int)) l0 (0:Int)
abbrev Z9b:List PE:=[.val 0 (.slice 124 (Zr)) (.u false),.box 3 124 (Zr) (.u false),.val 5 (.slice 124 (Zr)) (.u true),.val 6 (.bool) (.u false),.val 7 (.int .i64) (.u false)]
def Vu(K1: (List Zd×Zd×List Zd×Bool×Int×Unit)→Option (List Zd×Unit))(l0_2:List Zd)(r3_1:Zd)(out5_1:List Zd)(placed6_1:Bool)(i7_1:Int):Option (List Zd×Unit):=
 K1 (l0_2,r3_1,out5_1,placed6_1,IntKind.i64.wrap (i7_1+1),())
abbrev Z9c:List PE:=[.val 0 (.slice 124 (Zr)) (.u false),.box 3 124 (Zr) (.u false),.val 5 (.slice 124 (Zr)) (.u true),.val 6 (.bool) (.u false),.val 7 (.int .i64) (.u false)]
def Zgy(K1: (List Zd×Zd×List Zd×Bool×Int×Unit)→Option (List Zd×Unit))(l0_3:List Zd)(r3_2:Zd)(out5_2:List Zd)(placed6_2:Bool)(i7_2:Int):Option (List Zd×Unit):=
 Zf (0≤i7_2∧i7_2<l0_3.length)<|
 Zf (out5_2.length+ ([(l0_3.getD i7_2.toNat Zx)]).length≤Qv)<|
 Vu K1 l0_3 r3_2 (out5_2++ ([(l0_3.getD i7_2.toNat Zx)])) placed6_2 i7_2
abbrev Z9d:List PE:=[.val 0 (.slice 124 (Zr)) (.u false),.box 3 124 (Zr) (.u false),.val 5 (.slice 124 (Zr)) (.u true),.val 6 (.bool) (.u false),.val 7 (.int .i64) (.u false)]
def Zet(l0_1:List Zd)(r3:Zd)(out5:List Zd)(placed6:Bool)(i7:Int):Nat:=((l0_1.length:Int)-i7).toNat+1
def Yg:Nat→List Zd→Zd→List Zd→Bool→Int→Option (List Zd×Unit)
 |0,_,_,_,_,_=>none
 |N+1,l0_1,r3,out5,placed6,i7=>
  bif decide (i7< (l0_1.length:Int))then
   Zf (0≤i7∧i7<l0_1.length)<|
   bif decide ((l0_1.getD i7.toNat Zx).2.1<r3.1)then
    Zf (0≤i7∧i7<l0_1.length)<|
    Zf (out5.length+ ([(l0_1.getD i7.toNat Zx)]).length≤Qv)<|
    Vu (fun v=>Yg N v.1 v.2.1 v.2.2.1 v.2.2.2.1 v.2.2.2.2.1) l0_1 r3 (out5++ ([(l0_1.getD i7.toNat Zx)])) placed6 i7
   else
    Zf (0≤i7∧i7<l0_1.length)<|
    bif decide ((l0_1.getD i7.toNat Zx).1>r3.2.1)then
     bif !placed6 then
      Zf (out5.length+ ([r3]).length≤Qv)<|
      Zgy (fun v=>Yg N v.1 v.2.1 v.2.2.1 v.2.2.2.1 v.2.2.2.2.1) l0_1 r3 (out5++ ([r3])) true i7
     else
      Zgy (fun v=>Yg N v.1 v.2.1 v.2.2.1 v.2.2.2.1 v.2.2.2.2.1) l0_1 r3 out5 placed6 i7
    else
     Zf (0≤i7∧i7<l0_1.length)<|
     Zf (0≤i7∧i7<l0_1.length)<|
     Vu (fun v=>Yg N v.1 v.2.1 v.2.2.1 v.2.2.2.1 v.2.2.2.2.1) l0_1 (min r3.1 (l0_1.getD i7.toNat Zx).1,(max r3.2.1 (l0_1.getD i7.toNat Zx).2.1,r3.2.2)) out5 placed6 i7
  else
   bif !placed6 then
    Zf (out5.length+ ([r3]).length≤Qv)<|
    some (out5++ ([r3]),())
   else
    some (out5,())
def Jb(l0:List Zd)(r1:Zd):Option (List Zd×Unit):=
 (Y1 l0).bind fun t9=>
 (bif(!t9.1)then some (false,())else(Zr2 r1)).bind fun t13=>
 bif(!t9.1)|| (!t13.1)then
  (Zf0 l0).bind fun t17=>
  some (t17.1,())
 else
  Yg (Zet l0 r1 ([]:List Zd) false (0:Int)) l0 r1 ([]:List Zd) false (0:Int)
abbrev Zyv:List PE:=[.val 0 (.slice 124 (Zr)) (.u false),.val 3 (.int .i64) (.u false),.val 4 (.int .i64) (.u false)]
def W7(l0_1:List Zd)(n3:Int)(i4:Int):Nat:=((l0_1.length:Int)-i4).toNat+1
def Y3:Nat→List Zd→Int→Int→Option (Int×Unit)
 |0,_,_,_=>none
 |N+1,l0_1,n3,i4=>
  bif decide (i4< (l0_1.length:Int))then
   Zf (0≤i4∧i4<l0_1.length)<|
   Zf (0≤i4∧i4<l0_1.length)<|
   Y3 N l0_1 (IntKind.i64.wrap ((IntKind.i64.wrap (n3+ (l0_1.getD i4.toNat Zx).2.1))- (l0_1.getD i4.toNat Zx).1)) (IntKind.i64.wrap (i4+1))
  else
   some (n3,())
def Js(l0:List Zd):Option (Int×Unit):=
 (Y1 l0).bind fun t6=>
 bif !t6.1 then
  some ((-1:Int),())
 else
  Y3 (W7 l0 (0:Int) (0:Int)) l0 (0:Int) (0:Int)
abbrev Z9f:List PE:=[.val 0 (.slice 124 (Zr)) (.u false),.val 1 (.int .i64) (.u false),.val 5 (.int .i64) (.u false)]
def Zg4(K1: (List Zd×Int×Int×Unit)→Option (Int×Unit))(l0_2:List Zd)(from1_2:Int)(i5_1:Int):Option (Int×Unit):=
 K1 (l0_2,from1_2,IntKind.i64.wrap (i5_1+1),())
abbrev Z9g:List PE:=[.val 0 (.slice 124 (Zr)) (.u false),.val 1 (.int .i64) (.u false),.val 5 (.int .i64) (.u false)]
def Zjv(l0_1:List Zd)(from1_1:Int)(i5:Int):Nat:=((l0_1.length:Int)-i5).toNat+1
def Jg:Nat→List Zd→Int→Int→Option (Int×Unit)
 |0,_,_,_=>none
 |N+1,l0_1,from1_1,i5=>
  bif decide (i5< (l0_1.length:Int))then
   Zf (0≤i5∧i5<l0_1.length)<|
   let t25:Bool:=decide (from1_1≥(l0_1.getD i5.toNat Zx).1)
   Zf ((t25=true→(0≤i5∧i5<l0_1.length)))<|
   bif t25&& (decide (from1_1< (l0_1.getD i5.toNat Zx).2.1))then
    Zf (0≤i5∧i5<l0_1.length)<|
    Zg4 (fun v=>Jg N v.1 v.2.1 v.2.2.1) l0_1 (l0_1.getD i5.toNat Zx).2.1 i5
   else
    Zg4 (fun v=>Jg N v.1 v.2.1 v.2.2.1) l0_1 from1_1 i5
  else
   some (from1_1,())
def Zf4(l0:List Zd)(from1:Int):Option (Int×Unit):=
 (Y1 l0).bind fun t7=>
 bif(!t7.1)|| (decide (from1< (0:Int)))then
  some ((-1:Int),())
 else
  Jg (Zjv l0 from1 (0:Int)) l0 from1 (0:Int)
def Vb(s0:Zq):Option (Int×Unit):=
 bif(s0.2.2.2.2.2.2.1==3)&& (s0.2.1.2.1==s0.2.1.2.2.1)then
  some ((3:Int),())
 else
  bif(decide (s0.2.2.2.2.2.2.1>(1:Int)))|| ((s0.2.2.2.2.2.2.1==1)&& (s0.1==2))then
   some ((2:Int),())
  else
   bif(decide (s0.2.2.2.2.2.2.2.1>(0:Int)))|| ((s0.2.2.2.2.2.2.1==1)&& (s0.1==1))then
    some ((1:Int),())
   else
    some ((0:Int),())
abbrev Z9m:List PE:=[.box 1 90 (Z8) (.u false),.val 8 (.int .i64) (.u false)]
def Zev(s1_3:Zq)(i8:Int):Nat:=((s1_3.2.2.2.2.1.length:Int)-i8).toNat+1
def Jk:Nat→Zq→Int→Option (Bool×Unit)
 |0,_,_=>none
 |N+1,s1_3,i8=>
  bif decide (i8< (s1_3.2.2.2.2.1.length:Int))then
   Zf (0≤i8∧i8<s1_3.2.2.2.2.1.length)<|
   bif decide ((s1_3.2.2.2.2.1.getD i8.toNat Zx).2.1>s1_3.2.2.2.2.2.2.2.1)then
    some (false,())
   else
    Jk N s1_3 (IntKind.i64.wrap (i8+1))
  else
   bif(!((s1_3.2.2.2.2.2.2.1==0)==(s1_3.2.2.2.2.2.1==(-1:Int))))|| ((s1_3.2.2.2.2.2.1 !=(-1:Int))&& (s1_3.2.2.2.2.2.1 !=s1_3.2.1.2.2.1))then
    some (false,())
   else
    (Vb s1_3).bind fun t244=>
    some (s1_3.1==t244.1,())
abbrev Z9l:List PE:=[.box 1 90 (Z8) (.u false),.val 7 (.int .i64) (.u false)]
def Zam(s1_2:Zq)(i7:Int):Nat:=((s1_2.2.2.2.1.length:Int)-i7).toNat+1
def Jj:Nat→Zq→Int→Option (Bool×Unit)
 |0,_,_=>none
 |N+1,s1_2,i7=>
  bif decide (i7< (s1_2.2.2.2.1.length:Int))then
   Zf (0≤i7∧i7<s1_2.2.2.2.1.length)<|
   bif decide ((s1_2.2.2.2.1.getD i7.toNat Zx).2.1>s1_2.2.2.2.2.2.2.2.1)then
    some (false,())
   else
    Jj N s1_2 (IntKind.i64.wrap (i7+1))
  else
   Jk (Zev s1_2 (0:Int)) s1_2 (0:Int)
abbrev Z9k:List PE:=[.box 1 90 (Z8) (.u false),.val 3 (.slice 124 (Zr)) (.u false),.val 5 (.int .i64) (.u false)]
def Zal(s1_1:Zq)(all3_1:List Zd)(i5:Int):Nat:=((s1_1.2.2.2.2.1.length:Int)-i5).toNat+1
def Ji:Nat→Zq→List Zd→Int→Option (Bool×Unit)
 |0,_,_,_=>none
 |N+1,s1_1,all3_1,i5=>
  bif decide (i5< (s1_1.2.2.2.2.1.length:Int))then
   Zf (0≤i5∧i5<s1_1.2.2.2.2.1.length)<|
   (Jb all3_1 (s1_1.2.2.2.2.1.getD i5.toNat Zx)).bind fun t134=>
   Ji N s1_1 t134.1 (IntKind.i64.wrap (i5+1))
  else
   (Js s1_1.2.2.1).bind fun t137=>
   (Js s1_1.2.2.2.1).bind fun t140=>
   (Js s1_1.2.2.2.2.1).bind fun t144=>
   (Js all3_1).bind fun t147=>
   let t158:Bool:=(t147.1 !=s1_1.2.1.2.2.1)|| ((IntKind.i64.wrap ((IntKind.i64.wrap (t137.1+t140.1))+t144.1)) !=s1_1.2.1.2.2.1)
   Zf ((t158=false→((decide (s1_1.2.1.2.2.1>(0:Int)))=true→(0≤(0:Int)∧(0:Int)<all3_1.length))))<|
   let t174:Bool:=t158|| ((decide (s1_1.2.1.2.2.1>(0:Int)))&& ((all3_1.getD (0:Int).toNat Zx).2.1 !=s1_1.2.1.2.2.1))
   (bif t174 then some ((0:Int),())else(Zf4 s1_1.2.2.2.2.1 (0:Int))).bind fun t178=>
   bif(t174|| (t178.1 !=s1_1.2.1.2.1))|| (s1_1.2.2.2.2.2.2.2.2.1 !=0)then
    some (false,())
   else
    Jj (Zam s1_1 (0:Int)) s1_1 (0:Int)
abbrev Z9j:List PE:=[.box 1 90 (Z8) (.u false),.val 3 (.slice 124 (Zr)) (.u false),.val 4 (.int .i64) (.u false)]
def J0(s1:Zq)(all3:List Zd)(i4:Int):Nat:=((s1.2.2.2.1.length:Int)-i4).toNat+1
def Jh:Nat→Zq→List Zd→Int→Option (Bool×Unit)
 |0,_,_,_=>none
 |N+1,s1,all3,i4=>
  bif decide (i4< (s1.2.2.2.1.length:Int))then
   Zf (0≤i4∧i4<s1.2.2.2.1.length)<|
   (Jb all3 (s1.2.2.2.1.getD i4.toNat Zx)).bind fun t120=>
   Jh N s1 t120.1 (IntKind.i64.wrap (i4+1))
  else
   Ji (Zal s1 all3 (0:Int)) s1 all3 (0:Int)
def Yd(s0:Zq):Option (Bool×Unit):=
 (Zbl s0.2.1).bind fun t11=>
 (bif(!t11.1)then some (false,())else(Y1 s0.2.2.1)).bind fun t16=>
 (bif((!t11.1)|| (!t16.1))then some (false,())else(Y1 s0.2.2.2.1)).bind fun t22=>
 let t24:Bool:=((!t11.1)|| (!t16.1))|| (!t22.1)
 (bif t24 then some (false,())else(Y1 s0.2.2.2.2.1)).bind fun t28=>
 (bif(t24|| (!t28.1))then some (false,())else(Zu s0.2.2.2.2.2.2.2.1 (0:Int) s0.2.1.2.2.1)).bind fun t37=>
 let t39:Bool:=(t24|| (!t28.1))|| (!t37.1)
 (bif t39 then some (false,())else(Qd s0.2.2.2.2.2.2.2.2.1)).bind fun t43=>
 (bif(t39|| (!t43.1))then some (false,())else(Zu s0.2.2.2.2.2.2.1 (0:Int) (3:Int))).bind fun t49=>
 bif(t39|| (!t43.1))|| (!t49.1)then
  some (false,())
 else
  bif(s0.1==4)|| (s0.1==5)then
   some (((((((s0.2.1.2.1==s0.2.1.2.2.1)&& ((s0.2.2.1.length:Int)==(0:Int)))&& ((s0.2.2.2.1.length:Int)==(0:Int)))&& ((s0.2.2.2.2.1.length:Int)==(0:Int)))&& (s0.2.2.2.2.2.1==s0.2.2.2.2.2.2.2.1))&& (s0.2.2.2.2.2.2.1==0))&& (s0.2.2.2.2.2.2.2.1==s0.2.1.2.2.1),())
  else
   Jh (J0 s0 s0.2.2.1 (0:Int)) s0 s0.2.2.1 (0:Int)
def Y0(c0:Kw):Option (Bool×Unit):=
 (Qd c0.1).bind fun t5=>
 (bif t5.1 then(Zu c0.2.1 (0:Int) c0.1)else some (false,())).bind fun t11=>
 (bif(t5.1&&t11.1)then(Zu c0.2.2.1 (-1:Int) c0.1)else some (false,())).bind fun t18=>
 (bif((t5.1&&t11.1)&&t18.1)then(Zu c0.2.2.2.1 (-1:Int) c0.1)else some (false,())).bind fun t25=>
 some (((t5.1&&t11.1)&&t18.1)&&t25.1,())
abbrev Z9h:List PE:=[.box 1 93 (Ye) (.u false),.val 3 (.int .i64) (.u false),.val 4 (.int .i64) (.u false)]
def Zjw(b1:Z4)(end3:Int)(i4:Int):Nat:=((b1.2.1.length:Int)-i4).toNat+1
def Zdi:Nat→Z4→Int→Int→Option (Bool×Unit)
 |0,_,_,_=>none
 |N+1,b1,end3,i4=>
  bif decide (i4< (b1.2.1.length:Int))then
   Zf (0≤i4∧i4<b1.2.1.length)<|
   bif((decide ((b1.2.1.getD i4.toNat Qp).1≤end3))|| ((b1.2.1.getD i4.toNat Qp).2.1==([]:List UInt8)))|| (decide ((b1.2.1.getD i4.toNat Qp).1>(IntKind.i64.wrap ((4611686018427387903:Int)- ((b1.2.1.getD i4.toNat Qp).2.1.length:Int)))))then
    some (false,())
   else
    Zdi N b1 (IntKind.i64.wrap ((b1.2.1.getD i4.toNat Qp).1+ ((b1.2.1.getD i4.toNat Qp).2.1.length:Int))) (IntKind.i64.wrap (i4+1))
  else
   (Qd b1.1).bind fun t47=>
   some (t47.1,())
def Zc9(b0:Z4):Option (Bool×Unit):=
 Zdi (Zjw b0 (IntKind.i64.wrap (b0.1-1)) (0:Int)) b0 (IntKind.i64.wrap (b0.1-1)) (0:Int)
def Zqo(b0:Z4):Option (Int×Unit):=
 (bif((b0.2.1.length:Int)==(0:Int))then some (false,())else(Zc9 b0)).bind fun t10=>
 bif((b0.2.1.length:Int)==(0:Int))|| (!t10.1)then
  some (b0.1,())
 else
  let t20:Int:=IntKind.i64.wrap ((b0.2.1.length:Int)- (1:Int))
  Zf (0≤t20∧t20<b0.2.1.length)<|
  some (IntKind.i64.wrap ((b0.2.1.getD t20.toNat Qp).1+ ((b0.2.1.getD t20.toNat Qp).2.1.length:Int)),())
def Wv(b0:Z4):Option (Int×Unit):=
 (Zc9 b0).bind fun t4=>
 let t11:Bool:=(!t4.1)|| ((b0.2.1.length:Int)==(0:Int))
 Zf ((t11=false→(0≤(0:Int)∧(0:Int)<b0.2.1.length)))<|
 bif t11|| ((b0.2.1.getD (0:Int).toNat Qp).1 !=b0.1)then
  some ((0:Int),())
 else
  Zf (0≤(0:Int)∧(0:Int)<b0.2.1.length)<|
  some (((b0.2.1.getD (0:Int).toNat Qp).2.1.length:Int),())
abbrev Z2q:List PE:=[.box 1 95 (Q5) (.u false),.val 114 (.bool) (.u false)]
def Y7(r1:Qh)(t114:Bool):Option (Bool×Unit):=
 bif t114 then
  some (((r1.2.2.1 !=(-1:Int))&& (r1.2.2.2.1==r1.2.2.1))&& ((r1.2.1.2.1.length:Int)==(0:Int)),())
 else
  some (false,())
def Yh(r0:Qh):Option (Bool×Unit):=
 (Zc9 r0.2.1).bind fun t6=>
 (bif(!t6.1)then some (false,())else(Qd r0.2.2.2.1)).bind fun t11=>
 (bif((!t6.1)|| (!t11.1))then some ((0:Int),())else(Zqo r0.2.1)).bind fun t17=>
 let t21:Bool:=((!t6.1)|| (!t11.1))|| (decide (t17.1>r0.2.2.2.1))
 (bif t21 then some (false,())else(Qd r0.2.2.2.2.1)).bind fun t25=>
 bif(((t21|| (!t25.1))|| ((r0.2.2.1 !=(-1:Int))&& (decide (r0.2.2.1<r0.2.2.2.1))))|| (decide (r0.2.2.1>(4611686018427387903:Int))))|| (decide (r0.2.2.1< (-1:Int)))then
  some (false,())
 else
  (bif(r0.2.2.1 !=(-1:Int))then(Wv r0.2.1)else some ((0:Int),())).bind fun t59=>
  let t64:Bool:=(r0.2.2.1 !=(-1:Int))&& ((IntKind.i64.wrap (r0.2.1.1+t59.1))==r0.2.2.1)
  bif r0.1==0 then
   some ((r0.2.2.1==(-1:Int))&& (r0.2.2.2.2.1==0),())
  else
   bif r0.1==1 then
    some (((r0.2.2.1 !=(-1:Int))&& (!t64))&& (r0.2.2.2.2.1==0),())
   else
    bif r0.1==2 then
     some (t64&& (r0.2.2.2.2.1==0),())
    else
     bif r0.1==3 then
      some ((t64&& ((r0.2.1.2.1.length:Int)==(0:Int)))&& (r0.2.2.2.2.1==0),())
     else
      bif r0.1==4 then
       Y7 r0 (r0.1==4)
      else
       Y7 r0 (r0.1==5)
def J5(w0:Jq):Option (Bool×Unit):=
 (Zu w0.2.1 (1:Int) (4096:Int)).bind fun t5=>
 (bif t5.1 then(Zu w0.1 (1:Int) w0.2.1)else some (false,())).bind fun t11=>
 (bif(t5.1&&t11.1)then(Zu w0.2.2.1 (1:Int) (4611686018427387903:Int))else some (false,())).bind fun t16=>
 (bif((t5.1&&t11.1)&&t16.1)then(Zu w0.2.2.2.1 (0:Int) w0.2.2.1)else some (false,())).bind fun t23=>
 let t24:Bool:=((t5.1&&t11.1)&&t16.1)&&t23.1
 (bif t24 then(Zu w0.2.2.2.2.1 (0:Int) w0.2.2.2.1)else some (false,())).bind fun t30=>
 let t41:Bool:=(t24&&t30.1)&& (decide (w0.2.2.1≤(IntKind.i64.wrap (w0.2.2.2.2.1+w0.1))))
 (bif t41 then(Zu w0.2.2.2.2.2.1 (0:Int) (1000000:Int))else some (false,())).bind fun t45=>
 some (t41&&t45.1,())
def Zca(p0:Xl):Option (Bool×Unit):=
 (Zu p0.1 (0:Int) (7:Int)).bind fun t5=>
 some (t5.1,())
def J4(s0:Zn):Option (Bool×Unit):=
 (Qd s0.1).bind fun t5=>
 (bif(!t5.1)then some (false,())else(Yd s0.2.1)).bind fun t10=>
 (bif((!t5.1)|| (!t10.1))then some (false,())else(Y0 s0.2.2.1)).bind fun t16=>
 let t18:Bool:=((!t5.1)|| (!t10.1))|| (!t16.1)
 (bif t18 then some (false,())else(Yh s0.2.2.2.1)).bind fun t22=>
 (bif(t18|| (!t22.1))then some (false,())else(J5 s0.2.2.2.2.1)).bind fun t28=>
 let t30:Bool:=(t18|| (!t22.1))|| (!t28.1)
 (bif t30 then some (false,())else(Zca s0.2.2.2.2.2.1)).bind fun t34=>
 (bif(t30|| (!t34.1))then some (false,())else(Qd s0.2.2.2.2.2.2.2.2.2.2.2.2.1)).bind fun t40=>
 bif((t30|| (!t34.1))|| (!t40.1))|| ((!s0.2.2.2.2.2.2.1)&& (!s0.2.2.2.2.2.2.2.1))then
  some (false,())
 else
  bif((((decide (s0.2.1.2.2.2.2.2.2.2.1>s0.2.2.1.2.1))|| (decide (s0.2.2.2.1.2.2.2.1>s0.2.2.2.2.1.2.2.2.1)))|| (s0.2.2.2.2.2.2.2.2.1&& (s0.2.1.1 !=4)))|| (s0.2.2.2.2.2.2.2.2.2.1&& (!s0.2.2.2.2.2.2.2.2.2.2.2.1)))|| ((s0.2.2.2.2.2.2.2.2.2.2.2.2.1 !=0)&& (!s0.2.2.2.2.2.2.2.2.2.2.2.1))then
   some (false,())
  else
   some ((s0.2.2.2.2.2.2.1|| (((s0.2.1.1==0)&& (s0.2.1.2.1.2.2.1==0))&& (s0.2.1.2.2.2.2.2.1==(-1:Int))))&& (s0.2.2.2.2.2.2.2.1|| (((s0.2.2.2.1.1==0)&& (s0.2.2.2.1.2.2.2.1==0))&& (!s0.2.2.2.2.2.2.2.2.2.2.2.1))),())
abbrev Z2e:List PE:=[.val 0 (.slice 99 (Z2)) (.u false),.val 3 (.int .i64) (.u false)]
def Vv(l0_1:List Zn)(i3:Int):Nat:=((l0_1.length:Int)-i3).toNat+1
def X6:Nat→List Zn→Int→Option (Bool×Unit)
 |0,_,_=>none
 |N+1,l0_1,i3=>
  bif decide (i3< (l0_1.length:Int))then
   Zf (0≤i3∧i3<l0_1.length)<|
   (J4 (l0_1.getD i3.toNat Zz)).bind fun t14=>
   Zf (((!t14.1)=false→((decide (i3>(0:Int)))=true→(0≤i3∧i3<l0_1.length))))<|
   Zf (((!t14.1)=false→((decide (i3>(0:Int)))=true→(0≤(IntKind.i64.wrap (i3-1))∧(IntKind.i64.wrap (i3-1))<l0_1.length))))<|
   bif(!t14.1)|| ((decide (i3>(0:Int)))&& (decide ((l0_1.getD i3.toNat Zz).1≤(l0_1.getD (IntKind.i64.wrap (i3-1)).toNat Zz).1)))then
    some (false,())
   else
    X6 N l0_1 (IntKind.i64.wrap (i3+1))
  else
   some (decide ((l0_1.length:Int)≤(24:Int)),())
def Yu(l0:List Zn):Option (Bool×Unit):=
 X6 (Vv l0 (0:Int)) l0 (0:Int)
def Za5(c0:Zjp):Option (Bool×Unit):=
 (Zu c0.1 (0:Int) (1152921504606846976:Int)).bind fun t5=>
 (bif t5.1 then(Zu c0.2.1 (0:Int) c0.1)else some (false,())).bind fun t11=>
 (bif(t5.1&&t11.1)then(Zu c0.2.2.1 (-1:Int) c0.1)else some (false,())).bind fun t18=>
 some ((t5.1&&t11.1)&&t18.1,())
def We(a0:Kw):Option (Bool×Unit):=
 (Zu a0.1 (0:Int) (1000:Int)).bind fun t5=>
 (bif t5.1 then(Zu a0.2.1 a0.1 (1152921504606846976:Int))else some (false,())).bind fun t11=>
 (bif(t5.1&&t11.1)then(Zu a0.2.2.1 (0:Int) a0.2.1)else some (false,())).bind fun t18=>
 (bif((t5.1&&t11.1)&&t18.1)then(Zu a0.2.2.2.1 (0:Int) a0.2.2.1)else some (false,())).bind fun t25=>
 some ((((t5.1&&t11.1)&&t18.1)&&t25.1)&& (decide (a0.2.1≤(IntKind.i64.wrap (a0.2.2.2.1+a0.1)))),())
def Zda(kind0:Int):Option (List UInt8×Unit):=
 bif kind0==4 then
  some (([114,101,115,101,116]:List UInt8),())
 else
  bif kind0==5 then
   some (([115,116,111,112]:List UInt8),())
  else
   bif kind0==8 then
    some (([115,116,114,101,97,109]:List UInt8),())
   else
    bif kind0==16 then
     some (([109,97,120,100,97,116,97]:List UInt8),())
    else
     bif kind0==17 then
      some (([109,97,120,115,116,114,101,97,109,100,97,116,97]:List UInt8),())
     else
      bif kind0==18 then
       some (([109,97,120,115,116,114,101,97,109,115]:List UInt8),())
      else
       bif kind0==20 then
        some (([100,97,116,97,98,108,111,99,107,101,100]:List UInt8),())
       else
        bif kind0==21 then
         some (([115,116,114,101,97,109,100,97,116,97,98,108,111,99,107,101,100]:List UInt8),())
        else
         bif kind0==22 then
          some (([115,116,114,101,97,109,115,98,108,111,99,107,101,100]:List UInt8),())
         else
          some (([]:List UInt8),())
abbrev Zxb:List PE:=[.val 5 (.bool) (.u false)]
def X9(t5:Bool):Option (Bool×Unit):=
 bif t5 then
  some (true,())
 else
  some (false,())
def K6(f0:Zh):Option (Bool×Unit):=
 bif f0.1==4 then
  X9 (f0.1==4)
 else
  bif f0.1==5 then
   X9 (f0.1==5)
  else
   bif f0.1==8 then
    X9 (f0.1==8)
   else
    bif f0.1==17 then
     X9 (f0.1==17)
    else
     X9 (f0.1==21)
abbrev Qh9:List PE:=[.box 1 115 (Zt) (.u false),.box 2 115 (Zt) (.u false),.box 3 115 (Zt) (.u false),.val 41 (.bool) (.u false)]
def Zh1(f1_1:Zh)(t2_1:Zh)(x3_1:Zh)(t41:Bool):Option (Zh×Unit):=
 bif t41 then
  some ((x3_1.1,(x3_1.2.1,(x3_1.2.2.1,(x3_1.2.2.2.1,(x3_1.2.2.2.2.1,(x3_1.2.2.2.2.2.1,(f1_1.2.2.2.2.2.2.1,(x3_1.2.2.2.2.2.2.2.1,(f1_1.2.2.2.2.2.2.2.2.1,x3_1.2.2.2.2.2.2.2.2.2))))))))),())
 else
  some ((x3_1.1,(x3_1.2.1,(x3_1.2.2.1,(x3_1.2.2.2.1,(x3_1.2.2.2.2.1,(x3_1.2.2.2.2.2.1,(f1_1.2.2.2.2.2.2.1,x3_1.2.2.2.2.2.2.2))))))),())
abbrev Qh8:List PE:=[.box 1 115 (Zt) (.u false),.box 2 115 (Zt) (.u false),.box 3 115 (Zt) (.u false)]
def Zh0(f1:Zh)(t2:Zh)(x3:Zh):Option (Zh×Unit):=
 bif f1.1==4 then
  some ((x3.1,(x3.2.1,(x3.2.2.1,(x3.2.2.2.1,(x3.2.2.2.2.1,(f1.2.2.2.2.2.1,(x3.2.2.2.2.2.2.1,(f1.2.2.2.2.2.2.2.1,x3.2.2.2.2.2.2.2.2)))))))),())
 else
  bif f1.1==5 then
   some ((x3.1,(x3.2.1,(x3.2.2.1,(x3.2.2.2.1,(x3.2.2.2.2.1,(f1.2.2.2.2.2.1,x3.2.2.2.2.2.2)))))),())
  else
   bif f1.1==8 then
    some ((x3.1,(x3.2.1,(f1.2.2.1,(f1.2.2.2.1,(f1.2.2.2.2.1,x3.2.2.2.2.2))))),())
   else
    bif f1.1==18 then
     Zh1 f1 t2 x3 (f1.1==18)
    else
     Zh1 f1 t2 x3 (f1.1==22)
def Zh7(f0:Zh):Option (Zh×Unit):=
 (K6 f0).bind fun t8=>
 bif t8.1 then
  Zh0 f0 Xr (f0.1,(f0.2.1,((0:Int),(([]:List UInt8),(false,((0:Int),((0:Int),((0:Int),(false,())))))))))
 else
  Zh0 f0 Xr (f0.1,((0:Int),((0:Int),(([]:List UInt8),(false,((0:Int),((0:Int),((0:Int),(false,())))))))))
abbrev Qdl:List PE:=[.box 1 115 (Zt) (.u false),.val 60 (.bool) (.u false)]
def Zno(f1:Zh)(t60:Bool):Option (Bool×Unit):=
 bif t60 then
  some (decide (f1.2.2.2.2.2.2.1≤(1152921504606846976:Int)),())
 else
  some (true,())
def J9(f0:Zh):Option (Bool×Unit):=
 (Zda f0.1).bind fun t5=>
 (bif(t5.1==([]:List UInt8))then some (Xr,())else(Zh7 f0)).bind fun t9=>
 let t12:Bool:=(t5.1==([]:List UInt8))|| (!(eqV (Zt) t9.1 f0))
 (bif t12 then some (false,())else(Qd f0.2.1)).bind fun t16=>
 (bif(t12|| (!t16.1))then some (false,())else(Qd f0.2.2.1)).bind fun t22=>
 let t24:Bool:=(t12|| (!t16.1))|| (!t22.1)
 (bif t24 then some (false,())else(Qd f0.2.2.2.2.2.1)).bind fun t28=>
 (bif(t24|| (!t28.1))then some (false,())else(Qd f0.2.2.2.2.2.2.1)).bind fun t34=>
 let t36:Bool:=(t24|| (!t28.1))|| (!t34.1)
 (bif t36 then some (false,())else(Qd f0.2.2.2.2.2.2.2.1)).bind fun t40=>
 bif(t36|| (!t40.1))|| (decide ((f0.2.2.2.1.length:Int)>(400:Int)))then
  some (false,())
 else
  bif f0.1==8 then
   some (decide (f0.2.2.1≤(IntKind.i64.wrap ((4611686018427387903:Int)- (f0.2.2.2.1.length:Int)))),())
  else
   bif f0.1==18 then
    Zno f0 (f0.1==18)
   else
    Zno f0 (f0.1==22)
abbrev Z5r:List PE:=[.val 0 (.slice 115 (Zt)) (.u false),.val 3 (.int .i64) (.u false)]
def Jm(l0_1:List Zh)(i3:Int):Nat:=((l0_1.length:Int)-i3).toNat+1
def Wh:Nat→List Zh→Int→Option (Bool×Unit)
 |0,_,_=>none
 |N+1,l0_1,i3=>
  bif decide (i3< (l0_1.length:Int))then
   Zf (0≤i3∧i3<l0_1.length)<|
   (J9 (l0_1.getD i3.toNat Xr)).bind fun t14=>
   bif !t14.1 then
    some (false,())
   else
    Wh N l0_1 (IntKind.i64.wrap (i3+1))
  else
   some (true,())
def Zhn(l0:List Zh):Option (Bool×Unit):=
 Wh (Jm l0 (0:Int)) l0 (0:Int)
abbrev Z5o:List PE:=[.val 0 (.slice 99 (Z2)) (.u false),.val 3 (.int .i64) (.u false),.val 4 (.int .i64) (.u false)]
def Y9(l0_1:List Zn)(n3:Int)(i4:Int):Nat:=((l0_1.length:Int)-i4).toNat+1
def Jw:Nat→List Zn→Int→Int→Option (Int×Unit)
 |0,_,_,_=>none
 |N+1,l0_1,n3,i4=>
  (bif(decide (i4< (l0_1.length:Int)))then(Yu l0_1)else some (false,())).bind fun t11=>
  bif(decide (i4< (l0_1.length:Int)))&&t11.1 then
   Zf (0≤i4∧i4<l0_1.length)<|
   Jw N l0_1 (min (IntKind.i64.wrap (n3+ (l0_1.getD i4.toNat Zz).2.1.2.2.2.2.2.2.2.1)) (4611686018427387904:Int)) (IntKind.i64.wrap (i4+1))
  else
   some (n3,())
def Zeg(l0:List Zn):Option (Int×Unit):=
 Jw (Y9 l0 (0:Int) (0:Int)) l0 (0:Int) (0:Int)
abbrev Z5l:List PE:=[.val 0 (.slice 99 (Z2)) (.u false),.val 3 (.int .i64) (.u false),.val 4 (.int .i64) (.u false)]
def Y8(l0_1:List Zn)(n3:Int)(i4:Int):Nat:=((l0_1.length:Int)-i4).toNat+1
def Jv:Nat→List Zn→Int→Int→Option (Int×Unit)
 |0,_,_,_=>none
 |N+1,l0_1,n3,i4=>
  (bif(decide (i4< (l0_1.length:Int)))then(Yu l0_1)else some (false,())).bind fun t11=>
  bif(decide (i4< (l0_1.length:Int)))&&t11.1 then
   Zf (0≤i4∧i4<l0_1.length)<|
   Jv N l0_1 (min (IntKind.i64.wrap (n3+ (l0_1.getD i4.toNat Zz).2.2.2.1.2.2.2.1)) (4611686018427387904:Int)) (IntKind.i64.wrap (i4+1))
  else
   some (n3,())
def Zef(l0:List Zn):Option (Int×Unit):=
 Jv (Y8 l0 (0:Int) (0:Int)) l0 (0:Int) (0:Int)
abbrev Qhx:List PE:=[.box 1 37 (Zl) (.u false),.val 3 (.int .i64) (.u false)]
def Kj(c1:Zg)(i3:Int):Nat:=((c1.2.2.2.2.2.2.2.2.2.2.2.2.2.2.2.1.length:Int)-i3).toNat+1
def K7:Nat→Zg→Int→Option (Bool×Unit)
 |0,_,_=>none
 |N+1,c1,i3=>
  bif decide (i3< (c1.2.2.2.2.2.2.2.2.2.2.2.2.2.2.2.1.length:Int))then
   Zf (0≤i3∧i3<c1.2.2.2.2.2.2.2.2.2.2.2.2.2.2.2.1.length)<|
   (Zu (c1.2.2.2.2.2.2.2.2.2.2.2.2.2.2.2.1.getD i3.toNat Qz).1 (0:Int) (IntKind.i64.wrap (c1.2.2.2.2.2.2.2.2.2.2.2.2.2.2.1-1))).bind fun t72=>
   Zf (((!t72.1)=false→((decide (i3>(0:Int)))=true→(0≤i3∧i3<c1.2.2.2.2.2.2.2.2.2.2.2.2.2.2.2.1.length))))<|
   Zf (((!t72.1)=false→((decide (i3>(0:Int)))=true→(0≤(IntKind.i64.wrap (i3-1))∧(IntKind.i64.wrap (i3-1))<c1.2.2.2.2.2.2.2.2.2.2.2.2.2.2.2.1.length))))<|
   let t93:Bool:=(!t72.1)|| ((decide (i3>(0:Int)))&& (decide ((c1.2.2.2.2.2.2.2.2.2.2.2.2.2.2.2.1.getD i3.toNat Qz).1≤(c1.2.2.2.2.2.2.2.2.2.2.2.2.2.2.2.1.getD (IntKind.i64.wrap (i3-1)).toNat Qz).1)))
   Zf ((t93=false→(0≤i3∧i3<c1.2.2.2.2.2.2.2.2.2.2.2.2.2.2.2.1.length)))<|
   (bif t93 then some (false,())else(Zhn (c1.2.2.2.2.2.2.2.2.2.2.2.2.2.2.2.1.getD i3.toNat Qz).2.1)).bind fun t101=>
   bif t93|| (!t101.1)then
    some (false,())
   else
    K7 N c1 (IntKind.i64.wrap (i3+1))
  else
   (Zu c1.2.2.2.2.2.2.2.2.2.2.2.2.2.1 (-1:Int) (4611686018427387903:Int)).bind fun t106=>
   (bif t106.1 then(Zu c1.2.2.2.2.2.2.2.2.2.2.2.2.2.2.1 (0:Int) (1000000:Int))else some (false,())).bind fun t110=>
   (bif(t106.1&&t110.1)then(Zu c1.2.2.2.2.2.2.2.2.2.2.2.2.2.2.2.2.1 (0:Int) (1000000:Int))else some (false,())).bind fun t115=>
   (bif((t106.1&&t110.1)&&t115.1)then(Zu c1.2.2.2.2.2.2.2.2.2.2.2.2.2.2.2.2.2.1 (0:Int) (255:Int))else some (false,())).bind fun t120=>
   let t121:Bool:=((t106.1&&t110.1)&&t115.1)&&t120.1
   (bif t121 then(Zeg c1.2.2.2.1)else some ((0:Int),())).bind fun t125=>
   (bif(t121&& (decide (t125.1≤c1.2.2.2.2.1.2.1)))then(Zef c1.2.2.2.1)else some ((0:Int),())).bind fun t134=>
   some ((t121&& (decide (t125.1≤c1.2.2.2.2.1.2.1)))&& (decide (t134.1≤c1.2.2.2.2.2.1.2.2.2.1)),())
def Z6(c0:Zg):Option (Bool×Unit):=
 (Zbk c0.2.1).bind fun t6=>
 (bif(!t6.1)then some (false,())else(Zbk c0.2.2.1)).bind fun t11=>
 (bif((!t6.1)|| (!t11.1))then some (false,())else(Yu c0.2.2.2.1)).bind fun t17=>
 let t19:Bool:=((!t6.1)|| (!t11.1))|| (!t17.1)
 (bif t19 then some (false,())else(Y0 c0.2.2.2.2.1)).bind fun t23=>
 (bif(t19|| (!t23.1))then some (false,())else(J5 c0.2.2.2.2.2.1)).bind fun t29=>
 let t31:Bool:=(t19|| (!t23.1))|| (!t29.1)
 (bif t31 then some (false,())else(Za5 c0.2.2.2.2.2.2.1)).bind fun t35=>
 (bif(t31|| (!t35.1))then some (false,())else(Za5 c0.2.2.2.2.2.2.2.1)).bind fun t41=>
 let t43:Bool:=(t31|| (!t35.1))|| (!t41.1)
 (bif t43 then some (false,())else(We c0.2.2.2.2.2.2.2.2.1)).bind fun t47=>
 (bif(t43|| (!t47.1))then some (false,())else(We c0.2.2.2.2.2.2.2.2.2.1)).bind fun t53=>
 bif(t43|| (!t47.1))|| (!t53.1)then
  some (false,())
 else
  K7 (Kj c0 (0:Int)) c0 (0:Int)
abbrev Z2d:List PE:=[.val 0 (.slice 78 (Qs)) (.u false),.val 3 (.int .i64) (.u false)]
def Ku(l0_1:List Zy)(i3:Int):Nat:=((l0_1.length:Int)-i3).toNat+1
def Vh:Nat→List Zy→Int→Option (Bool×Unit)
 |0,_,_=>none
 |N+1,l0_1,i3=>
  bif decide (i3< (l0_1.length:Int))then
   Zf (0≤i3∧i3<l0_1.length)<|
   (Zu (l0_1.getD i3.toNat Qp).1 (0:Int) (999999:Int)).bind fun t15=>
   Zf (((!t15.1)=false→(0≤i3∧i3<l0_1.length)))<|
   (bif(!t15.1)then some (false,())else(Zu ((l0_1.getD i3.toNat Qp).2.1.length:Int) (1:Int) (400:Int))).bind fun t24=>
   bif(!t15.1)|| (!t24.1)then
    some (false,())
   else
    Vh N l0_1 (IntKind.i64.wrap (i3+1))
  else
   some (decide ((l0_1.length:Int)≤(60:Int)),())
def Wu(l0:List Zy):Option (Bool×Unit):=
 Vh (Ku l0 (0:Int)) l0 (0:Int)
abbrev Qhy:List PE:=[.box 1 41 (Qe) (.u false),.val 3 (.int .i64) (.u false)]
def Wo(p1:Z1)(i3:Int):Nat:=((p1.2.2.2.2.1.length:Int)-i3).toNat+1
def Zd6:Nat→Z1→Int→Option (Bool×Unit)
 |0,_,_=>none
 |N+1,p1,i3=>
  bif decide (i3< (p1.2.2.2.2.1.length:Int))then
   Zf (0≤i3∧i3<p1.2.2.2.2.1.length)<|
   (Qd (p1.2.2.2.2.1.getD i3.toNat Qq).1).bind fun t19=>
   bif((!t19.1)|| (decide (((p1.2.2.2.2.1.getD i3.toNat Qq).2.2.1.length:Int)>(4000:Int))))|| (decide (((p1.2.2.2.2.1.getD i3.toNat Qq).2.2.2.1.length:Int)>(4000:Int)))then
    some (false,())
   else
    Zd6 N p1 (IntKind.i64.wrap (i3+1))
  else
   (Z6 p1.1).bind fun t35=>
   (bif t35.1 then(Z6 p1.2.1)else some (false,())).bind fun t39=>
   let t51:Bool:=((t35.1&&t39.1)&& (!p1.1.1))&&p1.2.1.1
   (bif t51 then(Wu p1.2.2.1)else some (false,())).bind fun t55=>
   (bif(t51&&t55.1)then(Wu p1.2.2.2.1)else some (false,())).bind fun t60=>
   some (((t51&&t55.1)&&t60.1)&& (decide ((p1.2.2.2.2.1.length:Int)≤(100:Int))),())
def Zfm(p0:Z1):Option (Bool×Unit):=
 Zd6 (Wo p0 (0:Int)) p0 (0:Int)
def Zpp(kind0:Int):Option (List UInt8×Unit):=
 (Zu kind0 (1:Int) (12:Int)).bind fun t4=>
 bif !t4.1 then
  some (([]:List UInt8),())
 else
  let t6:List (List UInt8):=[([111,112,101,110]:List UInt8),([119,114,105,116,101]:List UInt8),([102,105,110,105,115,104]:List UInt8),([114,101,97,100]:List UInt8),([114,101,115,101,116]:List UInt8),([115,116,111,112]:List UInt8),([112,114,105,111,114,105,116,121]:List UInt8),([101,109,105,116]:List UInt8),([97,99,107]:List UInt8),([108,111,115,101]:List UInt8),([112,97,121,108,111,97,100]:List UInt8),([116,105,109,101]:List UInt8)]
  Zf (0≤(IntKind.i64.wrap (kind0-1))∧(IntKind.i64.wrap (kind0-1))<t6.length)<|
  some (t6.getD (IntKind.i64.wrap (kind0-1)).toNat ([]:List UInt8),())
abbrev Qd3:List PE:=[.box 1 110 (Vc) (.u false),.box 2 110 (Vc) (.u false),.box 3 110 (Vc) (.u false),.val 32 (.bool) (.u false)]
def Ze7(e1_2:Jc)(t2_2:Jc)(x3_2:Jc)(t32:Bool):Option (Jc×Unit):=
 bif t32 then
  some ((x3_2.1,(e1_2.2.1,(e1_2.2.2.1,x3_2.2.2.2))),())
 else
  some ((x3_2.1,(x3_2.2.1,(e1_2.2.2.1,x3_2.2.2.2))),())
abbrev Qd2:List PE:=[.box 1 110 (Vc) (.u false),.box 2 110 (Vc) (.u false),.box 3 110 (Vc) (.u false),.val 8 (.int .i64) (.u false),.val 18 (.bool) (.u false)]
def Zjg(e1_1:Jc)(t2_1:Jc)(x3_1:Jc)(t8_1:Int)(t18:Bool):Option (Jc×Unit):=
 bif t18 then
  some ((x3_1.1,(e1_1.2.1,(x3_1.2.2.1,(e1_1.2.2.2.1,x3_1.2.2.2.2)))),())
 else
  bif t8_1==3 then
   some ((x3_1.1,(e1_1.2.1,x3_1.2.2)),())
  else
   bif t8_1==4 then
    Ze7 e1_1 t2_1 x3_1 (t8_1==4)
   else
    bif t8_1==5 then
     Ze7 e1_1 t2_1 x3_1 (t8_1==5)
    else
     Ze7 e1_1 t2_1 x3_1 (t8_1==6)
abbrev Qd1:List PE:=[.box 1 110 (Vc) (.u false),.box 2 110 (Vc) (.u false),.box 3 110 (Vc) (.u false),.val 8 (.int .i64) (.u false),.val 12 (.bool) (.u false)]
def Zjf(e1:Jc)(t2:Jc)(x3:Jc)(t8:Int)(t12:Bool):Option (Jc×Unit):=
 bif t12 then
  some ((x3.1,(x3.2.1,(x3.2.2.1,(e1.2.2.2.1,x3.2.2.2.2)))),())
 else
  bif t8==2 then
   Zjg e1 t2 x3 t8 (t8==2)
  else
   Zjg e1 t2 x3 t8 (t8==7)
def Zp4(e0:Jc):Option (Jc×Unit):=
 bif e0.1==1 then
  Zjf e0 Zv6 (e0.1,((0:Int),((0:Int),(([]:List UInt8),())))) e0.1 (e0.1==1)
 else
  Zjf e0 Zv6 (e0.1,((0:Int),((0:Int),(([]:List UInt8),())))) e0.1 (e0.1==11)
abbrev Z29:List PE:=[.val 0 (.str) (.u false),.val 3 (.int .i64) (.u false)]
def Zhu(s0_1:List UInt8)(i3:Int):Nat:=((s0_1.length:Int)-i3).toNat+1
def Zem:Nat→List UInt8→Int→Option (Bool×Unit)
 |0,_,_=>none
 |N+1,s0_1,i3=>
  bif decide (i3< (s0_1.length:Int))then
   Zf (0≤i3∧i3<s0_1.length)<|
   let t13:Bool:=decide (((s0_1.getD i3.toNat 0).toNat:Int)< (97:Int))
   Zf ((t13=false→(0≤i3∧i3<s0_1.length)))<|
   bif t13|| (decide (((s0_1.getD i3.toNat 0).toNat:Int)>(122:Int)))then
    some (false,())
   else
    Zem N s0_1 (IntKind.i64.wrap (i3+1))
  else
   (Zu (s0_1.length:Int) (1:Int) (40:Int)).bind fun t22=>
   some (t22.1,())
def Zsm(s0:List UInt8):Option (Bool×Unit):=
 Zem (Zhu s0 (0:Int)) s0 (0:Int)
abbrev Zy2:List PE:=[.val 0 (.str) (.u false),.val 3 (.int .i64) (.u false)]
def Zez(s0_1:List UInt8)(i3:Int):Nat:=((s0_1.length:Int)-i3).toNat+1
def Zbp:Nat→List UInt8→Int→Option (Bool×Unit)
 |0,_,_=>none
 |N+1,s0_1,i3=>
  bif decide (i3< (s0_1.length:Int))then
   Zf (0≤i3∧i3<s0_1.length)<|
   let t13:Bool:=decide (((s0_1.getD i3.toNat 0).toNat:Int)< (32:Int))
   Zf ((t13=false→(0≤i3∧i3<s0_1.length)))<|
   bif t13|| (decide (((s0_1.getD i3.toNat 0).toNat:Int)>(126:Int)))then
    some (false,())
   else
    Zbp N s0_1 (IntKind.i64.wrap (i3+1))
  else
   (Zu (s0_1.length:Int) (1:Int) (40:Int)).bind fun t22=>
   some (t22.1,())
def Zp5(s0:List UInt8):Option (Bool×Unit):=
 Zbp (Zez s0 (0:Int)) s0 (0:Int)
def Zfw(k0:Int):Option (Int×Unit):=
 Zf (0≤k0∧k0< ([48,49,50,51,52,53,54,55,56,57,97,98,99,100,101,102]:List UInt8).length)<|
 some (((([48,49,50,51,52,53,54,55,56,57,97,98,99,100,101,102]:List UInt8).getD k0.toNat 0).toNat:Int),())
abbrev Z5s:List PE:=[.val 0 (.int .u8) (.u false),.val 3 (.int .i64) (.u false)]
def Zin(b0_1:Int)(k3:Int):Nat:=((16:Int)-k3).toNat+1
def Jx:Nat→Int→Int→Option (Int×Unit)
 |0,_,_=>none
 |N+1,b0_1,k3=>
  bif decide (k3< (16:Int))then
   (Zfw k3).bind fun t9=>
   bif t9.1==b0_1 then
    some (k3,())
   else
    Jx N b0_1 (IntKind.i64.wrap (k3+1))
  else
   some ((-1:Int),())
def Zp1(b0:Int):Option (Int×Unit):=
 Jx (Zin b0 (0:Int)) b0 (0:Int)
abbrev Z47:List PE:=[.val 0 (.str) (.u false),.val 4 (.slice 5 (.int .u8)) (.u true),.val 5 (.int .i64) (.u false)]
def Zie(s0_1:List UInt8)(out4:List Int)(i5:Int):Nat:=((s0_1.length:Int)-i5).toNat+1
def Zfj:Nat→List UInt8→List Int→Int→Option (List UInt8×Bool×Unit)
 |0,_,_,_=>none
 |N+1,s0_1,out4,i5=>
  bif decide (i5< (s0_1.length:Int))then
   Zf (0≤i5∧i5<s0_1.length)<|
   (Zp1 ((s0_1.getD i5.toNat 0).toNat:Int)).bind fun t22=>
   Zf (0≤(IntKind.i64.wrap (i5+1))∧(IntKind.i64.wrap (i5+1))<s0_1.length)<|
   (Zp1 ((s0_1.getD (IntKind.i64.wrap (i5+1)).toNat 0).toNat:Int)).bind fun t27=>
   bif(decide (t22.1< (0:Int)))|| (decide (t27.1< (0:Int)))then
    some (([]:List UInt8),false,())
   else
    let t40:List Int:=[(IntKind.u8.wrap (IntKind.i64.wrap ((IntKind.i64.wrap ((16:Int)*t22.1))+t27.1)))]
    Zf (out4.length+t40.length≤Qv)<|
    Zfj N s0_1 (out4++t40) (IntKind.i64.wrap (i5+2))
  else
   some (Zaz out4,true,())
def Zk0(s0:List UInt8):Option (List UInt8×Bool×Unit):=
 Zf ((2:Int)≠0)<|
 bif(Int.tmod (s0.length:Int) (2:Int))==1 then
  some (([]:List UInt8),false,())
 else
  Zfj (Zie s0 ([]:List Int) (0:Int)) s0 ([]:List Int) (0:Int)
def Zpr(e0:Jc):Option (Bool×Unit):=
 (Zpp e0.1).bind fun t7=>
 (bif(t7.1==([]:List UInt8))then some (Zv6,())else(Zp4 e0)).bind fun t11=>
 let t14:Bool:=(t7.1==([]:List UInt8))|| (!(eqV (Vc) t11.1 e0))
 (bif t14 then some (false,())else(Zu e0.2.1 (0:Int) (999999:Int))).bind fun t18=>
 (bif(t14|| (!t18.1))then some (false,())else(Zu e0.2.2.1 (0:Int) (999999:Int))).bind fun t24=>
 bif(t14|| (!t18.1))|| (!t24.1)then
  some (false,())
 else
  bif e0.1==1 then
   some ((e0.2.2.2.1==([98,105,100,105]:List UInt8))|| (e0.2.2.2.1==([117,110,105]:List UInt8)),())
  else
   bif e0.1==2 then
    (Zsm e0.2.2.2.1).bind fun t43=>
    some (t43.1,())
   else
    bif e0.1==7 then
     (Zp5 e0.2.2.2.1).bind fun t48=>
     some (t48.1,())
    else
     bif e0.1==11 then
      (Zk0 e0.2.2.2.1).bind fun t54=>
      (bif t54.2.1 then(Zu (t54.1.length:Int) (1:Int) (400:Int))else some (false,())).bind fun t61=>
      some (t54.2.1&&t61.1,())
     else
      some (true,())
def Zbm(p0:Z1)(server1:Bool):Option (List Zy×Unit):=
 bif server1 then
  (Ys p0.2.2.1).bind fun t8=>
  some (t8.1,())
 else
  (Ys p0.2.2.2.1).bind fun t11=>
  some (t11.1,())
def Zc8(p0:Z1)(server1:Bool):Option (Zg×Unit):=
 bif server1 then
  (Zw p0.2.1).bind fun t8=>
  some (t8.1,())
 else
  (Zw p0.1).bind fun t11=>
  some (t11.1,())
def V7(c0:Zg):Option (Bool×Unit):=
 some (c0.2.2.2.2.2.2.2.2.2.2.2.2.2.2.2.2.2.1 !=0,())
def Yr(c0:Zg):Option (Bool×Unit):=
 (Z6 c0).bind fun t4=>
 (bif t4.1 then(V7 c0)else some (false,())).bind fun t7=>
 some (t4.1&& (!t7.1),())
def Zg8(w0:Jq):Option (Bool×Unit):=
 (J5 w0).bind fun t4=>
 let t9:Bool:=t4.1&& (decide (w0.2.2.1< (4611686018427387903:Int)))
 Zf ((t9=true→((2:Int)≠0)))<|
 some (t9&& (decide ((IntKind.i64.wrap ((IntKind.i64.wrap (w0.2.2.2.2.1+w0.1))-w0.2.2.1))≥(IntKind.i64.wrap (Int.tdiv (IntKind.i64.wrap (w0.1+1)) (2:Int))))),())
abbrev Z0i:List PE:=[.val 1 (.int .i64) (.u false),.box 3 30 (Wi) (.u false),.box 6 30 (Wi) (.u false)]
def Zge(now1_1:Int)(w3:Jq)(t6:Jq):Option (Jq×Bool×Unit):=
 some ((w3.1,(w3.2.1,(min (IntKind.i64.wrap (w3.2.2.2.2.1+w3.1)) (4611686018427387903:Int),(w3.2.2.2.1,(w3.2.2.2.2.1,(now1_1,w3.2.2.2.2.2.2)))))),true,())
def Zhj(w0:Jq)(now1:Int)(trip2:Int):Option (Jq×Bool×Unit):=
 (Zg8 w0).bind fun t9=>
 (bif(!t9.1)then some (false,())else(Zu now1 w0.2.2.2.2.2.1 (1000000:Int))).bind fun t15=>
 (bif((!t9.1)|| (!t15.1))then some (false,())else(Zu trip2 (1:Int) (1000:Int))).bind fun t20=>
 bif((!t9.1)|| (!t15.1))|| (!t20.1)then
  some (w0,false,())
 else
  bif decide ((IntKind.i64.wrap (now1-w0.2.2.2.2.2.1))< (IntKind.i64.wrap ((2:Int)*trip2)))then
   Zge now1 (min (IntKind.i64.wrap ((2:Int)*w0.1)) w0.2.1,w0.2) Qu5
  else
   Zge now1 w0 Qu5
def Zm9(c0:Zg):Option (Jq×Bool×Unit):=
 (Zg8 c0.2.2.2.2.2.1).bind fun t8=>
 bif t8.1 then
  (Zhj c0.2.2.2.2.2.1 c0.2.2.2.2.2.2.2.2.2.2.2.2.2.2.2.2.1 c0.2.1.2.2.2.2.2.2.2.1).bind fun t17=>
  some (t17.1,t17.2.1,())
 else
  some (c0.2.2.2.2.2.1,c0.2.2.2.2.2.2.2.2.2.2.1,())
def Zk5(a0:Kw):Option (Bool×Unit):=
 (We a0).bind fun t4=>
 Zf ((t4.1=true→((2:Int)≠0)))<|
 some ((t4.1&& (decide ((IntKind.i64.wrap ((IntKind.i64.wrap (a0.2.2.2.1+a0.1))-a0.2.1))≥(IntKind.i64.wrap (Int.tdiv (IntKind.i64.wrap (a0.1+1)) (2:Int))))))&& (decide (a0.1>(0:Int))),())
def Znu(a0:Kw):Option (Kw×Bool×Unit):=
 (Zk5 a0).bind fun t5=>
 bif(!t5.1)|| (decide ((IntKind.i64.wrap (a0.2.2.2.1+a0.1))>1152921504606846976))then
  some (a0,false,())
 else
  some ((a0.1,(IntKind.i64.wrap (a0.2.2.2.1+a0.1),a0.2.2)),true,())
def Zf5(a0:Kw)(tell1:Bool):Option (Kw×Bool×Unit):=
 (Zk5 a0).bind fun t9=>
 bif t9.1 then
  (Znu a0).bind fun t12=>
  some (t12.1,t12.2.1,())
 else
  some (a0,tell1,())
def Zlg(c0:Zg)(s1:Zn):Option (Jq×Bool×Unit):=
 bif((!s1.2.2.2.2.2.2.2.1)|| (s1.2.2.2.1.1 !=0))||s1.2.2.2.2.2.2.2.2.2.2.2.1 then
  some (s1.2.2.2.2.1,false,())
 else
  (Zg8 s1.2.2.2.2.1).bind fun t25=>
  bif t25.1 then
   (Zhj s1.2.2.2.2.1 c0.2.2.2.2.2.2.2.2.2.2.2.2.2.2.2.2.1 c0.2.1.2.2.2.2.2.2.2.1).bind fun t34=>
   some (t34.1,t34.2.1,())
  else
   some (s1.2.2.2.2.1,s1.2.2.2.2.2.2.2.2.2.2.1,())
def Zm3(c0:Kw):Option (Bool×Unit):=
 (Y0 c0).bind fun t4=>
 some (t4.1&& (c0.2.2.1==c0.1),())
abbrev Z5v:List PE:=[.box 3 99 (Z2) (.u false),.val 5 (.slice 115 (Zt)) (.u true)]
def Zfz(s3_2:Zn)(out5_2:List Zh):Option (List Zh×Unit):=
 (Zm3 s3_2.2.2.1).bind fun t56=>
 bif(t56.1&&s3_2.2.2.2.2.2.2.1)&& (decide ((s3_2.2.1.2.2.1.length:Int)>(0:Int)))then
  let t75:List Zh:=[((21:Int),(s3_2.1,((0:Int),(([]:List UInt8),(false,((0:Int),(s3_2.2.2.1.1,((0:Int),(false,())))))))))]
  Zf (out5_2.length+t75.length≤Qv)<|
  some (out5_2++t75,())
 else
  some (out5_2,())
abbrev Z5u:List PE:=[.box 2 37 (Zl) (.u false),.box 3 99 (Z2) (.u false),.val 5 (.slice 115 (Zt)) (.u true)]
def Zfy(c2_1:Zg)(s3_1:Zn)(out5_1:List Zh):Option (List Zh×Unit):=
 (Zlg c2_1 s3_1).bind fun t42=>
 bif t42.2.1 then
  let t52:List Zh:=[((17:Int),(s3_1.1,((0:Int),(([]:List UInt8),(false,((0:Int),(t42.1.2.2.1,((0:Int),(false,())))))))))]
  Zf (out5_1.length+t52.length≤Qv)<|
  Zfz s3_1 (out5_1++t52)
 else
  Zfz s3_1 out5_1
abbrev Z5t:List PE:=[.box 2 37 (Zl) (.u false),.box 3 99 (Z2) (.u false),.val 5 (.slice 115 (Zt)) (.u true)]
def Zfx(c2:Zg)(s3:Zn)(out5:List Zh):Option (List Zh×Unit):=
 bif s3.2.2.2.2.2.2.2.2.2.1&& (decide (s3.2.2.2.1.1< (2:Int)))then
  let t37:List Zh:=[((5:Int),(s3.1,((0:Int),(([]:List UInt8),(false,(s3.2.2.2.2.2.2.2.2.2.2.2.2.1,((0:Int),((0:Int),(false,())))))))))]
  Zf (out5.length+t37.length≤Qv)<|
  Zfy c2 s3 (out5++t37)
 else
  Zfy c2 s3 out5
def Zp2(c0:Zg)(s1:Zn):Option (List Zh×Unit):=
 bif s1.2.2.2.2.2.2.2.2.1 then
  let t21:List Zh:=[((4:Int),(s1.1,((0:Int),(([]:List UInt8),(false,(s1.2.1.2.2.2.2.2.2.2.2.1,((0:Int),(s1.2.1.2.2.2.2.2.2.2.1,(false,())))))))))]
  Zf (([]:List Zh).length+t21.length≤Qv)<|
  Zfx c0 s1 (([]:List Zh)++t21)
 else
  Zfx c0 s1 ([]:List Zh)
abbrev Zw5:List PE:=[.box 1 37 (Zl) (.u false),.val 3 (.slice 115 (Zt)) (.u true)]
def Zah(c1_5:Zg)(out3_5:List Zh):Option (List Zh×Unit):=
 bif c1_5.2.2.2.2.2.2.2.1.2.2.1==c1_5.2.2.2.2.2.2.2.1.1 then
  let t110:List Zh:=[((22:Int),((0:Int),((0:Int),(([]:List UInt8),(false,((0:Int),(c1_5.2.2.2.2.2.2.2.1.1,((0:Int),(true,())))))))))]
  Zf (out3_5.length+t110.length≤Qv)<|
  some (out3_5++t110,())
 else
  some (out3_5,())
abbrev Zw4:List PE:=[.box 1 37 (Zl) (.u false),.val 3 (.slice 115 (Zt)) (.u true)]
def Zag(c1_4:Zg)(out3_4:List Zh):Option (List Zh×Unit):=
 bif c1_4.2.2.2.2.2.2.1.2.2.1==c1_4.2.2.2.2.2.2.1.1 then
  let t96:List Zh:=[((22:Int),((0:Int),((0:Int),(([]:List UInt8),(false,((0:Int),(c1_4.2.2.2.2.2.2.1.1,((0:Int),(false,())))))))))]
  Zf (out3_4.length+t96.length≤Qv)<|
  Zah c1_4 (out3_4++t96)
 else
  Zah c1_4 out3_4
abbrev Zw6:List PE:=[.box 1 37 (Zl) (.u false),.val 3 (.slice 115 (Zt)) (.u true),.val 10 (.int .i64) (.u false)]
def Zdv(c1_3:Zg)(out3_3:List Zh)(i10:Int):Nat:=((c1_3.2.2.2.1.length:Int)-i10).toNat+1
def Zai:Nat→Zg→List Zh→Int→Option (List Zh×Unit)
 |0,_,_,_=>none
 |N+1,c1_3,out3_3,i10=>
  bif decide (i10< (c1_3.2.2.2.1.length:Int))then
   Zf (0≤i10∧i10<c1_3.2.2.2.1.length)<|
   (Zp2 c1_3 (c1_3.2.2.2.1.getD i10.toNat Zz)).bind fun t72=>
   Zf (out3_3.length+t72.1.length≤Qv)<|
   Zai N c1_3 (out3_3++t72.1) (IntKind.i64.wrap (i10+1))
  else
   (Zm3 c1_3.2.2.2.2.1).bind fun t76=>
   bif t76.1 then
    let t82:List Zh:=[((20:Int),((0:Int),((0:Int),(([]:List UInt8),(false,((0:Int),(c1_3.2.2.2.2.1.1,((0:Int),(false,())))))))))]
    Zf (out3_3.length+t82.length≤Qv)<|
    Zag c1_3 (out3_3++t82)
   else
    Zag c1_3 out3_3
abbrev Zw3:List PE:=[.box 1 37 (Zl) (.u false),.val 3 (.slice 115 (Zt)) (.u true)]
def Zaf(c1_2:Zg)(out3_2:List Zh):Option (List Zh×Unit):=
 Zai (Zdv c1_2 out3_2 (0:Int)) c1_2 out3_2 (0:Int)
abbrev Zw2:List PE:=[.box 1 37 (Zl) (.u false),.val 3 (.slice 115 (Zt)) (.u true)]
def Zae(c1_1:Zg)(out3_1:List Zh):Option (List Zh×Unit):=
 (Zf5 c1_1.2.2.2.2.2.2.2.2.2.1 c1_1.2.2.2.2.2.2.2.2.2.2.2.2.1).bind fun t48=>
 bif t48.2.1 then
  let t56:List Zh:=[((18:Int),((0:Int),((0:Int),(([]:List UInt8),(false,((0:Int),(t48.1.2.1,((0:Int),(true,())))))))))]
  Zf (out3_1.length+t56.length≤Qv)<|
  Zaf c1_1 (out3_1++t56)
 else
  Zaf c1_1 out3_1
abbrev Zw1:List PE:=[.box 1 37 (Zl) (.u false),.val 3 (.slice 115 (Zt)) (.u true)]
def Zad(c1:Zg)(out3:List Zh):Option (List Zh×Unit):=
 (Zf5 c1.2.2.2.2.2.2.2.2.1 c1.2.2.2.2.2.2.2.2.2.2.2.1).bind fun t33=>
 bif t33.2.1 then
  let t41:List Zh:=[((18:Int),((0:Int),((0:Int),(([]:List UInt8),(false,((0:Int),(t33.1.2.1,((0:Int),(false,())))))))))]
  Zf (out3.length+t41.length≤Qv)<|
  Zae c1 (out3++t41)
 else
  Zae c1 out3
def Zid(c0:Zg):Option (List Zh×Unit):=
 (Yr c0).bind fun t13=>
 bif !t13.1 then
  some (([]:List Zh),())
 else
  (Zm9 c0).bind fun t18=>
  bif t18.2.1 then
   let t26:List Zh:=[((16:Int),((0:Int),((0:Int),(([]:List UInt8),(false,((0:Int),(t18.1.2.2.1,((0:Int),(false,())))))))))]
   Zf (([]:List Zh).length+t26.length≤Qv)<|
   Zad c0 (([]:List Zh)++t26)
  else
   Zad c0 ([]:List Zh)
def Zm7(n0:Int):Option (Int×Unit):=
 bif(decide (n0< (0:Int)))|| (decide (n0>(4611686018427387903:Int)))then
  some ((0:Int),())
 else
  bif decide (n0< (64:Int))then
   some ((1:Int),())
  else
   bif decide (n0< (16384:Int))then
    some ((2:Int),())
   else
    bif decide (n0< (1073741824:Int))then
     some ((4:Int),())
    else
     some ((8:Int),())
abbrev Zz6:List PE:=[.val 0 (.int .i64) (.u false),.val 1 (.int .i64) (.u false),.val 5 (.str) (.u false),.val 6 (.int .i64) (.u false)]
def Zm2(n0_1:Int)(width1_1:Int)(out5_1:List UInt8)(i6:Int):Nat:=(width1_1-i6).toNat+1
def Wm:Nat→Int→Int→List UInt8→Int→Option (List UInt8×Unit)
 |0,_,_,_,_=>none
 |N+1,n0_1,width1_1,out5_1,i6=>
  bif decide (i6<width1_1)then
   Zf ((256:Int)≠0)<|
   let t23:List UInt8:=Zaz ([(IntKind.u8.wrap (Int.tmod n0_1 (256:Int)))])
   Zf (t23.length+out5_1.length≤W9)<|
   Zf ((256:Int)≠0)<|
   Wm N (IntKind.i64.wrap (Int.tdiv n0_1 (256:Int))) width1_1 (t23++out5_1) (IntKind.i64.wrap (i6+1))
  else
   bif decide (n0_1>(0:Int))then
    some (([]:List UInt8),())
   else
    some (out5_1,())
def Zqn(n0:Int)(width1:Int):Option (List UInt8×Unit):=
 (Zu width1 (1:Int) (7:Int)).bind fun t8=>
 bif(!t8.1)|| (decide (n0< (0:Int)))then
  some (([]:List UInt8),())
 else
  Wm (Zm2 n0 width1 ([]:List UInt8) (0:Int)) n0 width1 ([]:List UInt8) (0:Int)
def Zot(n0:Int):Option (List UInt8×Unit):=
 (Zqn (bits .and .i64 n0 (255:Int)) (1:Int)).bind fun t5=>
 some (t5.1,())
abbrev Z2i:List PE:=[.val 0 (.int .i64) (.u false),.val 3 (.int .i64) (.u false),.val 4 (.str) (.u false),.val 5 (.int .i64) (.u false),.val 6 (.int .i64) (.u false)]
def K0(K1: (Int×Int×List UInt8×Int×Unit)→Option (List UInt8×Unit))(n0_2:Int)(k3_1:Int)(s4_2:List UInt8)(i5_1:Int)(b6:Int):Option (List UInt8×Unit):=
 (Zot b6).bind fun t39=>
 Zf (s4_2.length+t39.1.length≤W9)<|
 K1 (n0_2,k3_1,s4_2++t39.1,IntKind.i64.wrap (i5_1-1),())
abbrev Z2j:List PE:=[.val 0 (.int .i64) (.u false),.val 3 (.int .i64) (.u false),.val 4 (.str) (.u false),.val 5 (.int .i64) (.u false)]
def Zg2(n0_1:Int)(k3:Int)(s4_1:List UInt8)(i5:Int):Nat:=(i5-0).toNat+2
def X7:Nat→Int→Int→List UInt8→Int→Option (List UInt8×Unit)
 |0,_,_,_,_=>none
 |N+1,n0_1,k3,s4_1,i5=>
  bif decide (i5≥(0:Int))then
   Zf (0≤(IntKind.i64.wrap ((8:Int)*i5)))<|
   let t19:Int:=bits .and .i64 (n0_1.fdiv (2^ (min (IntKind.i64.wrap ((8:Int)*i5)).toNat IntKind.i64.bits))) (255:Int)
   bif i5==(IntKind.i64.wrap (k3-1))then
    bif k3==2 then
     K0 (fun v=>X7 N v.1 v.2.1 v.2.2.1 v.2.2.2.1) n0_1 k3 s4_1 i5 (bits .or .i64 t19 (64:Int))
    else
     bif k3==4 then
      K0 (fun v=>X7 N v.1 v.2.1 v.2.2.1 v.2.2.2.1) n0_1 k3 s4_1 i5 (bits .or .i64 t19 (128:Int))
     else
      bif k3==8 then
       K0 (fun v=>X7 N v.1 v.2.1 v.2.2.1 v.2.2.2.1) n0_1 k3 s4_1 i5 (bits .or .i64 t19 (192:Int))
      else
       K0 (fun v=>X7 N v.1 v.2.1 v.2.2.1 v.2.2.2.1) n0_1 k3 s4_1 i5 t19
   else
    K0 (fun v=>X7 N v.1 v.2.1 v.2.2.1 v.2.2.2.1) n0_1 k3 s4_1 i5 t19
  else
   some (s4_1,())
def Znk(n0:Int):Option (List UInt8×Unit):=
 (Zm7 n0).bind fun t8=>
 X7 (Zg2 n0 t8.1 ([]:List UInt8) (IntKind.i64.wrap (t8.1-1))) n0 t8.1 ([]:List UInt8) (IntKind.i64.wrap (t8.1-1))
abbrev Z0b:List PE:=[.val 0 (.slice 3 (.int .i64)) (.u false),.val 3 (.str) (.u false),.val 4 (.int .i64) (.u false)]
def Zf3(l0_1:List Int)(s3_1:List UInt8)(i4:Int):Nat:=((l0_1.length:Int)-i4).toNat+1
def Zcl:Nat→List Int→List UInt8→Int→Option (List UInt8×Unit)
 |0,_,_,_=>none
 |N+1,l0_1,s3_1,i4=>
  bif decide (i4< (l0_1.length:Int))then
   Zf (0≤i4∧i4<l0_1.length)<|
   (Zm7 (l0_1.getD i4.toNat (0:Int))).bind fun t15=>
   bif t15.1==0 then
    some (([]:List UInt8),())
   else
    Zf (0≤i4∧i4<l0_1.length)<|
    (Znk (l0_1.getD i4.toNat (0:Int))).bind fun t22=>
    Zf (s3_1.length+t22.1.length≤W9)<|
    Zcl N l0_1 (s3_1++t22.1) (IntKind.i64.wrap (i4+1))
  else
   some (s3_1,())
def Xv(l0:List Int):Option (List UInt8×Unit):=
 Zcl (Zf3 l0 ([]:List UInt8) (0:Int)) l0 ([]:List UInt8) (0:Int)
abbrev Zz7:List PE:=[.box 1 115 (Zt) (.u false),.val 3 (.int .i64) (.u false)]
def Zf9(f1:Zh)(kind3:Int):Option (List UInt8×Unit):=
 bif f1.2.2.1==0 then
  (Xv ([kind3,f1.2.1,(f1.2.2.2.1.length:Int)])).bind fun t44=>
  Zf (t44.1.length+f1.2.2.2.1.length≤W9)<|
  some (t44.1++f1.2.2.2.1,())
 else
  (Xv ([(IntKind.i64.wrap (kind3+4)),f1.2.1,f1.2.2.1,(f1.2.2.2.1.length:Int)])).bind fun t58=>
  Zf (t58.1.length+f1.2.2.2.1.length≤W9)<|
  some (t58.1++f1.2.2.2.1,())
abbrev Z0a:List PE:=[.box 1 115 (Zt) (.u false),.val 4 (.int .i64) (.u false)]
def Zgc(f1_3:Zh)(kind4:Int):Option (List UInt8×Unit):=
 (Xv ([kind4,f1_3.2.2.2.2.2.2.1])).bind fun t92=>
 some (t92.1,())
abbrev Zz9:List PE:=[.box 1 115 (Zt) (.u false),.val 71 (.bool) (.u false)]
def Zgb(f1_2:Zh)(t71:Bool):Option (List UInt8×Unit):=
 bif t71 then
  (Xv ([f1_2.1,f1_2.2.1,f1_2.2.2.2.2.2.2.1])).bind fun t81=>
  some (t81.1,())
 else
  bif f1_2.2.2.2.2.2.2.2.2.1 then
   Zgc f1_2 (IntKind.i64.wrap (f1_2.1+1))
  else
   Zgc f1_2 f1_2.1
abbrev Zz8:List PE:=[.box 1 115 (Zt) (.u false),.val 9 (.int .i64) (.u false),.val 62 (.bool) (.u false)]
def Zga(f1_1:Zh)(t9:Int)(t62:Bool):Option (List UInt8×Unit):=
 bif t62 then
  (Xv ([f1_1.1,f1_1.2.2.2.2.2.2.1])).bind fun t70=>
  some (t70.1,())
 else
  bif t9==17 then
   Zgb f1_1 (t9==17)
  else
   Zgb f1_1 (t9==21)
def Zdh(f0:Zh):Option (List UInt8×Unit):=
 (J9 f0).bind fun t6=>
 bif !t6.1 then
  some (([]:List UInt8),())
 else
  bif f0.1==4 then
   (Xv ([(4:Int),f0.2.1,f0.2.2.2.2.2.1,f0.2.2.2.2.2.2.2.1])).bind fun t19=>
   some (t19.1,())
  else
   bif f0.1==5 then
    (Xv ([(5:Int),f0.2.1,f0.2.2.2.2.2.1])).bind fun t27=>
    some (t27.1,())
   else
    bif f0.1==8 then
     bif f0.2.2.2.2.1 then
      Zf9 f0 (IntKind.i64.wrap ((10:Int)+ (1:Int)))
     else
      Zf9 f0 (10:Int)
    else
     bif f0.1==16 then
      Zga f0 f0.1 (f0.1==16)
     else
      Zga f0 f0.1 (f0.1==20)
def Zd0(f0:Zh):Option (Int×Unit):=
 (Zdh f0).bind fun t4=>
 some ((t4.1.length:Int),())
def Zfh(c0:Kw):Option (Kw×Unit):=
 (Y0 c0).bind fun t4=>
 bif t4.1&& (c0.2.2.1 !=(-1:Int))then
  some ((c0.1,(c0.2.1,((-1:Int),(c0.2.2.1,c0.2.2.2.2)))),())
 else
  some (c0,())
abbrev Z2k:List PE:=[.val 0 (.slice 99 (Z2)) (.u false),.val 1 (.int .i64) (.u false),.val 5 (.int .i64) (.u false)]
def Zg3(l0_1:List Zn)(id1_1:Int)(i5:Int):Nat:=((l0_1.length:Int)-i5).toNat+1
def Zdz:Nat→List Zn→Int→Int→Option (Int×Unit)
 |0,_,_,_=>none
 |N+1,l0_1,id1_1,i5=>
  bif decide (i5< (l0_1.length:Int))then
   Zf (0≤i5∧i5<l0_1.length)<|
   bif(l0_1.getD i5.toNat Zz).1==id1_1 then
    some (i5,())
   else
    Zdz N l0_1 id1_1 (IntKind.i64.wrap (i5+1))
  else
   some ((-1:Int),())
def Ze6(l0:List Zn)(id1:Int):Option (Int×Unit):=
 Zdz (Zg3 l0 id1 (0:Int)) l0 id1 (0:Int)
def Qu(c0:Zg)(id1:Int):Option (Zn×Bool×Unit):=
 (Ze6 c0.2.2.2.1 id1).bind fun t10=>
 bif decide (t10.1< (0:Int))then
  some (Zz,false,())
 else
  Zf (0≤t10.1∧t10.1<c0.2.2.2.1.length)<|
  (Zc0 (c0.2.2.2.1.getD t10.1.toNat Zz)).bind fun t19=>
  some (t19.1,true,())
def Zte(c0:Zg)(s1:Zn)(kind2:Int):Option ((Zn×Unit)×(Unit)):=
 bif kind2==4 then
  some (((s1.1,(s1.2.1,(s1.2.2.1,(s1.2.2.2.1,(s1.2.2.2.2.1,(s1.2.2.2.2.2.1,(s1.2.2.2.2.2.2.1,(s1.2.2.2.2.2.2.2.1,(false,s1.2.2.2.2.2.2.2.2.2))))))))),()),())
 else
  bif kind2==5 then
   some (((s1.1,(s1.2.1,(s1.2.2.1,(s1.2.2.2.1,(s1.2.2.2.2.1,(s1.2.2.2.2.2.1,(s1.2.2.2.2.2.2.1,(s1.2.2.2.2.2.2.2.1,(s1.2.2.2.2.2.2.2.2.1,(false,s1.2.2.2.2.2.2.2.2.2.2)))))))))),()),())
  else
   bif kind2==17 then
    (Zlg c0 s1).bind fun t21=>
    bif t21.2.1 then
     some (((s1.1,(s1.2.1,(s1.2.2.1,(s1.2.2.2.1,(t21.1,(s1.2.2.2.2.2.1,(s1.2.2.2.2.2.2.1,(s1.2.2.2.2.2.2.2.1,(s1.2.2.2.2.2.2.2.2.1,(s1.2.2.2.2.2.2.2.2.2.1,(false,s1.2.2.2.2.2.2.2.2.2.2.2))))))))))),()),())
    else
     some (((s1.1,(s1.2.1,(s1.2.2.1,(s1.2.2.2.1,(s1.2.2.2.2.1,(s1.2.2.2.2.2.1,(s1.2.2.2.2.2.2.1,(s1.2.2.2.2.2.2.2.1,(s1.2.2.2.2.2.2.2.2.1,(s1.2.2.2.2.2.2.2.2.2.1,(false,s1.2.2.2.2.2.2.2.2.2.2.2))))))))))),()),())
   else
    bif kind2==21 then
     (Zfh s1.2.2.1).bind fun t32=>
     some (((s1.1,(s1.2.1,(t32.1,s1.2.2.2))),()),())
    else
     some ((s1,()),())
abbrev Z5j:List PE:=[.val 0 (.slice 99 (Z2)) (.u false),.box 3 99 (Z2) (.u false),.val 5 (.slice 99 (Z2)) (.u true),.val 6 (.int .i64) (.u false),.val 7 (.bool) (.u false),.val 8 (.int .i64) (.u false),.box 9 99 (Z2) (.u true)]
def Zb2(K1: (List Zn×Zn×List Zn×Int×Bool×Int×Unit)→Option (List Zn×Unit))(l0_2:List Zn)(s3_1:Zn)(out5_1:List Zn)(at6_1:Int)(placed7_1:Bool)(i8_1:Int)(x9:Zn):Option (List Zn×Unit):=
 Zf (out5_1.length+ ([x9]).length≤Qv)<|
 K1 (l0_2,s3_1,out5_1++ ([x9]),at6_1,placed7_1,IntKind.i64.wrap (i8_1+1),())
abbrev Z5k:List PE:=[.val 0 (.slice 99 (Z2)) (.u false),.box 3 99 (Z2) (.u false),.val 5 (.slice 99 (Z2)) (.u true),.val 6 (.int .i64) (.u false),.val 7 (.bool) (.u false),.val 8 (.int .i64) (.u false)]
def Zil(l0_1:List Zn)(s3:Zn)(out5:List Zn)(at6:Int)(placed7:Bool)(i8:Int):Nat:=((l0_1.length:Int)-i8).toNat+1
def Ju:Nat→List Zn→Zn→List Zn→Int→Bool→Int→Option (List Zn×Unit)
 |0,_,_,_,_,_,_=>none
 |N+1,l0_1,s3,out5,at6,placed7,i8=>
  bif decide (i8< (l0_1.length:Int))then
   Zf (0≤i8∧i8<l0_1.length)<|
   (Zc0 (l0_1.getD i8.toNat Zz)).bind fun t29=>
   bif i8==at6 then
    (Zc0 s3).bind fun t34=>
    Zb2 (fun v=>Ju N v.1 v.2.1 v.2.2.1 v.2.2.2.1 v.2.2.2.2.1 v.2.2.2.2.2.1) l0_1 s3 out5 at6 placed7 i8 t34.1
   else
    Zf (((!placed7)=true→(0≤i8∧i8<l0_1.length)))<|
    bif(!placed7)&& (decide ((l0_1.getD i8.toNat Zz).1>s3.1))then
     (Zc0 s3).bind fun t48=>
     Zf (out5.length+ ([t48.1]).length≤Qv)<|
     Zb2 (fun v=>Ju N v.1 v.2.1 v.2.2.1 v.2.2.2.1 v.2.2.2.2.1 v.2.2.2.2.2.1) l0_1 s3 (out5++ ([t48.1])) at6 true i8 t29.1
    else
     Zb2 (fun v=>Ju N v.1 v.2.1 v.2.2.1 v.2.2.2.1 v.2.2.2.2.1 v.2.2.2.2.2.1) l0_1 s3 out5 at6 placed7 i8 t29.1
  else
   bif !placed7 then
    (Zc0 s3).bind fun t60=>
    Zf (out5.length+ ([t60.1]).length≤Qv)<|
    some (out5++ ([t60.1]),())
   else
    some (out5,())
def Xp(l0:List Zn)(s1:Zn):Option (List Zn×Unit):=
 (Ze6 l0 s1.1).bind fun t16=>
 Ju (Zil l0 s1 ([]:List Zn) t16.1 (decide (t16.1≥(0:Int))) (0:Int)) l0 s1 ([]:List Zn) t16.1 (decide (t16.1≥(0:Int))) (0:Int)
def Zl3(c0:Zg)(f1:Zh):Option (Zg×Unit):=
 (Zw c0).bind fun t15=>
 (Z6 c0).bind fun t17=>
 bif !t17.1 then
  some (t15.1,())
 else
  bif f1.1==16 then
   (Zm9 c0).bind fun t43=>
   some ((t15.1.1,(t15.1.2.1,(t15.1.2.2.1,(t15.1.2.2.2.1,(t15.1.2.2.2.2.1,(t43.1,(t15.1.2.2.2.2.2.2.1,(t15.1.2.2.2.2.2.2.2.1,(t15.1.2.2.2.2.2.2.2.2.1,(t15.1.2.2.2.2.2.2.2.2.2.1,(false,t15.1.2.2.2.2.2.2.2.2.2.2.2))))))))))),())
  else
   bif f1.1==18 then
    bif f1.2.2.2.2.2.2.2.2.1 then
     (Zf5 c0.2.2.2.2.2.2.2.2.2.1 false).bind fun t56=>
     some ((t15.1.1,(t15.1.2.1,(t15.1.2.2.1,(t15.1.2.2.2.1,(t15.1.2.2.2.2.1,(t15.1.2.2.2.2.2.1,(t15.1.2.2.2.2.2.2.1,(t15.1.2.2.2.2.2.2.2.1,(t15.1.2.2.2.2.2.2.2.2.1,(t56.1,(t15.1.2.2.2.2.2.2.2.2.2.2.1,(t15.1.2.2.2.2.2.2.2.2.2.2.2.1,(false,t15.1.2.2.2.2.2.2.2.2.2.2.2.2.2))))))))))))),())
    else
     (Zf5 c0.2.2.2.2.2.2.2.2.1 false).bind fun t65=>
     some ((t15.1.1,(t15.1.2.1,(t15.1.2.2.1,(t15.1.2.2.2.1,(t15.1.2.2.2.2.1,(t15.1.2.2.2.2.2.1,(t15.1.2.2.2.2.2.2.1,(t15.1.2.2.2.2.2.2.2.1,(t65.1,(t15.1.2.2.2.2.2.2.2.2.2.1,(t15.1.2.2.2.2.2.2.2.2.2.2.1,(false,t15.1.2.2.2.2.2.2.2.2.2.2.2.2)))))))))))),())
   else
    bif f1.1==20 then
     (Zfh c0.2.2.2.2.1).bind fun t75=>
     some ((t15.1.1,(t15.1.2.1,(t15.1.2.2.1,(t15.1.2.2.2.1,(t75.1,t15.1.2.2.2.2.2))))),())
    else
     bif f1.1==22 then
      bif f1.2.2.2.2.2.2.2.2.1 then
       some ((t15.1.1,(t15.1.2.1,(t15.1.2.2.1,(t15.1.2.2.2.1,(t15.1.2.2.2.2.1,(t15.1.2.2.2.2.2.1,(t15.1.2.2.2.2.2.2.1,((t15.1.2.2.2.2.2.2.2.1.1,(t15.1.2.2.2.2.2.2.2.1.2.1,((-1:Int),t15.1.2.2.2.2.2.2.2.1.2.2.2))),t15.1.2.2.2.2.2.2.2.2)))))))),())
      else
       some ((t15.1.1,(t15.1.2.1,(t15.1.2.2.1,(t15.1.2.2.2.1,(t15.1.2.2.2.2.1,(t15.1.2.2.2.2.2.1,((t15.1.2.2.2.2.2.2.1.1,(t15.1.2.2.2.2.2.2.1.2.1,((-1:Int),t15.1.2.2.2.2.2.2.1.2.2.2))),t15.1.2.2.2.2.2.2.2))))))),())
     else
      (Qu c0 f1.2.1).bind fun t26=>
      bif t26.2.1 then
       (Zte c0 t26.1 f1.1).bind fun t36=>
       (Xp t15.1.2.2.2.1 t36.1.1).bind fun t37=>
       some ((t15.1.1,(t15.1.2.1,(t15.1.2.2.1,(t37.1,t15.1.2.2.2.2)))),())
      else
       some (t15.1,())
abbrev Z25:List PE:=[.box 1 37 (Zl) (.u false),.val 3 (.slice 266 (Xf)) (.u true),.val 4 (.int .i64) (.u false)]
def Zek(K1: (Zg×List Z0×Int×Unit)→Option (List Z0×Unit))(c1_1:Zg)(out3_1:List Z0)(i4_1:Int):Option (List Z0×Unit):=
 K1 (c1_1,out3_1,IntKind.i64.wrap (i4_1+1),())
abbrev Z26:List PE:=[.box 1 37 (Zl) (.u false),.val 3 (.slice 266 (Xf)) (.u true),.val 4 (.int .i64) (.u false)]
def Zhr(c1:Zg)(out3:List Z0)(i4:Int):Nat:=((c1.2.2.2.1.length:Int)-i4).toNat+1
def Vm:Nat→Zg→List Z0→Int→Option (List Z0×Unit)
 |0,_,_,_=>none
 |N+1,c1,out3,i4=>
  bif decide (i4< (c1.2.2.2.1.length:Int))then
   Zf (0≤i4∧i4<c1.2.2.2.1.length)<|
   bif((c1.2.2.2.1.getD i4.toNat Zz).2.2.2.2.2.2.1&& (decide ((c1.2.2.2.1.getD i4.toNat Zz).2.1.1< (3:Int))))&& ((decide (((c1.2.2.2.1.getD i4.toNat Zz).2.1.2.2.1.length:Int)>(0:Int)))|| ((c1.2.2.2.1.getD i4.toNat Zz).2.1.2.2.2.2.2.2.1==1))then
    let t46:List Z0:=[((c1.2.2.2.1.getD i4.toNat Zz).1,((c1.2.2.2.1.getD i4.toNat Zz).2.2.2.2.2.1,()))]
    Zf (out3.length+t46.length≤Qv)<|
    Zek (fun v=>Vm N v.1 v.2.1 v.2.2.1) c1 (out3++t46) i4
   else
    Zek (fun v=>Vm N v.1 v.2.1 v.2.2.1) c1 out3 i4
  else
   some (out3,())
def Zny(c0:Zg):Option (List Z0×Unit):=
 Vm (Zhr c0 ([]:List Z0) (0:Int)) c0 ([]:List Z0) (0:Int)
abbrev Z27:List PE:=[.val 0 (.slice 266 (Xf)) (.u false),.val 1 (.int .i64) (.u false),.val 5 (.slice 266 (Xf)) (.u true),.val 6 (.int .i64) (.u false)]
def Zel(K1: (List Z0×Int×List Z0×Int×Unit)→Option (List Z0×Unit))(l0_2:List Z0)(id1_2:Int)(out5_1:List Z0)(i6_1:Int):Option (List Z0×Unit):=
 K1 (l0_2,id1_2,out5_1,IntKind.i64.wrap (i6_1+1),())
abbrev Z28:List PE:=[.val 0 (.slice 266 (Xf)) (.u false),.val 1 (.int .i64) (.u false),.val 5 (.slice 266 (Xf)) (.u true),.val 6 (.int .i64) (.u false)]
def Zhs(l0_1:List Z0)(id1_1:Int)(out5:List Z0)(i6:Int):Nat:=((l0_1.length:Int)-i6).toNat+1
def Vn:Nat→List Z0→Int→List Z0→Int→Option (List Z0×Unit)
 |0,_,_,_,_=>none
 |N+1,l0_1,id1_1,out5,i6=>
  bif decide (i6< (l0_1.length:Int))then
   Zf (0≤i6∧i6<l0_1.length)<|
   bif(l0_1.getD i6.toNat Kn).1 !=id1_1 then
    Zf (0≤i6∧i6<l0_1.length)<|
    Zf (out5.length+ ([(l0_1.getD i6.toNat Kn)]).length≤Qv)<|
    Zel (fun v=>Vn N v.1 v.2.1 v.2.2.1 v.2.2.2.1) l0_1 id1_1 (out5++ ([(l0_1.getD i6.toNat Kn)])) i6
   else
    Zel (fun v=>Vn N v.1 v.2.1 v.2.2.1 v.2.2.2.1) l0_1 id1_1 out5 i6
  else
   some (out5,())
def Znz(l0:List Z0)(id1:Int):Option (List Z0×Unit):=
 Vn (Zhs l0 id1 ([]:List Z0) (0:Int)) l0 id1 ([]:List Z0) (0:Int)
abbrev Zw0:List PE:=[.val 0 (.slice 266 (Xf)) (.u false),.val 3 (.int .i64) (.u false)]
def Zdt(l0_1:List Z0)(i3:Int):Nat:=((l0_1.length:Int)-i3).toNat+1
def Zac:Nat→List Z0→Int→Option (Bool×Unit)
 |0,_,_=>none
 |N+1,l0_1,i3=>
  bif decide (i3< (l0_1.length:Int))then
   Zf (0≤i3∧i3<l0_1.length)<|
   (Qd (l0_1.getD i3.toNat Kn).1).bind fun t15=>
   Zf (((!t15.1)=false→(0≤i3∧i3<l0_1.length)))<|
   (bif(!t15.1)then some (false,())else(Zca (l0_1.getD i3.toNat Kn).2.1)).bind fun t23=>
   Zf ((((!t15.1)|| (!t23.1))=false→((decide (i3>(0:Int)))=true→(0≤i3∧i3<l0_1.length))))<|
   Zf ((((!t15.1)|| (!t23.1))=false→((decide (i3>(0:Int)))=true→(0≤(IntKind.i64.wrap (i3-1))∧(IntKind.i64.wrap (i3-1))<l0_1.length))))<|
   bif((!t15.1)|| (!t23.1))|| ((decide (i3>(0:Int)))&& (decide ((l0_1.getD i3.toNat Kn).1≤(l0_1.getD (IntKind.i64.wrap (i3-1)).toNat Kn).1)))then
    some (false,())
   else
    Zac N l0_1 (IntKind.i64.wrap (i3+1))
  else
   some (true,())
def Zic(l0:List Z0):Option (Bool×Unit):=
 Zac (Zdt l0 (0:Int)) l0 (0:Int)
abbrev Z2s:List PE:=[.val 0 (.slice 266 (Xf)) (.u false),.val 3 (.slice 3 (.int .i64)) (.u true),.val 4 (.int .i64) (.u false),.val 5 (.int .i64) (.u false)]
def Zea(K1: (List Z0×List Int×Int×Int×Unit)→Option (List Int×Unit))(l0_2:List Z0)(out3_1:List Int)(best4_1:Int)(i5_1:Int):Option (List Int×Unit):=
 K1 (l0_2,out3_1,best4_1,IntKind.i64.wrap (i5_1+1),())
abbrev Z2t:List PE:=[.val 0 (.slice 266 (Xf)) (.u false),.val 3 (.slice 3 (.int .i64)) (.u true),.val 4 (.int .i64) (.u false),.val 5 (.int .i64) (.u false)]
def Zeb(K1: (List Z0×List Int×Int×Int×Unit)→Option (List Int×Unit))(l0_3:List Z0)(out3_2:List Int)(best4_2:Int)(i5_2:Int):Option (List Int×Unit):=
 Zf (0≤i5_2∧i5_2<l0_3.length)<|
 bif(l0_3.getD i5_2.toNat Kn).2.1.1==best4_2 then
  Zf (0≤i5_2∧i5_2<l0_3.length)<|
  Zf (out3_2.length+ ([(l0_3.getD i5_2.toNat Kn).1]).length≤Qv)<|
  Zea K1 l0_3 (out3_2++ ([(l0_3.getD i5_2.toNat Kn).1])) best4_2 i5_2
 else
  Zea K1 l0_3 out3_2 best4_2 i5_2
abbrev Z2u:List PE:=[.val 0 (.slice 266 (Xf)) (.u false),.val 3 (.slice 3 (.int .i64)) (.u true),.val 4 (.int .i64) (.u false),.val 5 (.int .i64) (.u false)]
def Zg7(l0_1:List Z0)(out3:List Int)(best4:Int)(i5:Int):Nat:=((l0_1.length:Int)-i5).toNat+1
def K8:Nat→List Z0→List Int→Int→Int→Option (List Int×Unit)
 |0,_,_,_,_=>none
 |N+1,l0_1,out3,best4,i5=>
  (bif(decide (i5< (l0_1.length:Int)))then(Zic l0_1)else some (false,())).bind fun t13=>
  bif(decide (i5< (l0_1.length:Int)))&&t13.1 then
   Zf (0≤i5∧i5<l0_1.length)<|
   bif decide ((l0_1.getD i5.toNat Kn).2.1.1<best4)then
    Zf (0≤i5∧i5<l0_1.length)<|
    Zeb (fun v=>K8 N v.1 v.2.1 v.2.2.1 v.2.2.2.1) l0_1 ([]:List Int) (l0_1.getD i5.toNat Kn).2.1.1 i5
   else
    Zeb (fun v=>K8 N v.1 v.2.1 v.2.2.1 v.2.2.2.1) l0_1 out3 best4 i5
  else
   some (out3,())
def Znr(l0:List Z0):Option (List Int×Unit):=
 K8 (Zg7 l0 ([]:List Int) (8:Int) (0:Int)) l0 ([]:List Int) (8:Int) (0:Int)
abbrev Z9t:List PE:=[.val 0 (.slice 3 (.int .i64)) (.u false),.val 1 (.int .i64) (.u false),.val 5 (.int .i64) (.u false)]
def Zj0(l0_1:List Int)(last1_1:Int)(i5:Int):Nat:=((l0_1.length:Int)-i5).toNat+1
def Zhm:Nat→List Int→Int→Int→Option (Int×Unit)
 |0,_,_,_=>none
 |N+1,l0_1,last1_1,i5=>
  bif decide (i5< (l0_1.length:Int))then
   Zf (0≤i5∧i5<l0_1.length)<|
   bif decide ((l0_1.getD i5.toNat (0:Int))>last1_1)then
    Zf (0≤i5∧i5<l0_1.length)<|
    some (l0_1.getD i5.toNat (0:Int),())
   else
    Zhm N l0_1 last1_1 (IntKind.i64.wrap (i5+1))
  else
   bif(l0_1.length:Int)==(0:Int)then
    some ((-1:Int),())
   else
    Zf (0≤(0:Int)∧(0:Int)<l0_1.length)<|
    some (l0_1.getD (0:Int).toNat (0:Int),())
def Zri(l0:List Int)(last1:Int):Option (Int×Unit):=
 Zhm (Zj0 l0 last1 (0:Int)) l0 last1 (0:Int)
abbrev Z2v:List PE:=[.val 0 (.slice 266 (Xf)) (.u false),.val 1 (.int .i64) (.u false),.val 5 (.slice 3 (.int .i64)) (.u true),.val 6 (.slice 3 (.int .i64)) (.u true),.val 7 (.int .i64) (.u false),.val 8 (.int .i64) (.u false)]
def Zec(K1: (List Z0×Int×List Int×List Int×Int×Unit)→Option (Int×Unit))(K2: (List Z0×Int×List Int×List Int×Int×Int×Unit)→Option (Int×Unit))(l0_3:List Z0)(last1_3:Int)(m5_2:List Int)(some6_2:List Int)(i7_2:Int)(k8_1:Int):Option (Int×Unit):=
 K2 (l0_3,last1_3,m5_2,some6_2,i7_2,IntKind.i64.wrap (k8_1+1),())
abbrev Z2x:List PE:=[.val 0 (.slice 266 (Xf)) (.u false),.val 1 (.int .i64) (.u false),.val 5 (.slice 3 (.int .i64)) (.u true),.val 6 (.slice 3 (.int .i64)) (.u true),.val 7 (.int .i64) (.u false),.val 8 (.int .i64) (.u false)]
def Zhd(l0_2:List Z0)(last1_2:Int)(m5_1:List Int)(some6_1:List Int)(i7_1:Int)(k8:Int):Nat:=((m5_1.length:Int)-k8).toNat+1
def Vk(K1: (List Z0×Int×List Int×List Int×Int×Unit)→Option (Int×Unit)):Nat→List Z0→Int→List Int→List Int→Int→Int→Option (Int×Unit)
 |0,_,_,_,_,_,_=>none
 |N+1,l0_2,last1_2,m5_1,some6_1,i7_1,k8=>
  bif decide (k8< (m5_1.length:Int))then
   Zf (0≤k8∧k8<m5_1.length)<|
   Zf (0≤i7_1∧i7_1<l0_2.length)<|
   let t33:Bool:=(m5_1.getD k8.toNat (0:Int))==(l0_2.getD i7_1.toNat Kn).1
   Zf ((t33=true→(0≤i7_1∧i7_1<l0_2.length)))<|
   bif t33&& (!(l0_2.getD i7_1.toNat Kn).2.1.2.1)then
    Zf (0≤i7_1∧i7_1<l0_2.length)<|
    some ((l0_2.getD i7_1.toNat Kn).1,())
   else
    Zf (0≤k8∧k8<m5_1.length)<|
    Zf (0≤i7_1∧i7_1<l0_2.length)<|
    bif(m5_1.getD k8.toNat (0:Int))==(l0_2.getD i7_1.toNat Kn).1 then
     Zf (0≤i7_1∧i7_1<l0_2.length)<|
     Zf (some6_1.length+ ([(l0_2.getD i7_1.toNat Kn).1]).length≤Qv)<|
     Zec K1 (fun v=>Vk K1 N v.1 v.2.1 v.2.2.1 v.2.2.2.1 v.2.2.2.2.1 v.2.2.2.2.2.1) l0_2 last1_2 m5_1 (some6_1++ ([(l0_2.getD i7_1.toNat Kn).1])) i7_1 k8
    else
     Zec K1 (fun v=>Vk K1 N v.1 v.2.1 v.2.2.1 v.2.2.2.1 v.2.2.2.2.1 v.2.2.2.2.2.1) l0_2 last1_2 m5_1 some6_1 i7_1 k8
  else
   K1 (l0_2,last1_2,m5_1,some6_1,IntKind.i64.wrap (i7_1+1),())
abbrev Z2w:List PE:=[.val 0 (.slice 266 (Xf)) (.u false),.val 1 (.int .i64) (.u false),.val 5 (.slice 3 (.int .i64)) (.u true),.val 6 (.slice 3 (.int .i64)) (.u true),.val 7 (.int .i64) (.u false)]
def Zhc(l0_1:List Z0)(last1_1:Int)(m5:List Int)(some6:List Int)(i7:Int):Nat:=((l0_1.length:Int)-i7).toNat+1
def K9:Nat→List Z0→Int→List Int→List Int→Int→Option (Int×Unit)
 |0,_,_,_,_,_=>none
 |N+1,l0_1,last1_1,m5,some6,i7=>
  bif decide (i7< (l0_1.length:Int))then
   Vk (fun v=>K9 N v.1 v.2.1 v.2.2.1 v.2.2.2.1 v.2.2.2.2.1) (Zhd l0_1 last1_1 m5 some6 i7 (0:Int)) l0_1 last1_1 m5 some6 i7 (0:Int)
  else
   (Zri some6 last1_1).bind fun t68=>
   some (t68.1,())
def Zns(l0:List Z0)(last1:Int):Option (Int×Unit):=
 (Znr l0).bind fun t10=>
 K9 (Zhc l0 last1 t10.1 ([]:List Int) (0:Int)) l0 last1 t10.1 ([]:List Int) (0:Int)
def Ze5(c0:Kw):Option (Int×Unit):=
 (Y0 c0).bind fun t4=>
 bif !t4.1 then
  some ((0:Int),())
 else
  some (IntKind.i64.wrap (c0.1-c0.2.1),())
abbrev Z9r:List PE:=[.val 1 (.int .i64) (.u false),.val 2 (.int .i64) (.u false),.box 3 87 (Zce) (.u false),.val 8 (.str) (.u false),.val 9 (.int .i64) (.u false)]
def Zew(offset1_1:Int)(n2_1:Int)(r3:Ko)(s8_1:List UInt8)(i9:Int):Nat:=(n2_1-i9).toNat+1
def Zhh:Nat→Int→Int→Ko→List UInt8→Int→Option (List UInt8×Bool×Unit)
 |0,_,_,_,_,_=>none
 |N+1,offset1_1,n2_1,r3,s8_1,i9=>
  bif decide (i9<n2_1)then
   Zf (r3.1≠0)<|
   let t50:Int:=Int.tmod (IntKind.i64.wrap (offset1_1+i9)) r3.1
   Zf (0≤t50∧t50<r3.2.2.2.1.length)<|
   (Zot (r3.2.2.2.1.getD t50.toNat (0:Int))).bind fun t53=>
   Zf (s8_1.length+t53.1.length≤W9)<|
   Zhh N offset1_1 n2_1 r3 (s8_1++t53.1) (IntKind.i64.wrap (i9+1))
  else
   some (s8_1,true,())
def Zrg(r0:Ko)(offset1:Int)(n2:Int):Option (List UInt8×Bool×Unit):=
 (Zbl r0).bind fun t11=>
 bif((((!t11.1)|| (decide (offset1<r0.2.1)))|| (decide (n2< (0:Int))))|| (decide (offset1>r0.2.2.1)))|| (decide (n2>(IntKind.i64.wrap (r0.2.2.1-offset1))))then
  some (([]:List UInt8),false,())
 else
  Zhh (Zew offset1 n2 r0 ([]:List UInt8) (0:Int)) offset1 n2 r0 ([]:List UInt8) (0:Int)
abbrev Z5i:List PE:=[.box 3 90 (Z8) (.u false),.box 6 221 (Za9) (.u false),.box 8 221 (Za9) (.u false),.box 9 124 (Zr) (.u false),.val 10 (.int .i64) (.u false)]
def Zfq(s3:Zq)(t6:Kl)(p8:Kl)(r9:Zd)(high10:Int):Option (Kl×Bool×Unit):=
 bif decide (high10≤r9.1)then
  some (Zqb,false,())
 else
  (Zrg s3.2.1 r9.1 (IntKind.i64.wrap (high10-r9.1))).bind fun t70=>
  some ((r9.1,(t70.1,(p8.2.2.1&& (high10==s3.2.2.2.2.2.1),()))),true,())
def Zpv(s0:Zq)(most1:Int)(limit2:Int):Option (Kl×Bool×Unit):=
 (Yd s0).bind fun t14=>
 bif(!t14.1)|| (decide (s0.1>(2:Int)))then
  some (Zqb,false,())
 else
  bif decide ((s0.2.2.1.length:Int)>(0:Int))then
   Zf (0≤(0:Int)∧(0:Int)<s0.2.2.1.length)<|
   let t39:Int:=min (s0.2.2.1.getD (0:Int).toNat Zx).2.1 limit2
   bif decide (t39≤(s0.2.2.1.getD (0:Int).toNat Zx).1)then
    some (Zqb,false,())
   else
    bif decide (most1< (IntKind.i64.wrap (t39- (s0.2.2.1.getD (0:Int).toNat Zx).1)))then
     Zfq s0 Zqb (s0.2.2.2.2.2.1,(([]:List UInt8),(s0.2.2.2.2.2.2.1==1,()))) (s0.2.2.1.getD (0:Int).toNat Zx) (IntKind.i64.wrap ((s0.2.2.1.getD (0:Int).toNat Zx).1+ (max most1 (0:Int))))
    else
     Zfq s0 Zqb (s0.2.2.2.2.2.1,(([]:List UInt8),(s0.2.2.2.2.2.2.1==1,()))) (s0.2.2.1.getD (0:Int).toNat Zx) t39
  else
   bif !(s0.2.2.2.2.2.2.1==1)then
    some (Zqb,false,())
   else
    some ((s0.2.2.2.2.2.1,(([]:List UInt8),(s0.2.2.2.2.2.2.1==1,()))),true,())
def Zsl(id0:Int)(p1:Kl):Option (Zh×Unit):=
 some (((8:Int),(id0,(p1.1,(p1.2.1,(p1.2.2.1,((0:Int),((0:Int),((0:Int),(false,()))))))))),())
abbrev Z9s:List PE:=[.val 1 (.int .i64) (.u false),.val 2 (.int .i64) (.u false),.box 6 221 (Za9) (.u false),.box 8 99 (Z2) (.u true),.val 10 (.int .i64) (.u false),.val 11 (.int .i64) (.u false)]
def Zjz(id1_1:Int)(room2_1:Int)(t6:Kl)(s8:Zn)(limit10:Int)(n11:Int):Nat:=(n11-0).toNat+1
def Zhi:Nat→Int→Int→Kl→Zn→Int→Int→Option (Kl×Bool×Unit)
 |0,_,_,_,_,_,_=>none
 |N+1,id1_1,room2_1,t6,s8,limit10,n11=>
  bif decide (n11>(0:Int))then
   (Zpv s8.2.1 n11 limit10).bind fun t59=>
   bif !t59.2.1 then
    some (Zqb,false,())
   else
    (Zsl id1_1 t59.1).bind fun t67=>
    (Zd0 t67.1).bind fun t68=>
    bif decide (t68.1≤room2_1)then
     some (t59.1,true,())
    else
     Zhi N id1_1 room2_1 t6 s8 limit10 (IntKind.i64.wrap (n11-1))
  else
   some (Zqb,false,())
def Zrh(c0:Zg)(id1:Int)(room2:Int):Option (Kl×Bool×Unit):=
 (Qu c0 id1).bind fun t17=>
 (Z6 c0).bind fun t21=>
 bif(((!t21.1)|| (!t17.2.1))|| (!t17.1.2.2.2.2.2.2.1))|| (decide (room2< (3:Int)))then
  some (Zqb,false,())
 else
  (Ze5 c0.2.2.2.2.1).bind fun t45=>
  let t47:Int:=min t17.1.2.2.1.1 (IntKind.i64.wrap (t17.1.2.1.2.2.2.2.2.2.2.1+t45.1))
  Zhi (Zjz id1 room2 Zqb t17.1 t47 (min room2 (60:Int))) id1 room2 Zqb t17.1 t47 (min room2 (60:Int))
def Zhe(c0:Kw):Option (Kw×Unit):=
 (Y0 c0).bind fun t4=>
 bif((t4.1&& (c0.2.1==c0.1))&& (c0.2.2.1==(-1:Int)))&& (c0.2.2.2.1 !=c0.1)then
  some ((c0.1,(c0.2.1,(c0.1,c0.2.2.2))),())
 else
  some (c0,())
def Zrk(x0:Zg)(id1:Int):Option ((Unit)×(Zg×Unit)):=
 (Qu x0 id1).bind fun t11=>
 (Zhe t11.1.2.2.1).bind fun t16=>
 (Zhe x0.2.2.2.2.1).bind fun t23=>
 (Xp x0.2.2.2.1 (t11.1.1,(t11.1.2.1,(t16.1,t11.1.2.2.2)))).bind fun t32=>
 some ((),((x0.1,(x0.2.1,(x0.2.2.1,(t32.1,(t23.1,x0.2.2.2.2.2))))),()))
def Zp8(s0:Zq)(p1:Kl):Option (Bool×Unit):=
 some ((((decide (p1.1≥(0:Int)))&& (decide (p1.1≤s0.2.1.2.2.1)))&& (decide ((p1.2.1.length:Int)≤(IntKind.i64.wrap (s0.2.1.2.2.1-p1.1)))))&& ((!p1.2.2.1)|| ((s0.2.2.2.2.2.1 !=(-1:Int))&& ((IntKind.i64.wrap (p1.1+ (p1.2.1.length:Int)))==s0.2.2.2.2.2.1))),())
def Zmb(p0:Kl):Option (Zd×Unit):=
 some ((p0.1,(IntKind.i64.wrap (p0.1+ (p0.2.1.length:Int)),())),())
abbrev Zyr:List PE:=[.val 0 (.slice 124 (Zr)) (.u false),.val 1 (.slice 124 (Zr)) (.u false),.val 5 (.slice 124 (Zr)) (.u true),.val 6 (.int .i64) (.u false),.val 7 (.int .i64) (.u false)]
def Zfi(K1: (List Zd×List Zd×List Zd×Int×Unit)→Option (List Zd×Unit))(K2: (List Zd×List Zd×List Zd×Int×Int×Unit)→Option (List Zd×Unit))(a0_3:List Zd)(b1_3:List Zd)(out5_2:List Zd)(i6_2:Int)(k7_1:Int):Option (List Zd×Unit):=
 K2 (a0_3,b1_3,out5_2,i6_2,IntKind.i64.wrap (k7_1+1),())
abbrev Zys:List PE:=[.val 0 (.slice 124 (Zr)) (.u false),.val 1 (.slice 124 (Zr)) (.u false),.val 5 (.slice 124 (Zr)) (.u true),.val 6 (.int .i64) (.u false),.val 7 (.int .i64) (.u false),.box 8 124 (Zr) (.u false)]
def Zkz(K1: (List Zd×List Zd×List Zd×Int×Unit)→Option (List Zd×Unit))(K2: (List Zd×List Zd×List Zd×Int×Int×Unit)→Option (List Zd×Unit))(a0_4:List Zd)(b1_4:List Zd)(out5_3:List Zd)(i6_3:Int)(k7_2:Int)(r8:Zd):Option (List Zd×Unit):=
 bif decide (r8.1<r8.2.1)then
  Zf (out5_3.length+ ([r8]).length≤Qv)<|
  Zfi K1 K2 a0_4 b1_4 (out5_3++ ([r8])) i6_3 k7_2
 else
  Zfi K1 K2 a0_4 b1_4 out5_3 i6_3 k7_2
abbrev Zyu:List PE:=[.val 0 (.slice 124 (Zr)) (.u false),.val 1 (.slice 124 (Zr)) (.u false),.val 5 (.slice 124 (Zr)) (.u true),.val 6 (.int .i64) (.u false),.val 7 (.int .i64) (.u false)]
def W6(a0_2:List Zd)(b1_2:List Zd)(out5_1:List Zd)(i6_1:Int)(k7:Int):Nat:=((b1_2.length:Int)-k7).toNat+1
def Vx(K1: (List Zd×List Zd×List Zd×Int×Unit)→Option (List Zd×Unit)):Nat→List Zd→List Zd→List Zd→Int→Int→Option (List Zd×Unit)
 |0,_,_,_,_,_=>none
 |N+1,a0_2,b1_2,out5_1,i6_1,k7=>
  bif decide (k7< (b1_2.length:Int))then
   Zf (0≤i6_1∧i6_1<a0_2.length)<|
   Zf (0≤k7∧k7<b1_2.length)<|
   let t40:Int:=max (a0_2.getD i6_1.toNat Zx).1 (b1_2.getD k7.toNat Zx).1
   Zf (0≤i6_1∧i6_1<a0_2.length)<|
   Zf (0≤k7∧k7<b1_2.length)<|
   let t51:Int:=min (a0_2.getD i6_1.toNat Zx).2.1 (b1_2.getD k7.toNat Zx).2.1
   Ql 1 (
    Zkz K1 (fun v=>Vx K1 N v.1 v.2.1 v.2.2.1 v.2.2.2.1 v.2.2.2.2.1) a0_2 b1_2 out5_1 i6_1 k7 (t40,(t51,()))
   )
  else
   K1 (a0_2,b1_2,out5_1,IntKind.i64.wrap (i6_1+1),())
abbrev Zyt:List PE:=[.val 0 (.slice 124 (Zr)) (.u false),.val 1 (.slice 124 (Zr)) (.u false),.val 5 (.slice 124 (Zr)) (.u true),.val 6 (.int .i64) (.u false)]
def W5(a0_1:List Zd)(b1_1:List Zd)(out5:List Zd)(i6:Int):Nat:=((a0_1.length:Int)-i6).toNat+1
def Kz:Nat→List Zd→List Zd→List Zd→Int→Option (List Zd×Unit)
 |0,_,_,_,_=>none
 |N+1,a0_1,b1_1,out5,i6=>
  (bif(decide (i6< (a0_1.length:Int)))then(Y1 a0_1)else some (false,())).bind fun t16=>
  let t17:Bool:=(decide (i6< (a0_1.length:Int)))&&t16.1
  (bif t17 then(Y1 b1_1)else some (false,())).bind fun t20=>
  bif t17&&t20.1 then
   Vx (fun v=>Kz N v.1 v.2.1 v.2.2.1 v.2.2.2.1) (W6 a0_1 b1_1 out5 i6 (0:Int)) a0_1 b1_1 out5 i6 (0:Int)
  else
   some (out5,())
def Zbx(a0:List Zd)(b1:List Zd):Option (List Zd×Unit):=
 Kz (W5 a0 b1 ([]:List Zd) (0:Int)) a0 b1 ([]:List Zd) (0:Int)
abbrev Z0l:List PE:=[.val 0 (.slice 124 (Zr)) (.u false),.box 3 124 (Zr) (.u false),.val 5 (.slice 124 (Zr)) (.u true),.val 6 (.int .i64) (.u false)]
def Zgg(K1: (List Zd×Zd×List Zd×Int×Unit)→Option (List Zd×Unit))(l0_2:List Zd)(r3_1:Zd)(out5_1:List Zd)(i6_1:Int):Option (List Zd×Unit):=
 K1 (l0_2,r3_1,out5_1,IntKind.i64.wrap (i6_1+1),())
abbrev Z0m:List PE:=[.val 0 (.slice 124 (Zr)) (.u false),.box 3 124 (Zr) (.u false),.val 5 (.slice 124 (Zr)) (.u true),.val 6 (.int .i64) (.u false)]
def Zcr(K1: (List Zd×Zd×List Zd×Int×Unit)→Option (List Zd×Unit))(l0_3:List Zd)(r3_2:Zd)(out5_2:List Zd)(i6_2:Int):Option (List Zd×Unit):=
 Zf (0≤i6_2∧i6_2<l0_3.length)<|
 Zf (0≤i6_2∧i6_2<l0_3.length)<|
 bif decide ((max (l0_3.getD i6_2.toNat Zx).1 r3_2.2.1)< (l0_3.getD i6_2.toNat Zx).2.1)then
  Zf (0≤i6_2∧i6_2<l0_3.length)<|
  Zf (0≤i6_2∧i6_2<l0_3.length)<|
  let t84:List Zd:=[(max (l0_3.getD i6_2.toNat Zx).1 r3_2.2.1,((l0_3.getD i6_2.toNat Zx).2.1,()))]
  Zf (out5_2.length+t84.length≤Qv)<|
  Zgg K1 l0_3 r3_2 (out5_2++t84) i6_2
 else
  Zgg K1 l0_3 r3_2 out5_2 i6_2
abbrev Z0n:List PE:=[.val 0 (.slice 124 (Zr)) (.u false),.box 3 124 (Zr) (.u false),.val 5 (.slice 124 (Zr)) (.u true),.val 6 (.int .i64) (.u false)]
def Za6(l0_1:List Zd)(r3:Zd)(out5:List Zd)(i6:Int):Nat:=((l0_1.length:Int)-i6).toNat+1
def Kk:Nat→List Zd→Zd→List Zd→Int→Option (List Zd×Unit)
 |0,_,_,_,_=>none
 |N+1,l0_1,r3,out5,i6=>
  bif decide (i6< (l0_1.length:Int))then
   Zf (0≤i6∧i6<l0_1.length)<|
   Zf (0≤i6∧i6<l0_1.length)<|
   bif decide ((l0_1.getD i6.toNat Zx).1< (min (l0_1.getD i6.toNat Zx).2.1 r3.1))then
    Zf (0≤i6∧i6<l0_1.length)<|
    Zf (0≤i6∧i6<l0_1.length)<|
    let t53:List Zd:=[((l0_1.getD i6.toNat Zx).1,(min (l0_1.getD i6.toNat Zx).2.1 r3.1,()))]
    Zf (out5.length+t53.length≤Qv)<|
    Zcr (fun v=>Kk N v.1 v.2.1 v.2.2.1 v.2.2.2.1) l0_1 r3 (out5++t53) i6
   else
    Zcr (fun v=>Kk N v.1 v.2.1 v.2.2.1 v.2.2.2.1) l0_1 r3 out5 i6
  else
   some (out5,())
def Zdk(l0:List Zd)(r1:Zd):Option (List Zd×Unit):=
 (Y1 l0).bind fun t8=>
 (bif(!t8.1)then some (false,())else(Zr2 r1)).bind fun t12=>
 bif(!t8.1)|| (!t12.1)then
  (Zf0 l0).bind fun t16=>
  some (t16.1,())
 else
  Kk (Za6 l0 r1 ([]:List Zd) (0:Int)) l0 r1 ([]:List Zd) (0:Int)
abbrev Z5n:List PE:=[.box 4 90 (Z8) (.u true),.box 6 90 (Z8) (.p (.u false) (.p (.u true) (.p (.u true) (.p (.u true) (.p (.u true) (.u false))))))]
def Zft(t4_1:Zq)(x6_1:Zq):Option (Zq×Bool×Unit):=
 (Vb x6_1).bind fun t86=>
 some ((t86.1,x6_1.2),true,())
abbrev Z5m:List PE:=[.box 3 221 (Za9) (.u false),.box 4 90 (Z8) (.u true),.box 6 90 (Z8) (.p (.u false) (.p (.u true) (.p (.u true) (.p (.u true) (.p (.u true) (.u false))))))]
def Zfs(p3:Kl)(t4:Zq)(x6:Zq):Option (Zq×Bool×Unit):=
 bif p3.2.2.1 then
  Zft t4 (x6.1,(x6.2.1,(x6.2.2.1,(x6.2.2.2.1,(x6.2.2.2.2.1,(x6.2.2.2.2.2.1,((2:Int),x6.2.2.2.2.2.2.2)))))))
 else
  Zft t4 x6
def Zpw(s0:Zq)(p1:Kl):Option (Zq×Bool×Unit):=
 (Zbq s0).bind fun t10=>
 (Yd s0).bind fun t12=>
 let t18:Bool:=(!t12.1)|| (decide (s0.1>(2:Int)))
 (bif t18 then some (false,())else(Zp8 s0 p1)).bind fun t22=>
 bif((t18|| (!t22.1))|| ((p1.2.1==([]:List UInt8))&& (!p1.2.2.1)))|| (p1.2.2.1&& (s0.2.2.2.2.2.2.1 !=1))then
  some (t10.1,false,())
 else
  bif !(p1.2.1==([]:List UInt8))then
   (Zmb p1).bind fun t49=>
   (Zbx s0.2.2.1 ([t49.1])).bind fun t54=>
   Zf ((((t54.1.length:Int) !=(1:Int))=false→(0≤(0:Int)∧(0:Int)<t54.1.length)))<|
   bif((t54.1.length:Int) !=(1:Int))|| (!(eqV (Zr) (t54.1.getD (0:Int).toNat Zx) t49.1))then
    some (t10.1,false,())
   else
    (Zdk s0.2.2.1 t49.1).bind fun t69=>
    (Jb s0.2.2.2.1 t49.1).bind fun t74=>
    Zfs p1 Zc5 (t10.1.1,(t10.1.2.1,(t69.1,(t74.1,(t10.1.2.2.2.2.1,(t10.1.2.2.2.2.2.1,(t10.1.2.2.2.2.2.2.1,(max s0.2.2.2.2.2.2.2.1 t49.1.2.1,t10.1.2.2.2.2.2.2.2.2))))))))
  else
   Zfs p1 Zc5 t10.1
def Zk9(c0:Kw)(n1:Int):Option (Kw×Bool×Unit):=
 (Y0 c0).bind fun t7=>
 bif((!t7.1)|| (decide (n1< (0:Int))))|| (decide (n1>(IntKind.i64.wrap (c0.1-c0.2.1))))then
  some (c0,false,())
 else
  some ((c0.1,(IntKind.i64.wrap (c0.2.1+n1),c0.2.2)),true,())
def Zk4(c0:Zg)(id1:Int)(p2:Kl):Option (Zg×Bool×Unit):=
 (Zw c0).bind fun t19=>
 (Qu c0 id1).bind fun t23=>
 (Z6 c0).bind fun t27=>
 bif((!t27.1)|| (!t23.2.1))|| (!t23.1.2.2.2.2.2.2.1)then
  some (t19.1,false,())
 else
  (Zpw t23.1.2.1 p2).bind fun t43=>
  (Zk9 t23.1.2.2.1 (IntKind.i64.wrap (t43.1.2.2.2.2.2.2.2.1-t23.1.2.1.2.2.2.2.2.2.2.1))).bind fun t56=>
  (Zk9 c0.2.2.2.2.1 (IntKind.i64.wrap (t43.1.2.2.2.2.2.2.2.1-t23.1.2.1.2.2.2.2.2.2.2.1))).bind fun t63=>
  bif((!t43.2.1)|| (!t56.2.1))|| (!t63.2.1)then
   some (t19.1,false,())
  else
   (Xp t19.1.2.2.2.1 (t23.1.1,(t43.1,(t56.1,t23.1.2.2.2)))).bind fun t88=>
   some ((t19.1.1,(t19.1.2.1,(t19.1.2.2.1,(t88.1,(t63.1,(t19.1.2.2.2.2.2.1,(t19.1.2.2.2.2.2.2.1,(t19.1.2.2.2.2.2.2.2.1,(t19.1.2.2.2.2.2.2.2.2.1,(t19.1.2.2.2.2.2.2.2.2.2.1,(t19.1.2.2.2.2.2.2.2.2.2.2.1,(t19.1.2.2.2.2.2.2.2.2.2.2.2.1,(t19.1.2.2.2.2.2.2.2.2.2.2.2.2.1,(id1,t19.1.2.2.2.2.2.2.2.2.2.2.2.2.2.2)))))))))))))),true,())
abbrev Qdt:List PE:=[.box 0 37 (Zl) (.u true),.val 1 (.slice 115 (Zt)) (.u true),.val 2 (.int .i64) (.u false),.val 7 (.slice 3 (.int .i64)) (.u true),.val 8 (.int .i64) (.u false)]
def Zjc(K1: (Zg×List Zh×Int×List Int×Int×Unit)→Option ((List Zh×Unit)×(Zg×Unit)))(x0_2:Zg)(frames1_2:List Zh)(room2_2:Int)(skip7_1:List Int)(i8_1:Int):Option ((List Zh×Unit)×(Zg×Unit)):=
 K1 (x0_2,frames1_2,room2_2,skip7_1,IntKind.i64.wrap (i8_1+1),())
abbrev Qdu:List PE:=[.box 0 37 (Zl) (.u true),.val 1 (.slice 115 (Zt)) (.u true),.val 2 (.int .i64) (.u false),.val 7 (.slice 3 (.int .i64)) (.u true),.val 8 (.int .i64) (.u false),.val 11 (.int .i64) (.u false),.box 12 221 (Za9) (.u false),.box 14 37 (Zl) (.u true),.val 15 (.bool) (.u false)]
def Yw(K1: (Zg×List Zh×Int×List Int×Int×Unit)→Option ((List Zh×Unit)×(Zg×Unit)))(x0_4:Zg)(frames1_4:List Zh)(room2_4:Int)(skip7_3:List Int)(i8_3:Int)(id11:Int)(p12:Kl)(y14:Zg)(fine15:Bool):Option ((List Zh×Unit)×(Zg×Unit)):=
 bif !fine15 then
  some ((frames1_4,()),(x0_4,()))
 else
  (Zsl id11 p12).bind fun t82=>
  Zf (frames1_4.length+ ([t82.1]).length≤Qv)<|
  (Zd0 t82.1).bind fun t89=>
  Zjc K1 y14 (frames1_4++ ([t82.1])) (IntKind.i64.wrap (room2_4-t89.1)) skip7_3 i8_3
abbrev Qdw:List PE:=[.box 0 37 (Zl) (.u true),.val 1 (.slice 115 (Zt)) (.u true),.val 2 (.int .i64) (.u false),.val 7 (.slice 3 (.int .i64)) (.u true),.val 8 (.int .i64) (.u false),.val 9 (.slice 266 (Xf)) (.u true),.val 10 (.int .i64) (.u false)]
def Zlf(x0_3:Zg)(frames1_3:List Zh)(room2_3:Int)(skip7_2:List Int)(i8_2:Int)(l9:List Z0)(k10:Int):Nat:=((skip7_2.length:Int)-k10).toNat+1
def Zjd(K1: (Zg×List Zh×Int×List Int×Int×Unit)→Option ((List Zh×Unit)×(Zg×Unit))):Nat→Zg→List Zh→Int→List Int→Int→List Z0→Int→Option ((List Zh×Unit)×(Zg×Unit))
 |0,_,_,_,_,_,_,_=>none
 |N+1,x0_3,frames1_3,room2_3,skip7_2,i8_2,l9,k10=>
  bif decide (k10< (skip7_2.length:Int))then
   Zf (0≤k10∧k10<skip7_2.length)<|
   (Znz l9 (skip7_2.getD k10.toNat (0:Int))).bind fun t37=>
   Zjd K1 N x0_3 frames1_3 room2_3 skip7_2 i8_2 t37.1 (IntKind.i64.wrap (k10+1))
  else
   (Zns l9 x0_3.2.2.2.2.2.2.2.2.2.2.2.2.2.1).bind fun t43=>
   bif decide (t43.1< (0:Int))then
    some ((frames1_3,()),(x0_3,()))
   else
    (Zrh x0_3 t43.1 room2_3).bind fun t53=>
    bif !t53.2.1 then
     (Zrk x0_3 t43.1).bind fun t60=>
     Zf (skip7_2.length+ ([t43.1]).length≤Qv)<|
     Zjc K1 t60.2.1 frames1_3 room2_3 (skip7_2++ ([t43.1])) i8_2
    else
     Z5 (
      (Zk4 x0_3 t43.1 t53.1).bind fun t71=>
      Z5 (
       Z5 (
        Z5 (
         Yw K1 x0_3 frames1_3 room2_3 skip7_2 i8_2 t43.1 t53.1 t71.1 t71.2.1
        ) (
         Ql 1 (
          Yw K1 x0_3 frames1_3 room2_3 skip7_2 i8_2 t43.1 t53.1 t71.1 t71.2.1
         )
        )
       ) (
       Z5 (
        Ql 1 (
         Yw K1 x0_3 frames1_3 room2_3 skip7_2 i8_2 t43.1 t53.1 t71.1 t71.2.1
        )
       ) (
        Z5 (
         Ql 1 (
          Yw K1 x0_3 frames1_3 room2_3 skip7_2 i8_2 t43.1 t53.1 t71.1 t71.2.1
         )
        ) (
         Yw K1 x0_3 frames1_3 room2_3 skip7_2 i8_2 t43.1 t53.1 t71.1 t71.2.1
        )
       )
       )
      ) (
       Z5 (
        Ql 1 (
         Yw K1 x0_3 frames1_3 room2_3 skip7_2 i8_2 t43.1 t53.1 t71.1 t71.2.1
        )
       ) (
        Yw K1 x0_3 frames1_3 room2_3 skip7_2 i8_2 t43.1 t53.1 t71.1 t71.2.1
       )
      )
     ) (
      (Zk4 x0_3 t43.1 t53.1).bind fun t71=>
      Z5 (
       Ql 1 (
        Yw K1 x0_3 frames1_3 room2_3 skip7_2 i8_2 t43.1 t53.1 t71.1 t71.2.1
       )
      ) (
       Yw K1 x0_3 frames1_3 room2_3 skip7_2 i8_2 t43.1 t53.1 t71.1 t71.2.1
      )
     )
abbrev Qdv:List PE:=[.box 0 37 (Zl) (.u true),.val 1 (.slice 115 (Zt)) (.u true),.val 2 (.int .i64) (.u false),.val 7 (.slice 3 (.int .i64)) (.u true),.val 8 (.int .i64) (.u false)]
def Zle(x0_1:Zg)(frames1_1:List Zh)(room2_1:Int)(skip7:List Int)(i8:Int):Nat:=((200:Int)-i8).toNat+1
def Ww:Nat→Zg→List Zh→Int→List Int→Int→Option ((List Zh×Unit)×(Zg×Unit))
 |0,_,_,_,_,_=>none
 |N+1,x0_1,frames1_1,room2_1,skip7,i8=>
  bif decide (i8< (200:Int))then
   (Zny x0_1).bind fun t25=>
   Zjd (fun v=>Ww N v.1 v.2.1 v.2.2.1 v.2.2.2.1 v.2.2.2.2.1) (Zlf x0_1 frames1_1 room2_1 skip7 i8 t25.1 (0:Int)) x0_1 frames1_1 room2_1 skip7 i8 t25.1 (0:Int)
  else
   some ((frames1_1,()),(x0_1,()))
def Ztf(x0:Zg)(frames1:List Zh)(room2:Int):Option ((List Zh×Unit)×(Zg×Unit)):=
 Ww (Zle x0 frames1 room2 ([]:List Int) (0:Int)) x0 frames1 room2 ([]:List Int) (0:Int)
abbrev Zw8:List PE:=[.val 0 (.slice 115 (Zt)) (.u false),.val 3 (.str) (.u false),.val 4 (.int .i64) (.u false)]
def Zdy(l0_1:List Zh)(s3_1:List UInt8)(i4:Int):Nat:=((l0_1.length:Int)-i4).toNat+1
def Zaj:Nat→List Zh→List UInt8→Int→Option (List UInt8×Unit)
 |0,_,_,_=>none
 |N+1,l0_1,s3_1,i4=>
  bif decide (i4< (l0_1.length:Int))then
   Zf (0≤i4∧i4<l0_1.length)<|
   (Zdh (l0_1.getD i4.toNat Xr)).bind fun t16=>
   bif t16.1==([]:List UInt8)then
    some (([]:List UInt8),())
   else
    Zf (s3_1.length+t16.1.length≤W9)<|
    Zaj N l0_1 (s3_1++t16.1) (IntKind.i64.wrap (i4+1))
  else
   bif decide ((s3_1.length:Int)>(400:Int))then
    some (([]:List UInt8),())
   else
    some (s3_1,())
def Zih(l0:List Zh):Option (List UInt8×Unit):=
 Zaj (Zdy l0 ([]:List UInt8) (0:Int)) l0 ([]:List UInt8) (0:Int)
abbrev Z2g:List PE:=[.box 2 37 (Zl) (.u false),.box 6 37 (Zl) (.u true),.box 7 37 (Zl) (.u true),.val 8 (.slice 115 (Zt)) (.u true),.val 9 (.int .i64) (.u false),.val 10 (.slice 115 (Zt)) (.u true),.val 11 (.int .i64) (.u false)]
def Vi(K1: (Zg×Zg×Zg×List Zh×Int×List Zh×Int×Unit)→Option ((List UInt8×Int×Zg×Unit)×(Unit)))(c2_1:Zg)(t6_1:Zg)(x7_1:Zg)(frames8_1:List Zh)(room9_1:Int)(l10_1:List Zh)(i11_1:Int):Option ((List UInt8×Int×Zg×Unit)×(Unit)):=
 K1 (c2_1,t6_1,x7_1,frames8_1,room9_1,l10_1,IntKind.i64.wrap (i11_1+1),())
abbrev Z2h:List PE:=[.box 2 37 (Zl) (.u false),.box 6 37 (Zl) (.u true),.box 7 37 (Zl) (.u true),.val 8 (.slice 115 (Zt)) (.u true),.val 9 (.int .i64) (.u false),.val 10 (.slice 115 (Zt)) (.u true),.val 11 (.int .i64) (.u false)]
def Zby(c2:Zg)(t6:Zg)(x7:Zg)(frames8:List Zh)(room9:Int)(l10:List Zh)(i11:Int):Nat:=((l10.length:Int)-i11).toNat+1
def Yl:Nat→Zg→Zg→Zg→List Zh→Int→List Zh→Int→Option ((List UInt8×Int×Zg×Unit)×(Unit))
 |0,_,_,_,_,_,_,_=>none
 |N+1,c2,t6,x7,frames8,room9,l10,i11=>
  bif decide (i11< (l10.length:Int))then
   Zf (0≤i11∧i11<l10.length)<|
   (Zd0 (l10.getD i11.toNat Xr)).bind fun t42=>
   bif decide (t42.1≤room9)then
    Zf (0≤i11∧i11<l10.length)<|
    (Zd0 (l10.getD i11.toNat Xr)).bind fun t50=>
    Zf (0≤i11∧i11<l10.length)<|
    (Zl3 x7 (l10.getD i11.toNat Xr)).bind fun t57=>
    Zf (0≤i11∧i11<l10.length)<|
    Zf (frames8.length+ ([(l10.getD i11.toNat Xr)]).length≤Qv)<|
    Vi (fun v=>Yl N v.1 v.2.1 v.2.2.1 v.2.2.2.1 v.2.2.2.2.1 v.2.2.2.2.2.1 v.2.2.2.2.2.2.1) c2 t6 t57.1 (frames8++ ([(l10.getD i11.toNat Xr)])) (IntKind.i64.wrap (room9-t50.1)) l10 i11
   else
    Vi (fun v=>Yl N v.1 v.2.1 v.2.2.1 v.2.2.2.1 v.2.2.2.2.1 v.2.2.2.2.2.1 v.2.2.2.2.2.2.1) c2 t6 x7 frames8 room9 l10 i11
  else
   (Ztf x7 frames8 room9).bind fun t67=>
   bif(t67.1.1.length:Int)==(0:Int)then
    some ((([]:List UInt8),((-1:Int),(t67.2.1,()))),())
   else
    Zf (t67.2.1.2.2.2.2.2.2.2.2.2.2.2.2.2.2.2.1.length+ ([(c2.2.2.2.2.2.2.2.2.2.2.2.2.2.2.1,(t67.1.1,()))]).length≤Qv)<|
    (Zih t67.1.1).bind fun t86=>
    some ((t86.1,(c2.2.2.2.2.2.2.2.2.2.2.2.2.2.2.1,((t67.2.1.1,(t67.2.1.2.1,(t67.2.1.2.2.1,(t67.2.1.2.2.2.1,(t67.2.1.2.2.2.2.1,(t67.2.1.2.2.2.2.2.1,(t67.2.1.2.2.2.2.2.2.1,(t67.2.1.2.2.2.2.2.2.2.1,(t67.2.1.2.2.2.2.2.2.2.2.1,(t67.2.1.2.2.2.2.2.2.2.2.2.1,(t67.2.1.2.2.2.2.2.2.2.2.2.2.1,(t67.2.1.2.2.2.2.2.2.2.2.2.2.2.1,(t67.2.1.2.2.2.2.2.2.2.2.2.2.2.2.1,(t67.2.1.2.2.2.2.2.2.2.2.2.2.2.2.2.1,(IntKind.i64.wrap (c2.2.2.2.2.2.2.2.2.2.2.2.2.2.2.1+1),(t67.2.1.2.2.2.2.2.2.2.2.2.2.2.2.2.2.2.1++ ([(c2.2.2.2.2.2.2.2.2.2.2.2.2.2.2.1,(t67.1.1,()))]),t67.2.1.2.2.2.2.2.2.2.2.2.2.2.2.2.2.2.2)))))))))))))))),()))),())
def Zb9(c0:Zg)(budget1:Int):Option ((List UInt8×Int×Zg×Unit)×(Unit)):=
 (Zw c0).bind fun t13=>
 (Yr c0).bind fun t15=>
 (bif(!t15.1)then some (false,())else(Zu budget1 (1:Int) (400:Int))).bind fun t19=>
 bif((!t15.1)|| (!t19.1))|| (decide (c0.2.2.2.2.2.2.2.2.2.2.2.2.2.2.1≥(1000000:Int)))then
  some ((([]:List UInt8),((-1:Int),(t13.1,()))),())
 else
  (Zid c0).bind fun t31=>
  Yl (Zby c0 Wj t13.1 ([]:List Zh) budget1 t31.1 (0:Int)) c0 Wj t13.1 ([]:List Zh) budget1 t31.1 (0:Int)
def Zc3(p0:Z1)(server1:Bool)(c2:Zg):Option ((Unit)×(Z1×Unit)):=
 bif server1 then
  some ((),((p0.1,(c2,p0.2.2)),()))
 else
  some ((),((c2,p0.2),()))
def Zk6(l0:List Zy)(x1:Zy):Option (List Zy×Bool×Unit):=
 (Ys l0).bind fun t8=>
 bif decide ((l0.length:Int)≥(60:Int))then
  some (t8.1,false,())
 else
  Zf (t8.1.length+ ([x1]).length≤Qv)<|
  some (t8.1++ ([x1]),true,())
abbrev Z5a:List PE:=[.val 0 (.int .i64) (.u false),.val 3 (.str) (.u false),.val 4 (.bool) (.u false),.val 5 (.int .i64) (.u false)]
def Jt(K1: (Int×List UInt8×Bool×Unit)→Option (List UInt8×Unit))(n0_2:Int)(out3_2:List UInt8)(neg4_1:Bool)(d5:Int):Option (List UInt8×Unit):=
 let t22:List UInt8:=Zaz ([(IntKind.u8.wrap (IntKind.i64.wrap ((48:Int)+d5)))])
 Zf (t22.length+out3_2.length≤W9)<|
 Zf ((10:Int)≠0)<|
 K1 (IntKind.i64.wrap (Int.tdiv n0_2 (10:Int)),t22++out3_2,neg4_1,())
abbrev Z5b:List PE:=[.val 0 (.int .i64) (.u false),.val 3 (.str) (.u false),.val 4 (.bool) (.u false)]
def Zcy(n0_1:Int)(out3_1:List UInt8)(neg4:Bool):Nat:=1048577+ (n0_1.toNat-n0_1.toNat)
def Xe:Nat→Int→List UInt8→Bool→Option (List UInt8×Unit)
 |0,_,_,_=>none
 |N+1,n0_1,out3_1,neg4=>
  bif n0_1 !=0 then
   Zf ((10:Int)≠0)<|
   bif decide ((Int.tmod n0_1 (10:Int))<0)then
    Jt (fun v=>Xe N v.1 v.2.1 v.2.2.1) n0_1 out3_1 neg4 (IntKind.i64.wrap (0- (Int.tmod n0_1 (10:Int))))
   else
    Jt (fun v=>Xe N v.1 v.2.1 v.2.2.1) n0_1 out3_1 neg4 (Int.tmod n0_1 (10:Int))
  else
   bif neg4 then
    Zf (([45]:List UInt8).length+out3_1.length≤W9)<|
    some (([45]:List UInt8)++out3_1,())
   else
    some (out3_1,())
def Ke(n0:Int):Option (List UInt8×Unit):=
 bif n0==0 then
  some (([48]:List UInt8),())
 else
  Xe (Zcy n0 ([]:List UInt8) (decide (n0< (0:Int)))) n0 ([]:List UInt8) (decide (n0< (0:Int)))
def Zre(c0:Zjp):Option (Int×Zjp×Bool×Unit):=
 (Za5 c0).bind fun t7=>
 bif !t7.1 then
  some ((-1:Int),c0,false,())
 else
  bif c0.2.1==c0.1 then
   some ((-1:Int),(c0.1,(c0.2.1,(c0.1,c0.2.2.2))),false,())
  else
   some (c0.2.1,(c0.1,(IntKind.i64.wrap (c0.2.1+1),c0.2.2)),true,())
abbrev Qh0:List PE:=[.val 2 (.bool) (.u false),.val 7 (.int .i64) (.u false)]
def Zk3(uni2_1:Bool)(id7:Int):Option (Int×Unit):=
 bif uni2_1 then
  some (IntKind.i64.wrap (id7+2),())
 else
  some (id7,())
def Zvq(index0:Int)(server1:Bool)(uni2:Bool):Option (Int×Unit):=
 (Zu index0 (0:Int) (1152921504606846975:Int)).bind fun t9=>
 bif !t9.1 then
  some ((-1:Int),())
 else
  Zf (0≤(2:Int))<|
  let t12:Int:=IntKind.i64.wrap (index0*2^ (min (2:Int).toNat IntKind.i64.bits))
  bif server1 then
   Zk3 uni2 (IntKind.i64.wrap (t12+1))
  else
   Zk3 uni2 t12
def Vy:Option (Xl×Unit):=
 some (((3:Int),(false,())),())
def Zqp:Option (Qh×Unit):=
 some (((0:Int),(((0:Int),(([]:List Zy),())),((-1:Int),((0:Int),((0:Int),()))))),())
def Va(id0:Int):Option (Bool×Unit):=
 (Qd id0).bind fun t4=>
 some (t4.1&& ((bits .and .i64 id0 (2:Int))==2),())
def Zi5(id0:Int):Option (Bool×Unit):=
 (Qd id0).bind fun t4=>
 some (t4.1&& ((bits .and .i64 id0 (1:Int))==1),())
def Zd5(server0:Bool)(id1:Int):Option (Bool×Unit):=
 (Qd id1).bind fun t6=>
 (bif t6.1 then(Zi5 id1)else some (false,())).bind fun t9=>
 some (t6.1&& (t9.1==server0),())
def Zdu(server0:Bool)(id1:Int):Option (Bool×Unit):=
 (Qd id1).bind fun t6=>
 (bif t6.1 then(Va id1)else some (false,())).bind fun t9=>
 (bif(!t9.1)then some (false,())else(bif t6.1 then(Zd5 server0 id1)else some (false,()))).bind fun t14=>
 some (t6.1&& ((!t9.1)||t14.1),())
def Jr(server0:Bool)(id1:Int):Option (Bool×Unit):=
 (Qd id1).bind fun t6=>
 (bif t6.1 then(Va id1)else some (false,())).bind fun t9=>
 (bif(!t9.1)then some (false,())else(bif t6.1 then(Zd5 server0 id1)else some (false,()))).bind fun t14=>
 some (t6.1&& ((!t9.1)|| (!t14.1)),())
def Ztb(size0:Int):Option (Ko×Bool×Unit):=
 (Za8 size0).bind fun t5=>
 bif !t5.1 then
  some (Qxf,false,())
 else
  Zf (0≤size0∧size0≤size0∧size0≤Qv)<|
  some ((size0,((0:Int),((0:Int),(List.replicate size0.toNat (0:Int),())))),true,())
def Zha(size0:Int):Option (Zq×Bool×Unit):=
 (Ztb size0).bind fun t8=>
 bif !t8.2.1 then
  some (Zc5,false,())
 else
  some (((0:Int),(t8.1,(([]:List Zd),(([]:List Zd),(([]:List Zd),((-1:Int),Qy5)))))),true,())
def Zbn(server0:Bool)(id1:Int)(own2:Zo0)(peer3:Zo0):Option (Zn×Bool×Unit):=
 (Qd id1).bind fun t18=>
 (bif(!t18.1)then some (false,())else(Zbk own2)).bind fun t22=>
 (bif((!t18.1)|| (!t22.1))then some (false,())else(Zbk peer3)).bind fun t27=>
 bif((!t18.1)|| (!t22.1))|| (!t27.1)then
  some (Zz,false,())
 else
  Option.bind Vy fun t32=>
  Option.bind Zqp fun t33=>
  (Zdu server0 id1).bind fun t36=>
  (Jr server0 id1).bind fun t39=>
  (Zha own2.1).bind fun t44=>
  (Zg9 peer3.2.1).bind fun t52=>
  (Zhb own2.2.1 own2.2.2.1).bind fun t62=>
  some ((id1,(t44.1,(t52.1,(t33.1,(t62.1,(t32.1,(t36.1,(t39.1,(false,(false,(false,(false,((0:Int),(false,())))))))))))))),true,())
abbrev Z2z:List PE:=[.val 1 (.bool) (.u false),.box 2 37 (Zl) (.u false),.box 5 37 (Zl) (.u true),.box 7 37 (Zl) (.p (.u false) (.p (.u false) (.p (.u false) (.p (.u true) (.p (.u false) (.p (.u false) (.p (.u false) (.p (.u false) (.u true))))))))),.val 9 (.int .i64) (.u false),.val 11 (.bool) (.u false)]
def Zee(uni1_2:Bool)(c2_1:Zg)(t5_1:Zg)(x7_1:Zg)(index9:Int)(is11:Bool):Option (Int×Zg×Bool×Unit):=
 bif !is11 then
  some ((-1:Int),x7_1,false,())
 else
  (Zvq index9 c2_1.1 uni1_2).bind fun t50=>
  (Zbn c2_1.1 t50.1 c2_1.2.1 c2_1.2.2.1).bind fun t59=>
  (Xp x7_1.2.2.2.1 t59.1).bind fun t65=>
  some (t50.1,(x7_1.1,(x7_1.2.1,(x7_1.2.2.1,(t65.1,x7_1.2.2.2.2)))),true,())
abbrev Z2y:List PE:=[.val 1 (.bool) (.u false),.box 2 37 (Zl) (.u false),.box 5 37 (Zl) (.u true),.box 7 37 (Zl) (.u true),.box 8 32 (Zkf) (.u false)]
def Zed(uni1_1:Bool)(c2:Zg)(t5:Zg)(x7:Zg)(n8:Zjp):Option (Int×Zg×Bool×Unit):=
 (Zre n8).bind fun t34=>
 bif uni1_1 then
  Zee uni1_1 c2 t5 (x7.1,(x7.2.1,(x7.2.2.1,(x7.2.2.2.1,(x7.2.2.2.2.1,(x7.2.2.2.2.2.1,(x7.2.2.2.2.2.2.1,(t34.2.1,x7.2.2.2.2.2.2.2.2)))))))) t34.1 t34.2.2.1
 else
  Zee uni1_1 c2 t5 (x7.1,(x7.2.1,(x7.2.2.1,(x7.2.2.2.1,(x7.2.2.2.2.1,(x7.2.2.2.2.2.1,(t34.2.1,x7.2.2.2.2.2.2.2))))))) t34.1 t34.2.2.1
def Znt(c0:Zg)(uni1:Bool):Option (Int×Zg×Bool×Unit):=
 (Zw c0).bind fun t16=>
 (Yr c0).bind fun t18=>
 bif(!t18.1)|| (decide ((c0.2.2.2.1.length:Int)≥(24:Int)))then
  some ((-1:Int),t16.1,false,())
 else
  bif uni1 then
   Zed uni1 c0 Wj t16.1 c0.2.2.2.2.2.2.2.1
  else
   Zed uni1 c0 Wj t16.1 c0.2.2.2.2.2.2.1
def Z21(r0:Ko):Option (Int×Unit):=
 (Zbl r0).bind fun t4=>
 bif !t4.1 then
  some ((0:Int),())
 else
  some (min (IntKind.i64.wrap (r0.1- (IntKind.i64.wrap (r0.2.2.1-r0.2.1)))) (IntKind.i64.wrap ((4611686018427387903:Int)-r0.2.2.1)),())
abbrev Z5q:List PE:=[.val 1 (.str) (.u false),.box 2 87 (Zce) (.u false),.box 4 87 (Zce) (.u true),.box 6 87 (Zce) (.u true),.val 7 (.int .i64) (.u false),.val 8 (.int .i64) (.u false)]
def Zcz(data1_1:List UInt8)(r2:Ko)(t4:Ko)(x6:Ko)(n7:Int)(i8:Int):Nat:=(n7-i8).toNat+1
def Wf:Nat→List UInt8→Ko→Ko→Ko→Int→Int→Option (Ko×Int×Unit)
 |0,_,_,_,_,_,_=>none
 |N+1,data1_1,r2,t4,x6,n7,i8=>
  bif decide (i8<n7)then
   Zf (r2.1≠0)<|
   let t29:Int:=Int.tmod (IntKind.i64.wrap (r2.2.2.1+i8)) r2.1
   Zf (0≤i8∧i8<data1_1.length)<|
   Zf (0≤t29∧t29<x6.2.2.2.1.length)<|
   Wf N data1_1 r2 t4 (x6.1,(x6.2.1,(x6.2.2.1,(x6.2.2.2.1.set t29.toNat (IntKind.i64.wrap ((data1_1.getD i8.toNat 0).toNat:Int)),x6.2.2.2.2)))) n7 (IntKind.i64.wrap (i8+1))
  else
   some ((x6.1,(x6.2.1,(IntKind.i64.wrap (r2.2.2.1+n7),x6.2.2.2))),n7,())
def Zpy(r0:Ko)(data1:List UInt8):Option (Ko×Int×Unit):=
 (Zou r0).bind fun t10=>
 (Z21 r0).bind fun t12=>
 Wf (Zcz data1 r0 Qxf t10.1 (min t12.1 (data1.length:Int)) (0:Int)) data1 r0 Qxf t10.1 (min t12.1 (data1.length:Int)) (0:Int)
abbrev Z0p:List PE:=[.box 4 90 (Z8) (.u true),.box 6 90 (Z8) (.p (.u false) (.u true)),.box 7 87 (Zce) (.u true),.val 8 (.int .i64) (.u false)]
def Zcs(t4:Zq)(x6:Zq)(r7:Ko)(n8:Int):Option (Zq×Int×Unit):=
 some ((x6.1,(r7,x6.2.2)),n8,())
def Zax(s0:Zq)(data1:List UInt8):Option (Zq×Int×Unit):=
 (Zbq s0).bind fun t10=>
 (Yd s0).bind fun t12=>
 bif((!t12.1)|| (decide (s0.1>(1:Int))))|| (s0.2.2.2.2.2.1 !=(-1:Int))then
  some (t10.1,(0:Int),())
 else
  (Zpy s0.2.1 data1).bind fun t29=>
  bif decide (t29.2.1>(0:Int))then
   (Jb s0.2.2.1 (s0.2.1.2.2.1,(t29.1.2.2.1,()))).bind fun t42=>
   Zcs Zc5 (t10.1.1,(t10.1.2.1,(t42.1,t10.1.2.2.2))) t29.1 t29.2.1
  else
   Zcs Zc5 t10.1 t29.1 t29.2.1
def Zdl(c0:Zg)(id1:Int)(data2:List UInt8):Option (Int×Zg×Unit):=
 (Zw c0).bind fun t14=>
 (Qu c0 id1).bind fun t18=>
 (Yr c0).bind fun t22=>
 bif((!t22.1)|| (!t18.2.1))|| (!t18.1.2.2.2.2.2.2.1)then
  some ((0:Int),t14.1,())
 else
  (Zax t18.1.2.1 data2).bind fun t38=>
  (Xp t14.1.2.2.2.1 (t18.1.1,(t38.1,t18.1.2.2))).bind fun t46=>
  some (t38.2.1,(t14.1.1,(t14.1.2.1,(t14.1.2.2.1,(t46.1,t14.1.2.2.2.2)))),())
def Zly(s0:Zq):Option (Zq×Bool×Unit):=
 (Zbq s0).bind fun t6=>
 (Yd s0).bind fun t8=>
 bif((!t8.1)|| (decide (s0.1>(1:Int))))|| (s0.2.2.2.2.2.1 !=(-1:Int))then
  some (t6.1,false,())
 else
  some ((t6.1.1,(t6.1.2.1,(t6.1.2.2.1,(t6.1.2.2.2.1,(t6.1.2.2.2.2.1,(s0.2.1.2.2.1,((1:Int),t6.1.2.2.2.2.2.2.2))))))),true,())
def Zkb(c0:Zg)(id1:Int):Option (Zg×Bool×Unit):=
 (Zw c0).bind fun t12=>
 (Qu c0 id1).bind fun t16=>
 (Yr c0).bind fun t20=>
 bif((!t20.1)|| (!t16.2.1))|| (!t16.1.2.2.2.2.2.2.1)then
  some (t12.1,false,())
 else
  (Zly t16.1.2.1).bind fun t35=>
  bif !t35.2.1 then
   some (t12.1,false,())
  else
   (Xp t12.1.2.2.2.1 (t16.1.1,(t35.1,t16.1.2.2))).bind fun t46=>
   some ((t12.1.1,(t12.1.2.1,(t12.1.2.2.1,(t46.1,t12.1.2.2.2.2)))),true,())
def Zpx(b0:Z4)(most1:Int):Option (List UInt8×Z4×Unit):=
 (Wv b0).bind fun t10=>
 (Zh8 b0).bind fun t15=>
 bif(min t10.1 (max most1 (0:Int)))==0 then
  some (([]:List UInt8),t15.1,())
 else
  Zf (0≤(0:Int)∧(0:Int)<t15.1.2.1.length)<|
  let t27:Int:=IntKind.i64.wrap (t15.1.1+ (min t10.1 (max most1 (0:Int))))
  bif(min t10.1 (max most1 (0:Int)))==((t15.1.2.1.getD (0:Int).toNat Qp).2.1.length:Int)then
   Zf (0≤(1:Int)∧(1:Int)≤(t15.1.2.1.length:Int)∧(t15.1.2.1.length:Int)≤t15.1.2.1.length)<|
   (Zh8 (t27,((t15.1.2.1.drop (1:Int).toNat).take ((t15.1.2.1.length:Int).toNat- (1:Int).toNat),t15.1.2.2))).bind fun t39=>
   some ((t15.1.2.1.getD (0:Int).toNat Qp).2.1,t39.1,())
  else
   Zf (0≤(min t10.1 (max most1 (0:Int)))∧(min t10.1 (max most1 (0:Int)))≤((t15.1.2.1.getD (0:Int).toNat Qp).2.1.length:Int)∧((t15.1.2.1.getD (0:Int).toNat Qp).2.1.length:Int)≤(t15.1.2.1.getD (0:Int).toNat Qp).2.1.length)<|
   Zf (0≤(0:Int)∧(0:Int)<t15.1.2.1.length)<|
   Zf (0≤(0:Int)∧(0:Int)≤(min t10.1 (max most1 (0:Int)))∧(min t10.1 (max most1 (0:Int)))≤(t15.1.2.1.getD (0:Int).toNat Qp).2.1.length)<|
   some (((t15.1.2.1.getD (0:Int).toNat Qp).2.1.drop (0:Int).toNat).take ((min t10.1 (max most1 (0:Int))).toNat- (0:Int).toNat),(t27,(t15.1.2.1.set (0:Int).toNat (t27,(((t15.1.2.1.getD (0:Int).toNat Qp).2.1.drop (min t10.1 (max most1 (0:Int))).toNat).take (((t15.1.2.1.getD (0:Int).toNat Qp).2.1.length:Int).toNat- (min t10.1 (max most1 (0:Int))).toNat),())),t15.1.2.2)),())
abbrev Zyz:List PE:=[.box 5 95 (Q5) (.u true),.box 6 95 (Q5) (.u false),.val 7 (.str) (.u false)]
def Zfr(t5:Qh)(x6:Qh)(s7:List UInt8):Option ((List UInt8×Qh×Unit)×(Unit)):=
 some ((s7,(x6,())),())
def Zkd(r0:Qh)(most1:Int):Option ((List UInt8×Qh×Unit)×(Unit)):=
 (Zlm r0).bind fun t10=>
 (Yh r0).bind fun t12=>
 bif !t12.1 then
  some ((([]:List UInt8),(t10.1,())),())
 else
  bif r0.1==4 then
   some ((([]:List UInt8),(((5:Int),t10.1.2),())),())
  else
   (Zpx r0.2.1 most1).bind fun t24=>
   bif(r0.1==2)&& (t24.2.1.1==r0.2.2.1)then
    Zfr Z3u ((3:Int),(t24.2.1,t10.1.2.2)) t24.1
   else
    Zfr Z3u (t10.1.1,(t24.2.1,t10.1.2.2)) t24.1
def Zk7(w0:Jq)(n1:Int):Option (Jq×Bool×Unit):=
 (J5 w0).bind fun t7=>
 bif((!t7.1)|| (decide (n1< (0:Int))))|| (decide (n1>(IntKind.i64.wrap (w0.2.2.2.1-w0.2.2.2.2.1))))then
  some (w0,false,())
 else
  some ((w0.1,(w0.2.1,(w0.2.2.1,(w0.2.2.2.1,(IntKind.i64.wrap (w0.2.2.2.2.1+n1),w0.2.2.2.2.2))))),true,())
def Zp0(x0:Zg)(s1:Zn)(to2:Int):Option ((Unit)×(Zg×Zn×Unit)):=
 let t18:Int:=max (0:Int) (IntKind.i64.wrap (to2-s1.2.2.2.2.1.2.2.2.2.1))
 (Zk7 s1.2.2.2.2.1 t18).bind fun t25=>
 (Zk7 x0.2.2.2.2.2.1 t18).bind fun t38=>
 some ((),((x0.1,(x0.2.1,(x0.2.2.1,(x0.2.2.2.1,(x0.2.2.2.2.1,(t38.1,x0.2.2.2.2.2.2)))))),((s1.1,(s1.2.1,(s1.2.2.1,(s1.2.2.2.1,(t25.1,s1.2.2.2.2.2))))),())))
def Znq(s0:Zn):Option (Bool×Unit):=
 some (((!s0.2.2.2.2.2.2.1)|| (s0.2.1.1==3))|| (s0.2.1.1==5),())
def Zi4(r0:Qh):Option (Bool×Unit):=
 (Yh r0).bind fun t4=>
 some (t4.1&& ((r0.1==3)|| (r0.1==5)),())
def Znp(s0:Zn):Option (Bool×Unit):=
 (bif(!s0.2.2.2.2.2.2.2.1)then some (false,())else(Zi4 s0.2.2.2.1)).bind fun t9=>
 some ((!s0.2.2.2.2.2.2.2.1)||t9.1,())
def Zk2(s0:Zn):Option (Bool×Unit):=
 (J4 s0).bind fun t4=>
 (bif t4.1 then(Znq s0)else some (false,())).bind fun t7=>
 (bif(t4.1&&t7.1)then(Znp s0)else some (false,())).bind fun t11=>
 some ((t4.1&&t7.1)&&t11.1,())
def Zm1(a0:Kw):Option (Kw×Bool×Unit):=
 (We a0).bind fun t5=>
 bif(!t5.1)|| (a0.2.2.2.1==a0.2.2.1)then
  some (a0,false,())
 else
  some ((a0.1,(a0.2.1,(a0.2.2.1,(IntKind.i64.wrap (a0.2.2.2.1+1),a0.2.2.2.2)))),true,())
def Ztd(x0:Zg)(s1:Zn):Option ((Unit)×(Zg×Zn×Unit)):=
 (bif s1.2.2.2.2.2.2.2.2.2.2.2.2.2.1 then some (false,())else(Zd5 x0.1 s1.1)).bind fun t21=>
 (bif(s1.2.2.2.2.2.2.2.2.2.2.2.2.2.1||t21.1)then some (false,())else(Zk2 s1)).bind fun t27=>
 bif(s1.2.2.2.2.2.2.2.2.2.2.2.2.2.1||t21.1)|| (!t27.1)then
  some ((),(x0,(s1,())))
 else
  (Va s1.1).bind fun t37=>
  bif t37.1 then
   (Zm1 x0.2.2.2.2.2.2.2.2.2.1).bind fun t43=>
   some ((),((x0.1,(x0.2.1,(x0.2.2.1,(x0.2.2.2.1,(x0.2.2.2.2.1,(x0.2.2.2.2.2.1,(x0.2.2.2.2.2.2.1,(x0.2.2.2.2.2.2.2.1,(x0.2.2.2.2.2.2.2.2.1,(t43.1,x0.2.2.2.2.2.2.2.2.2.2)))))))))),((s1.1,(s1.2.1,(s1.2.2.1,(s1.2.2.2.1,(s1.2.2.2.2.1,(s1.2.2.2.2.2.1,(s1.2.2.2.2.2.2.1,(s1.2.2.2.2.2.2.2.1,(s1.2.2.2.2.2.2.2.2.1,(s1.2.2.2.2.2.2.2.2.2.1,(s1.2.2.2.2.2.2.2.2.2.2.1,(s1.2.2.2.2.2.2.2.2.2.2.2.1,(s1.2.2.2.2.2.2.2.2.2.2.2.2.1,(true,s1.2.2.2.2.2.2.2.2.2.2.2.2.2.2)))))))))))))),())))
  else
   (Zm1 x0.2.2.2.2.2.2.2.2.1).bind fun t55=>
   some ((),((x0.1,(x0.2.1,(x0.2.2.1,(x0.2.2.2.1,(x0.2.2.2.2.1,(x0.2.2.2.2.2.1,(x0.2.2.2.2.2.2.1,(x0.2.2.2.2.2.2.2.1,(t55.1,x0.2.2.2.2.2.2.2.2.2))))))))),((s1.1,(s1.2.1,(s1.2.2.1,(s1.2.2.2.1,(s1.2.2.2.2.1,(s1.2.2.2.2.2.1,(s1.2.2.2.2.2.2.1,(s1.2.2.2.2.2.2.2.1,(s1.2.2.2.2.2.2.2.2.1,(s1.2.2.2.2.2.2.2.2.2.1,(s1.2.2.2.2.2.2.2.2.2.2.1,(s1.2.2.2.2.2.2.2.2.2.2.2.1,(s1.2.2.2.2.2.2.2.2.2.2.2.2.1,(true,s1.2.2.2.2.2.2.2.2.2.2.2.2.2.2)))))))))))))),())))
def Zc1(x0:Zg)(s1:Zn):Option ((Unit)×(Zg×Unit)):=
 (Ztd x0 s1).bind fun t5=>
 (Xp t5.2.1.2.2.2.1 t5.2.2.1).bind fun t12=>
 some ((),((t5.2.1.1,(t5.2.1.2.1,(t5.2.1.2.2.1,(t12.1,t5.2.1.2.2.2.2)))),()))
abbrev Z20:List PE:=[.box 8 37 (Zl) (.u true),.box 9 37 (Zl) (.p (.u true) (.p (.p (.u true) (.p (.u true) (.p (.u true) (.p (.u true) (.p (.u true) (.p (.u true) (.p (.u true) (.p (.u true) (.u true))))))))) (.p (.p (.u true) (.p (.u true) (.p (.u true) (.p (.u true) (.p (.u true) (.p (.u true) (.p (.u true) (.p (.u true) (.u true))))))))) (.p (.u false) (.p (.p (.u true) (.p (.u true) (.p (.u true) (.p (.u true) (.u true))))) (.p (.p (.u true) (.p (.u true) (.p (.u true) (.p (.u true) (.p (.u true) (.p (.u true) (.u true))))))) (.p (.p (.u true) (.p (.u true) (.p (.u true) (.u true)))) (.p (.p (.u true) (.p (.u true) (.p (.u true) (.u true)))) (.p (.p (.u true) (.p (.u true) (.p (.u true) (.p (.u true) (.u true))))) (.p (.p (.u true) (.p (.u true) (.p (.u true) (.p (.u true) (.u true))))) (.p (.u true) (.p (.u true) (.p (.u true) (.p (.u true) (.p (.u true) (.p (.u false) (.p (.u true) (.p (.u true) (.u true))))))))))))))))))),.box 10 99 (Z2) (.u false),.val 12 (.str) (.u false),.box 13 95 (Q5) (.u false)]
def Vl(t8:Zg)(x9:Zg)(s10:Zn)(data12:List UInt8)(r13:Qh):Option ((List UInt8×Bool×Zg×Unit)×(Unit)):=
 (Zc1 x9 s10).bind fun t52=>
 some ((data12,((r13.1==3)|| (r13.1==5),(t52.2.1,()))),())
def Zcc(c0:Zg)(id1:Int)(most2:Int):Option ((List UInt8×Bool×Zg×Unit)×(Unit)):=
 (Zw c0).bind fun t15=>
 (Qu c0 id1).bind fun t19=>
 (Yr c0).bind fun t23=>
 bif((!t23.1)|| (!t19.2.1))|| (!t19.1.2.2.2.2.2.2.2.1)then
  some ((([]:List UInt8),(false,(t15.1,()))),())
 else
  (Zkd t19.1.2.2.2.1 most2).bind fun t39=>
  bif decide (t39.1.2.1.1< (4:Int))then
   (Zp0 t15.1 (t19.1.1,(t19.1.2.1,(t19.1.2.2.1,(t39.1.2.1,t19.1.2.2.2.2)))) t39.1.2.1.2.1.1).bind fun t50=>
   Vl Wj t50.2.1 t50.2.2.1 t39.1.1 t39.1.2.1
  else
   Vl Wj t15.1 (t19.1.1,(t19.1.2.1,(t19.1.2.2.1,(t39.1.2.1,t19.1.2.2.2.2)))) t39.1.1 t39.1.2.1
abbrev Z49:List PE:=[.val 0 (.str) (.u false),.val 3 (.slice 5 (.int .u8)) (.u true),.val 4 (.int .i64) (.u false)]
def Zig(s0_1:List UInt8)(out3:List Int)(i4:Int):Nat:=((s0_1.length:Int)-i4).toNat+1
def Zfk:Nat→List UInt8→List Int→Int→Option (List UInt8×Unit)
 |0,_,_,_=>none
 |N+1,s0_1,out3,i4=>
  bif decide (i4< (s0_1.length:Int))then
   Zf (0≤i4∧i4<s0_1.length)<|
   Zf ((16:Int)≠0)<|
   Zf (0≤i4∧i4<s0_1.length)<|
   Zf ((16:Int)≠0)<|
   (Zfw (IntKind.i64.wrap (Int.tdiv (IntKind.i64.wrap ((s0_1.getD i4.toNat 0).toNat:Int)) (16:Int)))).bind fun t18=>
   (Zfw (Int.tmod (IntKind.i64.wrap ((s0_1.getD i4.toNat 0).toNat:Int)) (16:Int))).bind fun t24=>
   Zf (out3.length+ ([t18.1,t24.1]).length≤Qv)<|
   Zfk N s0_1 (out3++ ([t18.1,t24.1])) (IntKind.i64.wrap (i4+1))
  else
   some (Zaz out3,())
def Zbh(s0:List UInt8):Option (List UInt8×Unit):=
 Zfk (Zig s0 ([]:List Int) (0:Int)) s0 ([]:List Int) (0:Int)
abbrev Z0o:List PE:=[.val 1 (.int .i64) (.u false),.box 2 90 (Z8) (.u false),.box 4 90 (Z8) (.u true),.box 6 87 (Zce) (.p (.u false) (.p (.u false) (.p (.u false) (.p (.u true) (.u false)))))]
def Zmp(code1_1:Int)(s2:Zq)(t4:Zq)(r6:Ko):Option (Zq×Bool×Unit):=
 some (((4:Int),(r6,(([]:List Zd),(([]:List Zd),(([]:List Zd),(s2.2.2.2.2.2.2.2.1,((0:Int),(s2.2.2.2.2.2.2.2.1,(code1_1,()))))))))),true,())
def Zhk(s0:Zq)(code1:Int):Option (Zq×Bool×Unit):=
 (Yd s0).bind fun t8=>
 let t14:Bool:=(!t8.1)|| (decide (s0.1>(2:Int)))
 (bif t14 then some (false,())else(Qd code1)).bind fun t17=>
 bif t14|| (!t17.1)then
  (Zbq s0).bind fun t21=>
  some (t21.1,false,())
 else
  Z5 (
   Zf (0≤s0.2.1.1∧s0.2.1.1≤s0.2.1.1∧s0.2.1.1≤Qv)<|
   Ql 1 (
    Zmp code1 s0 Zc5 (s0.2.1.1,(s0.2.2.2.2.2.2.2.1,(s0.2.2.2.2.2.2.2.1,(List.replicate s0.2.1.1.toNat (0:Int),()))))
   )
  ) (
   Zf (0≤s0.2.1.1∧s0.2.1.1≤s0.2.1.1∧s0.2.1.1≤Qv)<|
   Zmp code1 s0 Zc5 (s0.2.1.1,(s0.2.2.2.2.2.2.2.1,(s0.2.2.2.2.2.2.2.1,(List.replicate s0.2.1.1.toNat (0:Int),()))))
  )
def Zl5(c0:Zg)(id1:Int)(code2:Int):Option ((Zg×Bool×Unit)×(Unit)):=
 (Zw c0).bind fun t14=>
 (Qu c0 id1).bind fun t18=>
 (Yr c0).bind fun t22=>
 bif((!t22.1)|| (!t18.2.1))|| (!t18.1.2.2.2.2.2.2.1)then
  some ((t14.1,(false,())),())
 else
  (Zhk t18.1.2.1 code2).bind fun t38=>
  bif !t38.2.1 then
   some ((t14.1,(false,())),())
  else
   Option.bind (Zc1 t14.1 (t18.1.1,(t38.1,(t18.1.2.2.1,(t18.1.2.2.2.1,(t18.1.2.2.2.2.1,(t18.1.2.2.2.2.2.1,(t18.1.2.2.2.2.2.2.1,(t18.1.2.2.2.2.2.2.2.1,(true,t18.1.2.2.2.2.2.2.2.2.2)))))))))) fun t48=>
   some ((t48.2.1,(true,())),())
def Znv(c0:Zg)(id1:Int)(code2:Int):Option (Zg×Bool×Unit):=
 (Zw c0).bind fun t12=>
 (Qu c0 id1).bind fun t16=>
 (Yr c0).bind fun t20=>
 let t40:Bool:=((((!t20.1)|| (!t16.2.1))|| (!t16.1.2.2.2.2.2.2.2.1))||t16.1.2.2.2.2.2.2.2.2.2.2.2.1)|| (decide (t16.1.2.2.2.1.1>(1:Int)))
 (bif t40 then some (false,())else(Qd code2)).bind fun t43=>
 bif t40|| (!t43.1)then
  some (t12.1,false,())
 else
  Option.bind (Xp t12.1.2.2.2.1 (t16.1.1,(t16.1.2.1,(t16.1.2.2.1,(t16.1.2.2.2.1,(t16.1.2.2.2.2.1,(t16.1.2.2.2.2.2.1,(t16.1.2.2.2.2.2.2.1,(t16.1.2.2.2.2.2.2.2.1,(t16.1.2.2.2.2.2.2.2.2.1,(true,(t16.1.2.2.2.2.2.2.2.2.2.2.1,(true,(code2,t16.1.2.2.2.2.2.2.2.2.2.2.2.2.2)))))))))))))) fun t54=>
  some ((t12.1.1,(t12.1.2.1,(t12.1.2.2.1,(t54.1,t12.1.2.2.2.2)))),true,())
abbrev Qh1:List PE:=[.val 0 (.str) (.u false),.val 1 (.int .u8) (.u false),.val 5 (.slice 9 (.str)) (.u true),.val 6 (.str) (.u false),.val 7 (.int .i64) (.u false)]
def Zei(K1: (List UInt8×Int×List (List UInt8)×List UInt8×Int×Unit)→Option (List (List UInt8)×Unit))(s0_2:List UInt8)(by1_2:Int)(out5_1:List (List UInt8))(part6_2:List UInt8)(i7_1:Int):Option (List (List UInt8)×Unit):=
 K1 (s0_2,by1_2,out5_1,part6_2,IntKind.i64.wrap (i7_1+1),())
abbrev Qh2:List PE:=[.val 0 (.str) (.u false),.val 1 (.int .u8) (.u false),.val 5 (.slice 9 (.str)) (.u true),.val 6 (.str) (.u false),.val 7 (.int .i64) (.u false)]
def Zgh(s0_1:List UInt8)(by1_1:Int)(out5:List (List UInt8))(part6_1:List UInt8)(i7:Int):Nat:=((s0_1.length:Int)-i7).toNat+1
def Wg:Nat→List UInt8→Int→List (List UInt8)→List UInt8→Int→Option (List (List UInt8)×Unit)
 |0,_,_,_,_,_=>none
 |N+1,s0_1,by1_1,out5,part6_1,i7=>
  bif decide (i7< (s0_1.length:Int))then
   Zf (0≤i7∧i7<s0_1.length)<|
   bif((s0_1.getD i7.toNat 0).toNat:Int)==by1_1 then
    Zf (out5.length+ ([part6_1]).length≤Qv)<|
    Zei (fun v=>Wg N v.1 v.2.1 v.2.2.1 v.2.2.2.1 v.2.2.2.2.1) s0_1 by1_1 (out5++ ([part6_1])) ([]:List UInt8) i7
   else
    Zf (0≤i7∧i7≤(IntKind.i64.wrap (i7+1))∧(IntKind.i64.wrap (i7+1))≤s0_1.length)<|
    let t29:List UInt8:=(s0_1.drop i7.toNat).take ((IntKind.i64.wrap (i7+1)).toNat-i7.toNat)
    Zf (part6_1.length+t29.length≤W9)<|
    Zei (fun v=>Wg N v.1 v.2.1 v.2.2.1 v.2.2.2.1 v.2.2.2.2.1) s0_1 by1_1 out5 (part6_1++t29) i7
  else
   Zf (out5.length+ ([part6_1]).length≤Qv)<|
   some (out5++ ([part6_1]),())
def Zos(s0:List UInt8)(by1:Int):Option (List (List UInt8)×Unit):=
 Wg (Zgh s0 by1 ([]:List (List UInt8)) ([]:List UInt8) (0:Int)) s0 by1 ([]:List (List UInt8)) ([]:List UInt8) (0:Int)
abbrev Qdp:List PE:=[.val 0 (.str) (.u false)]
def Zlb(s0_2:List UInt8):Nat:=((s0_2.length:Int)- (0:Int)).toNat+1
def Zja:Nat→List UInt8→Option (List UInt8×Unit)
 |0,_=>none
 |N+1,s0_2=>
  let t20:Int:=IntKind.i64.wrap ((s0_2.length:Int)- (1:Int))
  Zf (((decide ((s0_2.length:Int)>(0:Int)))=true→(0≤t20∧t20<s0_2.length)))<|
  bif(decide ((s0_2.length:Int)>(0:Int)))&& (((s0_2.getD t20.toNat 0).toNat:Int)==(32:Int))then
   let t27:Int:=IntKind.i64.wrap ((s0_2.length:Int)- (1:Int))
   Zf (0≤(0:Int)∧(0:Int)≤t27∧t27≤s0_2.length)<|
   Zja N ((s0_2.drop (0:Int).toNat).take (t27.toNat- (0:Int).toNat))
  else
   some (s0_2,())
abbrev Qdo:List PE:=[.val 0 (.str) (.u false)]
def Zla(s0_1:List UInt8):Nat:=((s0_1.length:Int)- (0:Int)).toNat+1
def Zi9:Nat→List UInt8→Option (List UInt8×Unit)
 |0,_=>none
 |N+1,s0_1=>
  Zf (((decide ((s0_1.length:Int)>(0:Int)))=true→(0≤(0:Int)∧(0:Int)<s0_1.length)))<|
  bif(decide ((s0_1.length:Int)>(0:Int)))&& (((s0_1.getD (0:Int).toNat 0).toNat:Int)==(32:Int))then
   Zf (0≤(1:Int)∧(1:Int)≤(s0_1.length:Int)∧(s0_1.length:Int)≤s0_1.length)<|
   Zi9 N ((s0_1.drop (1:Int).toNat).take ((s0_1.length:Int).toNat- (1:Int).toNat))
  else
   Zja (Zlb s0_1) s0_1
def Ztc(s0:List UInt8):Option (List UInt8×Unit):=
 Zi9 (Zla s0) s0
abbrev Zxd:List PE:=[.box 2 97 (Ja) (.u false),.box 4 97 (Ja) (.u false),.val 5 (.slice 9 (.str)) (.u true),.val 6 (.int .i64) (.u false)]
def Km(K1: (Xl×Xl×List (List UInt8)×Int×Unit)→Option (Xl×Unit))(base2_2:Xl)(t4_2:Xl)(l5_1:List (List UInt8))(i6_1:Int):Option (Xl×Unit):=
 K1 (base2_2,t4_2,l5_1,IntKind.i64.wrap (i6_1+1),())
abbrev Zxe:List PE:=[.box 2 97 (Ja) (.u false),.box 4 97 (Ja) (.u false),.val 5 (.slice 9 (.str)) (.u true),.val 6 (.int .i64) (.u false)]
def Zd9(base2_1:Xl)(t4_1:Xl)(l5:List (List UInt8))(i6:Int):Nat:=((l5.length:Int)-i6).toNat+1
def Ya:Nat→Xl→Xl→List (List UInt8)→Int→Option (Xl×Unit)
 |0,_,_,_,_=>none
 |N+1,base2_1,t4_1,l5,i6=>
  bif decide (i6< (l5.length:Int))then
   Zf (0≤i6∧i6<l5.length)<|
   (Ztc (l5.getD i6.toNat ([]:List UInt8))).bind fun t24=>
   bif(t24.1==([105]:List UInt8))|| (t24.1==([105,61,63,49]:List UInt8))then
    Km (fun v=>Ya N v.1 v.2.1 v.2.2.1 v.2.2.2.1) (base2_1.1,(true,base2_1.2.2)) t4_1 l5 i6
   else
    bif t24.1==([105,61,63,48]:List UInt8)then
     Km (fun v=>Ya N v.1 v.2.1 v.2.2.1 v.2.2.2.1) (base2_1.1,(false,base2_1.2.2)) t4_1 l5 i6
    else
     Zf ((((t24.1.length:Int)==(3:Int))=true→(0≤(0:Int)∧(0:Int)≤(2:Int)∧(2:Int)≤t24.1.length)))<|
     let t45:Bool:=((t24.1.length:Int)==(3:Int))&& (((t24.1.drop (0:Int).toNat).take ((2:Int).toNat- (0:Int).toNat))==([117,61]:List UInt8))
     Zf ((t45=true→(0≤(2:Int)∧(2:Int)<t24.1.length)))<|
     let t50:Bool:=t45&& (decide (((t24.1.getD (2:Int).toNat 0).toNat:Int)≥(48:Int)))
     Zf ((t50=true→(0≤(2:Int)∧(2:Int)<t24.1.length)))<|
     bif t50&& (decide (((t24.1.getD (2:Int).toNat 0).toNat:Int)≤(55:Int)))then
      Zf (0≤(2:Int)∧(2:Int)<t24.1.length)<|
      Km (fun v=>Ya N v.1 v.2.1 v.2.2.1 v.2.2.2.1) (IntKind.i64.wrap (IntKind.u8.wrap (((t24.1.getD (2:Int).toNat 0).toNat:Int)- (48:Int))),base2_1.2) t4_1 l5 i6
     else
      Km (fun v=>Ya N v.1 v.2.1 v.2.2.1 v.2.2.2.1) base2_1 t4_1 l5 i6
  else
   some (base2_1,())
abbrev Zxc:List PE:=[.val 1 (.str) (.u false),.box 2 97 (Ja) (.u false),.box 4 97 (Ja) (.u false)]
def Zan(s1_1:List UInt8)(base2:Xl)(t4:Xl):Option (Xl×Unit):=
 (Zos s1_1 (44:Int)).bind fun t13=>
 Ya (Zd9 base2 t4 t13.1 (0:Int)) base2 t4 t13.1 (0:Int)
def Zik(base0:Xl)(s1:List UInt8):Option (Xl×Unit):=
 (Zca base0).bind fun t9=>
 bif !t9.1 then
  Option.bind Vy fun t11=>
  Zan s1 t11.1 ((0:Int),(false,()))
 else
  Zan s1 base0 ((0:Int),(false,()))
def Zl6(c0:Zg)(id1:Int)(text2:List UInt8):Option (Zg×Bool×Unit):=
 (Zw c0).bind fun t12=>
 (Qu c0 id1).bind fun t16=>
 (Yr c0).bind fun t20=>
 bif((!t20.1)|| (!t16.2.1))|| (!t16.1.2.2.2.2.2.2.1)then
  some (t12.1,false,())
 else
  (Zik t16.1.2.2.2.2.2.1 text2).bind fun t35=>
  Option.bind (Xp t12.1.2.2.2.1 (t16.1.1,(t16.1.2.1,(t16.1.2.2.1,(t16.1.2.2.2.1,(t16.1.2.2.2.2.1,(t35.1,t16.1.2.2.2.2.2.2))))))) fun t40=>
  some ((t12.1.1,(t12.1.2.1,(t12.1.2.2.1,(t40.1,t12.1.2.2.2.2)))),true,())
abbrev Z9n:List PE:=[.val 1 (.int .i64) (.u false),.box 2 37 (Zl) (.u false),.box 4 83 (J6) (.u true),.val 6 (.int .i64) (.u false)]
def Zjx(number1_1:Int)(c2:Zg)(t4:Q4)(i6:Int):Nat:=((c2.2.2.2.2.2.2.2.2.2.2.2.2.2.2.2.1.length:Int)-i6).toNat+1
def Zhf:Nat→Int→Zg→Q4→Int→Option (Q4×Bool×Unit)
 |0,_,_,_,_=>none
 |N+1,number1_1,c2,t4,i6=>
  bif decide (i6< (c2.2.2.2.2.2.2.2.2.2.2.2.2.2.2.2.1.length:Int))then
   Zf (0≤i6∧i6<c2.2.2.2.2.2.2.2.2.2.2.2.2.2.2.2.1.length)<|
   bif(c2.2.2.2.2.2.2.2.2.2.2.2.2.2.2.2.1.getD i6.toNat Qz).1==number1_1 then
    Zf (0≤i6∧i6<c2.2.2.2.2.2.2.2.2.2.2.2.2.2.2.2.1.length)<|
    Zf (([]:List Zh).length+ (c2.2.2.2.2.2.2.2.2.2.2.2.2.2.2.2.1.getD i6.toNat Qz).2.1.length≤Qv)<|
    some ((number1_1,(([]:List Zh)++ (c2.2.2.2.2.2.2.2.2.2.2.2.2.2.2.2.1.getD i6.toNat Qz).2.1,())),true,())
   else
    Zhf N number1_1 c2 t4 (IntKind.i64.wrap (i6+1))
  else
   some (((0:Int),(([]:List Zh),())),false,())
def Zm4(c0:Zg)(number1:Int):Option (Q4×Bool×Unit):=
 Zhf (Zjx number1 c0 ((0:Int),(([]:List Zh),())) (0:Int)) number1 c0 ((0:Int),(([]:List Zh),())) (0:Int)
abbrev Qdx:List PE:=[.box 0 37 (Zl) (.u false),.val 1 (.int .i64) (.u false),.val 4 (.slice 83 (J6)) (.p (.u true) (.u false)),.val 5 (.int .i64) (.u false)]
def Zje(K1: (Zg×Int×List Q4×Int×Unit)→Option ((Unit)×(Zg×Unit)))(x0_2:Zg)(number1_2:Int)(out4_1:List Q4)(i5_1:Int):Option ((Unit)×(Zg×Unit)):=
 K1 (x0_2,number1_2,out4_1,IntKind.i64.wrap (i5_1+1),())
abbrev Qdy:List PE:=[.box 0 37 (Zl) (.u false),.val 1 (.int .i64) (.u false),.val 4 (.slice 83 (J6)) (.p (.u true) (.u false)),.val 5 (.int .i64) (.u false)]
def Zlh(x0_1:Zg)(number1_1:Int)(out4:List Q4)(i5:Int):Nat:=((x0_1.2.2.2.2.2.2.2.2.2.2.2.2.2.2.2.1.length:Int)-i5).toNat+1
def Zcd:Nat→Zg→Int→List Q4→Int→Option ((Unit)×(Zg×Unit))
 |0,_,_,_,_=>none
 |N+1,x0_1,number1_1,out4,i5=>
  bif decide (i5< (x0_1.2.2.2.2.2.2.2.2.2.2.2.2.2.2.2.1.length:Int))then
   Zf (0≤i5∧i5<x0_1.2.2.2.2.2.2.2.2.2.2.2.2.2.2.2.1.length)<|
   bif(x0_1.2.2.2.2.2.2.2.2.2.2.2.2.2.2.2.1.getD i5.toNat Qz).1 !=number1_1 then
    Zf (0≤i5∧i5<x0_1.2.2.2.2.2.2.2.2.2.2.2.2.2.2.2.1.length)<|
    Zf (out4.length+ ([(x0_1.2.2.2.2.2.2.2.2.2.2.2.2.2.2.2.1.getD i5.toNat Qz)]).length≤Qv)<|
    Zje (fun v=>Zcd N v.1 v.2.1 v.2.2.1 v.2.2.2.1) x0_1 number1_1 (out4++ ([(x0_1.2.2.2.2.2.2.2.2.2.2.2.2.2.2.2.1.getD i5.toNat Qz)])) i5
   else
    Zje (fun v=>Zcd N v.1 v.2.1 v.2.2.1 v.2.2.2.1) x0_1 number1_1 out4 i5
  else
   some ((),((x0_1.1,(x0_1.2.1,(x0_1.2.2.1,(x0_1.2.2.2.1,(x0_1.2.2.2.2.1,(x0_1.2.2.2.2.2.1,(x0_1.2.2.2.2.2.2.1,(x0_1.2.2.2.2.2.2.2.1,(x0_1.2.2.2.2.2.2.2.2.1,(x0_1.2.2.2.2.2.2.2.2.2.1,(x0_1.2.2.2.2.2.2.2.2.2.2.1,(x0_1.2.2.2.2.2.2.2.2.2.2.2.1,(x0_1.2.2.2.2.2.2.2.2.2.2.2.2.1,(x0_1.2.2.2.2.2.2.2.2.2.2.2.2.2.1,(x0_1.2.2.2.2.2.2.2.2.2.2.2.2.2.2.1,(out4,x0_1.2.2.2.2.2.2.2.2.2.2.2.2.2.2.2.2)))))))))))))))),()))
def Zp3(x0:Zg)(number1:Int):Option ((Unit)×(Zg×Unit)):=
 Zcd (Zlh x0 number1 ([]:List Q4) (0:Int)) x0 number1 ([]:List Q4) (0:Int)
def Zv4(f0:Zh):Option (Kl×Unit):=
 some ((f0.2.2.1,(f0.2.2.2.1,(f0.2.2.2.2.1,()))),())
abbrev Z9e:List PE:=[.val 1 (.int .i64) (.u false),.box 2 87 (Zce) (.u false),.box 4 87 (Zce) (.u true),.box 6 87 (Zce) (.u true),.val 7 (.int .i64) (.u false)]
def Zeu(to1_1:Int)(r2:Ko)(t4:Ko)(x6:Ko)(at7:Int):Nat:=(to1_1-at7).toNat+1
def Zg1:Nat→Int→Ko→Ko→Ko→Int→Option (Ko×Bool×Unit)
 |0,_,_,_,_,_=>none
 |N+1,to1_1,r2,t4,x6,at7=>
  bif decide (at7<to1_1)then
   Zf (r2.1≠0)<|
   Zf (0≤(Int.tmod at7 r2.1)∧(Int.tmod at7 r2.1)<x6.2.2.2.1.length)<|
   Zg1 N to1_1 r2 t4 (x6.1,(x6.2.1,(x6.2.2.1,(x6.2.2.2.1.set (Int.tmod at7 r2.1).toNat (0:Int),x6.2.2.2.2)))) (IntKind.i64.wrap (at7+1))
  else
   some ((x6.1,(to1_1,x6.2.2)),true,())
def Zjm(r0:Ko)(to1:Int):Option (Ko×Bool×Unit):=
 (Zou r0).bind fun t9=>
 (Zbl r0).bind fun t11=>
 bif((!t11.1)|| (decide (to1<r0.2.1)))|| (decide (to1>r0.2.2.1))then
  some (t9.1,false,())
 else
  Zg1 (Zeu to1 r0 Qxf t9.1 r0.2.1) to1 r0 Qxf t9.1 r0.2.1
abbrev Z89:List PE:=[.box 4 90 (Z8) (.u true),.box 5 90 (Z8) (.p (.u false) (.p (.u true) (.p (.u true) (.p (.u true) (.p (.u true) (.u false)))))),.box 8 87 (Zce) (.u true)]
def Xu(t4_2:Zq)(x5_2:Zq)(r8:Ko):Option (Zq×Unit):=
 (Vb (x5_2.1,(r8,x5_2.2.2))).bind fun t78=>
 some ((t78.1,(r8,x5_2.2.2)),())
abbrev Z88:List PE:=[.box 2 90 (Z8) (.u false),.box 4 90 (Z8) (.u true),.box 5 90 (Z8) (.p (.u false) (.p (.u true) (.p (.u true) (.p (.u true) (.p (.u true) (.u false))))))]
def Zgw(s2_1:Zq)(t4_1:Zq)(x5_1:Zq):Option (Zq×Unit):=
 Z5 (
  (Zf4 x5_1.2.2.2.2.1 (0:Int)).bind fun t71=>
  Z5 (
   (Zjm s2_1.2.1 t71.1).bind fun t72=>
   Z5 (
    Z5 (
     Z5 (
      Xu t4_1 x5_1 t72.1
     ) (
      Ql 1 (
       Xu t4_1 x5_1 t72.1
      )
     )
    ) (
    Z5 (
     Ql 1 (
      Xu t4_1 x5_1 t72.1
     )
    ) (
     Z5 (
      Ql 1 (
       Xu t4_1 x5_1 t72.1
      )
     ) (
      Xu t4_1 x5_1 t72.1
     )
    )
    )
   ) (
    Z5 (
     Ql 1 (
      Xu t4_1 x5_1 t72.1
     )
    ) (
     Xu t4_1 x5_1 t72.1
    )
   )
  ) (
   (Zjm s2_1.2.1 t71.1).bind fun t72=>
   Z5 (
    Ql 1 (
     Xu t4_1 x5_1 t72.1
    )
   ) (
    Xu t4_1 x5_1 t72.1
   )
  )
 ) (
  (Zf4 x5_1.2.2.2.2.1 (0:Int)).bind fun t71=>
  (Zjm s2_1.2.1 t71.1).bind fun t72=>
  Z5 (
   Ql 1 (
    Xu t4_1 x5_1 t72.1
   )
  ) (
   Xu t4_1 x5_1 t72.1
  )
 )
abbrev Z87:List PE:=[.box 2 90 (Z8) (.u false),.box 3 221 (Za9) (.u false),.box 4 90 (Z8) (.u true),.box 5 90 (Z8) (.u true)]
def Zgv(s2:Zq)(p3:Kl)(t4:Zq)(x5:Zq):Option (Zq×Unit):=
 bif p3.2.2.1&& (s2.2.2.2.2.2.2.1==2)then
  Zgw s2 t4 (x5.1,(x5.2.1,(x5.2.2.1,(x5.2.2.2.1,(x5.2.2.2.2.1,(x5.2.2.2.2.2.1,((3:Int),x5.2.2.2.2.2.2.2)))))))
 else
  Zgw s2 t4 x5
abbrev Z9a:List PE:=[.box 2 90 (Z8) (.u false),.box 3 221 (Za9) (.u false),.box 4 90 (Z8) (.u true),.box 5 90 (Z8) (.u true),.val 6 (.slice 124 (Zr)) (.u true),.val 7 (.int .i64) (.u false)]
def Zju(s2_2:Zq)(p3_1:Kl)(t4_3:Zq)(x5_3:Zq)(c6:List Zd)(i7:Int):Nat:=((c6.length:Int)-i7).toNat+1
def Zgx:Nat→Zq→Kl→Zq→Zq→List Zd→Int→Option (Zq×Unit)
 |0,_,_,_,_,_,_=>none
 |N+1,s2_2,p3_1,t4_3,x5_3,c6,i7=>
  bif decide (i7< (c6.length:Int))then
   Zf (0≤i7∧i7<c6.length)<|
   (Zdk x5_3.2.2.2.1 (c6.getD i7.toNat Zx)).bind fun t48=>
   Zf (0≤i7∧i7<c6.length)<|
   (Jb x5_3.2.2.2.2.1 (c6.getD i7.toNat Zx)).bind fun t56=>
   Zgx N s2_2 p3_1 t4_3 (x5_3.1,(x5_3.2.1,(x5_3.2.2.1,(t48.1,(t56.1,x5_3.2.2.2.2.2))))) c6 (IntKind.i64.wrap (i7+1))
  else
   Zgv s2_2 p3_1 t4_3 x5_3
def Zq8(s0:Zq)(p1:Kl):Option (Zq×Unit):=
 (Zbq s0).bind fun t11=>
 (Yd s0).bind fun t13=>
 let t19:Bool:=(!t13.1)|| (decide (s0.1>(2:Int)))
 (bif t19 then some (false,())else(Zp8 s0 p1)).bind fun t23=>
 bif t19|| (!t23.1)then
  some (t11.1,())
 else
  bif !(p1.2.1==([]:List UInt8))then
   (Zmb p1).bind fun t33=>
   (Zbx s0.2.2.2.1 ([t33.1])).bind fun t35=>
   Zgx (Zju s0 p1 Zc5 t11.1 t35.1 (0:Int)) s0 p1 Zc5 t11.1 t35.1 (0:Int)
  else
   Zgv s0 p1 Zc5 t11.1
def Zq9(s0:Zq):Option (Zq×Bool×Unit):=
 (Zbq s0).bind fun t6=>
 (Yd s0).bind fun t8=>
 bif(!t8.1)|| (s0.1 !=4)then
  some (t6.1,false,())
 else
  some (((5:Int),t6.1.2),true,())
abbrev Qh4:List PE:=[.box 0 37 (Zl) (.u false),.box 4 99 (Z2) (.p (.u false) (.p (.u true) (.p (.u false) (.p (.u true) (.u false)))))]
def Zbo(x0_2:Zg)(s4_1:Zn):Option ((Unit)×(Zg×Unit)):=
 (Zc1 x0_2 s4_1).bind fun t51=>
 some ((),(t51.2.1,()))
abbrev Qh3:List PE:=[.box 0 37 (Zl) (.u false),.box 3 115 (Zt) (.u false),.box 4 99 (Z2) (.u true),.val 5 (.bool) (.u false)]
def Kf(x0_1:Zg)(f3:Zh)(s4:Zn)(is5:Bool):Option ((Unit)×(Zg×Unit)):=
 (bif(!is5)then some (false,())else(K6 f3)).bind fun t21=>
 bif(!is5)|| (!t21.1)then
  some ((),(x0_1,()))
 else
  bif f3.1==8 then
   (Zv4 f3).bind fun t31=>
   (Zq8 s4.2.1 t31.1).bind fun t32=>
   Zbo x0_1 (s4.1,(t32.1,s4.2.2))
  else
   bif f3.1==4 then
    (Zq9 s4.2.1).bind fun t39=>
    bif t39.2.1 then
     Zbo x0_1 (s4.1,(t39.1,(s4.2.2.1,(s4.2.2.2.1,(s4.2.2.2.2.1,(s4.2.2.2.2.2.1,(s4.2.2.2.2.2.2.1,(s4.2.2.2.2.2.2.2.1,(false,s4.2.2.2.2.2.2.2.2.2)))))))))
    else
     Zbo x0_1 (s4.1,(t39.1,s4.2.2))
   else
    bif f3.1==5 then
     Zbo x0_1 (s4.1,(s4.2.1,(s4.2.2.1,(s4.2.2.2.1,(s4.2.2.2.2.1,(s4.2.2.2.2.2.1,(s4.2.2.2.2.2.2.1,(s4.2.2.2.2.2.2.2.1,(s4.2.2.2.2.2.2.2.2.1,(false,s4.2.2.2.2.2.2.2.2.2.2))))))))))
    else
     Zbo x0_1 s4
def Zvr(x0:Zg)(f1:Zh):Option ((Unit)×(Zg×Unit)):=
 Z5 (
  (Qu x0 f1.2.1).bind fun t14=>
  Z5 (
   Z5 (
    Z5 (
     Kf x0 f1 t14.1 t14.2.1
    ) (
     Ql 1 (
      Kf x0 f1 t14.1 t14.2.1
     )
    )
   ) (
   Z5 (
    Ql 1 (
     Kf x0 f1 t14.1 t14.2.1
    )
   ) (
    Z5 (
     Ql 1 (
      Kf x0 f1 t14.1 t14.2.1
     )
    ) (
     Kf x0 f1 t14.1 t14.2.1
    )
   )
   )
  ) (
   Z5 (
    Ql 1 (
     Kf x0 f1 t14.1 t14.2.1
    )
   ) (
    Kf x0 f1 t14.1 t14.2.1
   )
  )
 ) (
  (Qu x0 f1.2.1).bind fun t14=>
  Z5 (
   Ql 1 (
    Kf x0 f1 t14.1 t14.2.1
   )
  ) (
   Kf x0 f1 t14.1 t14.2.1
  )
 )
abbrev Z46:List PE:=[.box 4 37 (Zl) (.u true),.box 6 37 (Zl) (.u false),.box 7 83 (J6) (.u true),.val 9 (.int .i64) (.u false)]
def Zib(t4:Zg)(x6:Zg)(p7:Q4)(i9:Int):Nat:=((p7.2.1.length:Int)-i9).toNat+1
def Zfg:Nat→Zg→Zg→Q4→Int→Option ((Zg×Bool×Unit)×(Unit))
 |0,_,_,_,_=>none
 |N+1,t4,x6,p7,i9=>
  bif decide (i9< (p7.2.1.length:Int))then
   Zf (0≤i9∧i9<p7.2.1.length)<|
   (Zvr x6 (p7.2.1.getD i9.toNat Xr)).bind fun t40=>
   Zfg N t4 t40.2.1 p7 (IntKind.i64.wrap (i9+1))
  else
   some ((x6,(true,())),())
def Zds(c0:Zg)(number1:Int):Option ((Zg×Bool×Unit)×(Unit)):=
 (Zw c0).bind fun t11=>
 (Zm4 c0 number1).bind fun t15=>
 (Yr c0).bind fun t19=>
 bif(!t19.1)|| (!t15.2.1)then
  some ((t11.1,(false,())),())
 else
  (Zp3 t11.1 number1).bind fun t27=>
  Zfg (Zib Wj t27.2.1 t15.1 (0:Int)) Wj t27.2.1 t15.1 (0:Int)
abbrev Z5g:List PE:=[.box 4 90 (Z8) (.u true),.box 5 90 (Z8) (.p (.u false) (.p (.u true) (.p (.u true) (.p (.u true) (.p (.u true) (.u false))))))]
def Zfo(t4_1:Zq)(x5_1:Zq):Option (Zq×Unit):=
 (Vb x5_1).bind fun t65=>
 some ((t65.1,x5_1.2),())
abbrev Z5f:List PE:=[.box 2 90 (Z8) (.u false),.box 3 221 (Za9) (.u false),.box 4 90 (Z8) (.u true),.box 5 90 (Z8) (.u true)]
def Zfn(s2:Zq)(p3:Kl)(t4:Zq)(x5:Zq):Option (Zq×Unit):=
 bif p3.2.2.1&& (s2.2.2.2.2.2.2.1==2)then
  Zfo t4 (x5.1,(x5.2.1,(x5.2.2.1,(x5.2.2.2.1,(x5.2.2.2.2.1,(x5.2.2.2.2.2.1,((1:Int),x5.2.2.2.2.2.2.2)))))))
 else
  Zfo t4 x5
abbrev Z5h:List PE:=[.box 2 90 (Z8) (.u false),.box 3 221 (Za9) (.u false),.box 4 90 (Z8) (.u true),.box 5 90 (Z8) (.u true),.val 6 (.slice 124 (Zr)) (.u true),.val 7 (.int .i64) (.u false)]
def Zij(s2_1:Zq)(p3_1:Kl)(t4_2:Zq)(x5_2:Zq)(c6:List Zd)(i7:Int):Nat:=((c6.length:Int)-i7).toNat+1
def Zfp:Nat→Zq→Kl→Zq→Zq→List Zd→Int→Option (Zq×Unit)
 |0,_,_,_,_,_,_=>none
 |N+1,s2_1,p3_1,t4_2,x5_2,c6,i7=>
  bif decide (i7< (c6.length:Int))then
   Zf (0≤i7∧i7<c6.length)<|
   (Zdk x5_2.2.2.2.1 (c6.getD i7.toNat Zx)).bind fun t46=>
   Zf (0≤i7∧i7<c6.length)<|
   (Jb x5_2.2.2.1 (c6.getD i7.toNat Zx)).bind fun t54=>
   Zfp N s2_1 p3_1 t4_2 (x5_2.1,(x5_2.2.1,(t54.1,(t46.1,x5_2.2.2.2.2)))) c6 (IntKind.i64.wrap (i7+1))
  else
   Zfn s2_1 p3_1 t4_2 x5_2
def Zpt(s0:Zq)(p1:Kl):Option (Zq×Unit):=
 (Zbq s0).bind fun t9=>
 (Yd s0).bind fun t11=>
 let t17:Bool:=(!t11.1)|| (decide (s0.1>(2:Int)))
 (bif t17 then some (false,())else(Zp8 s0 p1)).bind fun t21=>
 bif t17|| (!t21.1)then
  some (t9.1,())
 else
  bif !(p1.2.1==([]:List UInt8))then
   (Zmb p1).bind fun t31=>
   (Zbx s0.2.2.2.1 ([t31.1])).bind fun t33=>
   Zfp (Zij s0 p1 Zc5 t9.1 t33.1 (0:Int)) s0 p1 Zc5 t9.1 t33.1 (0:Int)
  else
   Zfn s0 p1 Zc5 t9.1
abbrev Qd0:List PE:=[.box 0 37 (Zl) (.u false),.box 4 99 (Z2) (.p (.u false) (.p (.u true) (.p (.u false) (.p (.u true) (.u false)))))]
def Wx(x0_2:Zg)(s4_1:Zn):Option ((Unit)×(Zg×Unit)):=
 (Xp x0_2.2.2.2.1 s4_1).bind fun t72=>
 some ((),((x0_2.1,(x0_2.2.1,(x0_2.2.2.1,(t72.1,x0_2.2.2.2.2)))),()))
abbrev Qdz:List PE:=[.box 0 37 (Zl) (.u false),.box 3 115 (Zt) (.u false),.box 4 99 (Z2) (.u true),.val 5 (.bool) (.u false)]
def Yx(x0_1:Zg)(f3:Zh)(s4:Zn)(is5:Bool):Option ((Unit)×(Zg×Unit)):=
 (bif(!is5)then some (false,())else(K6 f3)).bind fun t36=>
 bif(!is5)|| (!t36.1)then
  some ((),(x0_1,()))
 else
  bif f3.1==8 then
   (Zv4 f3).bind fun t46=>
   (Zpt s4.2.1 t46.1).bind fun t47=>
   Wx x0_1 (s4.1,(t47.1,s4.2.2))
  else
   bif f3.1==4 then
    Wx x0_1 (s4.1,(s4.2.1,(s4.2.2.1,(s4.2.2.2.1,(s4.2.2.2.2.1,(s4.2.2.2.2.2.1,(s4.2.2.2.2.2.2.1,(s4.2.2.2.2.2.2.2.1,(s4.2.1.1==4,s4.2.2.2.2.2.2.2.2.2)))))))))
   else
    bif f3.1==5 then
     Wx x0_1 (s4.1,(s4.2.1,(s4.2.2.1,(s4.2.2.2.1,(s4.2.2.2.2.1,(s4.2.2.2.2.2.1,(s4.2.2.2.2.2.2.1,(s4.2.2.2.2.2.2.2.1,(s4.2.2.2.2.2.2.2.2.1,(decide (s4.2.2.2.1.1< (2:Int)),s4.2.2.2.2.2.2.2.2.2.2))))))))))
    else
     bif f3.1==17 then
      Wx x0_1 (s4.1,(s4.2.1,(s4.2.2.1,(s4.2.2.2.1,(s4.2.2.2.2.1,(s4.2.2.2.2.2.1,(s4.2.2.2.2.2.2.1,(s4.2.2.2.2.2.2.2.1,(s4.2.2.2.2.2.2.2.2.1,(s4.2.2.2.2.2.2.2.2.2.1,(true,s4.2.2.2.2.2.2.2.2.2.2.2)))))))))))
     else
      Wx x0_1 s4
def Ztg(x0:Zg)(f1:Zh):Option ((Unit)×(Zg×Unit)):=
 bif f1.1==16 then
  some ((),((x0.1,(x0.2.1,(x0.2.2.1,(x0.2.2.2.1,(x0.2.2.2.2.1,(x0.2.2.2.2.2.1,(x0.2.2.2.2.2.2.1,(x0.2.2.2.2.2.2.2.1,(x0.2.2.2.2.2.2.2.2.1,(x0.2.2.2.2.2.2.2.2.2.1,(true,x0.2.2.2.2.2.2.2.2.2.2.2))))))))))),()))
 else
  bif f1.1==18 then
   bif f1.2.2.2.2.2.2.2.2.1 then
    some ((),((x0.1,(x0.2.1,(x0.2.2.1,(x0.2.2.2.1,(x0.2.2.2.2.1,(x0.2.2.2.2.2.1,(x0.2.2.2.2.2.2.1,(x0.2.2.2.2.2.2.2.1,(x0.2.2.2.2.2.2.2.2.1,(x0.2.2.2.2.2.2.2.2.2.1,(x0.2.2.2.2.2.2.2.2.2.2.1,(x0.2.2.2.2.2.2.2.2.2.2.2.1,(true,x0.2.2.2.2.2.2.2.2.2.2.2.2.2))))))))))))),()))
   else
    some ((),((x0.1,(x0.2.1,(x0.2.2.1,(x0.2.2.2.1,(x0.2.2.2.2.1,(x0.2.2.2.2.2.1,(x0.2.2.2.2.2.2.1,(x0.2.2.2.2.2.2.2.1,(x0.2.2.2.2.2.2.2.2.1,(x0.2.2.2.2.2.2.2.2.2.1,(x0.2.2.2.2.2.2.2.2.2.2.1,(true,x0.2.2.2.2.2.2.2.2.2.2.2.2)))))))))))),()))
  else
   Z5 (
    (Qu x0 f1.2.1).bind fun t29=>
    Z5 (
     Z5 (
      Z5 (
       Yx x0 f1 t29.1 t29.2.1
      ) (
       Ql 1 (
        Yx x0 f1 t29.1 t29.2.1
       )
      )
     ) (
     Z5 (
      Ql 1 (
       Yx x0 f1 t29.1 t29.2.1
      )
     ) (
      Z5 (
       Ql 1 (
        Yx x0 f1 t29.1 t29.2.1
       )
      ) (
       Yx x0 f1 t29.1 t29.2.1
      )
     )
     )
    ) (
     Z5 (
      Ql 1 (
       Yx x0 f1 t29.1 t29.2.1
      )
     ) (
      Yx x0 f1 t29.1 t29.2.1
     )
    )
   ) (
    (Qu x0 f1.2.1).bind fun t29=>
    Z5 (
     Ql 1 (
      Yx x0 f1 t29.1 t29.2.1
     )
    ) (
     Yx x0 f1 t29.1 t29.2.1
    )
   )
abbrev Z2r:List PE:=[.box 4 37 (Zl) (.u true),.box 6 37 (Zl) (.u false),.box 7 83 (J6) (.u true),.val 9 (.int .i64) (.u false)]
def Zg6(t4:Zg)(x6:Zg)(p7:Q4)(i9:Int):Nat:=((p7.2.1.length:Int)-i9).toNat+1
def Zd8:Nat→Zg→Zg→Q4→Int→Option ((Zg×Bool×Unit)×(Unit))
 |0,_,_,_,_=>none
 |N+1,t4,x6,p7,i9=>
  bif decide (i9< (p7.2.1.length:Int))then
   Zf (0≤i9∧i9<p7.2.1.length)<|
   (Ztg x6 (p7.2.1.getD i9.toNat Xr)).bind fun t40=>
   Zd8 N t4 t40.2.1 p7 (IntKind.i64.wrap (i9+1))
  else
   some ((x6,(true,())),())
def Zcb(c0:Zg)(number1:Int):Option ((Zg×Bool×Unit)×(Unit)):=
 (Zw c0).bind fun t11=>
 (Zm4 c0 number1).bind fun t15=>
 (Yr c0).bind fun t19=>
 bif(!t19.1)|| (!t15.2.1)then
  some ((t11.1,(false,())),())
 else
  (Zp3 t11.1 number1).bind fun t27=>
  Zd8 (Zg6 Wj t27.2.1 t15.1 (0:Int)) Wj t27.2.1 t15.1 (0:Int)
abbrev Z2f:List PE:=[.val 0 (.str) (.u false),.val 1 (.int .i64) (.u false),.val 7 (.int .i64) (.u false),.val 8 (.int .i64) (.u false),.val 9 (.int .i64) (.u false)]
def Zg0(s0_1:List UInt8)(at1_1:Int)(k7:Int)(n8:Int)(i9:Int):Nat:=(k7-i9).toNat+1
def Zdx:Nat→List UInt8→Int→Int→Int→Int→Option (Int×Int×Bool×Unit)
 |0,_,_,_,_,_=>none
 |N+1,s0_1,at1_1,k7,n8,i9=>
  bif decide (i9<k7)then
   Zf (0≤(8:Int))<|
   Zf (0≤(IntKind.i64.wrap (at1_1+i9))∧(IntKind.i64.wrap (at1_1+i9))<s0_1.length)<|
   Zdx N s0_1 at1_1 k7 (bits .or .i64 (IntKind.i64.wrap (n8*2^ (min (8:Int).toNat IntKind.i64.bits))) (IntKind.i64.wrap ((s0_1.getD (IntKind.i64.wrap (at1_1+i9)).toNat 0).toNat:Int))) (IntKind.i64.wrap (i9+1))
  else
   some (n8,IntKind.i64.wrap (at1_1+k7),true,())
def Zi0(s0:List UInt8)(at1:Int):Option (Int×Int×Bool×Unit):=
 bif(decide (at1< (0:Int)))|| (decide (at1≥(s0.length:Int)))then
  some ((0:Int),(0:Int),false,())
 else
  Zf (0≤at1∧at1<s0.length)<|
  Zf (0≤(6:Int))<|
  let t21:Int:=((s0.getD at1.toNat 0).toNat:Int).fdiv (2^ (min (6:Int).toNat IntKind.u8.bits))
  Zf (0≤t21)<|
  let t22:Int:=IntKind.i64.wrap ((1:Int)*2^ (min t21.toNat IntKind.i64.bits))
  bif decide ((IntKind.i64.wrap ((s0.length:Int)-at1))<t22)then
   some ((0:Int),(0:Int),false,())
  else
   Zf (0≤at1∧at1<s0.length)<|
   let t33:Int:=IntKind.i64.wrap (bits .and .u8 ((s0.getD at1.toNat 0).toNat:Int) (63:Int))
   Zdx (Zg0 s0 at1 t22 t33 (1:Int)) s0 at1 t22 t33 (1:Int)
abbrev Qh7:List PE:=[.val 0 (.str) (.u false),.val 1 (.int .i64) (.u false),.val 2 (.int .i64) (.u false),.val 9 (.slice 3 (.int .i64)) (.u true),.val 10 (.int .i64) (.u false)]
def Zmr(s0_1:List UInt8)(at1_1:Int)(n2_1:Int)(out9:List Int)(i10:Int):Nat:=(n2_1-i10).toNat+1
def Zll:Nat→List UInt8→Int→Int→List Int→Int→Option (List Int×Int×Bool×Unit)
 |0,_,_,_,_,_=>none
 |N+1,s0_1,at1_1,n2_1,out9,i10=>
  bif decide (i10<n2_1)then
   (Zi0 s0_1 at1_1).bind fun t23=>
   bif !t23.2.2.1 then
    some ([(0:Int),(0:Int),(0:Int)],(0:Int),false,())
   else
    Zf (out9.length+ ([t23.1]).length≤Qv)<|
    Zll N s0_1 t23.2.1 n2_1 (out9++ ([t23.1])) (IntKind.i64.wrap (i10+1))
  else
   some (out9,at1_1,true,())
def Zr3(s0:List UInt8)(at1:Int)(n2:Int):Option (List Int×Int×Bool×Unit):=
 Zll (Zmr s0 at1 n2 ([]:List Int) (0:Int)) s0 at1 n2 ([]:List Int) (0:Int)
abbrev Z90:List PE:=[.val 0 (.str) (.u false),.box 6 115 (Zt) (.u false),.box 9 115 (Zt) (.u false),.val 12 (.int .i64) (.u false),.val 14 (.int .i64) (.u false)]
def Zhz(s0_3:List UInt8)(t6_2:Zh)(f9_2:Zh)(next12_1:Int)(size14:Int):Option (Zh×Int×Bool×Unit):=
 Zf (0≤next12_1∧next12_1≤(IntKind.i64.wrap (next12_1+size14))∧(IntKind.i64.wrap (next12_1+size14))≤s0_3.length)<|
 let t78:List UInt8:=(s0_3.drop next12_1.toNat).take ((IntKind.i64.wrap (next12_1+size14)).toNat-next12_1.toNat)
 (J9 (f9_2.1,(f9_2.2.1,(f9_2.2.2.1,(t78,f9_2.2.2.2.2))))).bind fun t81=>
 bif !t81.1 then
  some (Xr,(0:Int),false,())
 else
  some ((f9_2.1,(f9_2.2.1,(f9_2.2.2.1,(t78,f9_2.2.2.2.2)))),IntKind.i64.wrap (next12_1+size14),true,())
abbrev Z9z:List PE:=[.val 0 (.str) (.u false),.val 2 (.int .i64) (.u false),.box 6 115 (Zt) (.u false),.box 9 115 (Zt) (.u false),.val 12 (.int .i64) (.u false)]
def Zhy(s0_2:List UInt8)(kind2_2:Int)(t6_1:Zh)(f9_1:Zh)(next12:Int):Option (Zh×Int×Bool×Unit):=
 bif(bits .and .i64 kind2_2 (2:Int))==2 then
  (Zi0 s0_2 next12).bind fun t56=>
  bif(!t56.2.2.1)|| (decide (t56.1>(IntKind.i64.wrap ((s0_2.length:Int)-t56.2.1))))then
   some (Xr,(0:Int),false,())
  else
   Zhz s0_2 t6_1 f9_1 t56.2.1 t56.1
 else
  Zhz s0_2 t6_1 f9_1 next12 (IntKind.i64.wrap ((s0_2.length:Int)-next12))
abbrev Z9y:List PE:=[.val 0 (.str) (.u false),.val 1 (.int .i64) (.u false),.val 2 (.int .i64) (.u false),.box 6 115 (Zt) (.u false),.box 9 115 (Zt) (.u false),.val 10 (.int .i64) (.u false)]
def Zhx(s0_1:List UInt8)(at1_1:Int)(kind2_1:Int)(t6:Zh)(f9:Zh)(n10:Int):Option (Zh×Int×Bool×Unit):=
 (Zr3 s0_1 at1_1 n10).bind fun t29=>
 bif !t29.2.2.1 then
  some (Xr,(0:Int),false,())
 else
  Zf (0≤(0:Int)∧(0:Int)<t29.1.length)<|
  bif n10==2 then
   Zf (0≤(1:Int)∧(1:Int)<t29.1.length)<|
   Zhy s0_1 kind2_1 t6 (f9.1,(t29.1.getD (0:Int).toNat (0:Int),(t29.1.getD (1:Int).toNat (0:Int),f9.2.2.2))) t29.2.1
  else
   Zhy s0_1 kind2_1 t6 (f9.1,(t29.1.getD (0:Int).toNat (0:Int),f9.2.2)) t29.2.1
def Zrm(s0:List UInt8)(at1:Int)(kind2:Int):Option (Zh×Int×Bool×Unit):=
 bif(bits .and .i64 kind2 (4:Int))==4 then
  Zhx s0 at1 kind2 Xr ((8:Int),((0:Int),((0:Int),(([]:List UInt8),((bits .and .i64 kind2 (1:Int))==1,((0:Int),((0:Int),((0:Int),(false,()))))))))) (2:Int)
 else
  Zhx s0 at1 kind2 Xr ((8:Int),((0:Int),((0:Int),(([]:List UInt8),((bits .and .i64 kind2 (1:Int))==1,((0:Int),((0:Int),((0:Int),(false,()))))))))) (1:Int)
abbrev Zz2:List PE:=[.box 4 115 (Zt) (.u false),.box 11 115 (Zt) (.u false),.val 14 (.int .i64) (.u false),.val 15 (.bool) (.u false)]
def Jp(t4_1:Zh)(f11_1:Zh)(next14:Int)(is15:Bool):Option (Zh×Int×Bool×Unit):=
 (bif(!is15)then some (false,())else(J9 f11_1)).bind fun t135=>
 bif(!is15)|| (!t135.1)then
  some (Xr,(0:Int),false,())
 else
  some (f11_1,next14,true,())
abbrev Zz3:List PE:=[.box 4 115 (Zt) (.u false),.box 11 115 (Zt) (.u false),.val 13 (.slice 3 (.int .i64)) (.u true),.val 14 (.int .i64) (.u false),.val 15 (.bool) (.u false),.val 117 (.bool) (.u false)]
def Zcj(t4_2:Zh)(f11_2:Zh)(l13:List Int)(next14_1:Int)(is15_1:Bool)(t117:Bool):Option (Zh×Int×Bool×Unit):=
 bif t117 then
  Zf (0≤(0:Int)∧(0:Int)<l13.length)<|
  Zf ((l13.length:Int)≠0)<|
  Zf (0≤(Int.tmod (1:Int) (l13.length:Int))∧(Int.tmod (1:Int) (l13.length:Int))<l13.length)<|
  Jp t4_2 (f11_2.1,(l13.getD (0:Int).toNat (0:Int),(f11_2.2.2.1,(f11_2.2.2.2.1,(f11_2.2.2.2.2.1,(f11_2.2.2.2.2.2.1,(l13.getD (Int.tmod (1:Int) (l13.length:Int)).toNat (0:Int),f11_2.2.2.2.2.2.2.2))))))) next14_1 is15_1
 else
  Zf (0≤(0:Int)∧(0:Int)<l13.length)<|
  Jp t4_2 (f11_2.1,(f11_2.2.1,(f11_2.2.2.1,(f11_2.2.2.2.1,(f11_2.2.2.2.2.1,(f11_2.2.2.2.2.2.1,(l13.getD (0:Int).toNat (0:Int),f11_2.2.2.2.2.2.2.2))))))) next14_1 is15_1
abbrev Zz1:List PE:=[.val 0 (.str) (.u false),.val 1 (.int .i64) (.u false),.box 4 115 (Zt) (.u false),.box 11 115 (Zt) (.u false),.val 12 (.int .i64) (.u false)]
def Jo(s0_1:List UInt8)(at1_1:Int)(t4:Zh)(f11:Zh)(n12:Int):Option (Zh×Int×Bool×Unit):=
 (Zr3 s0_1 (IntKind.i64.wrap (at1_1+1)) n12).bind fun t74=>
 bif f11.1==4 then
  Zf (0≤(0:Int)∧(0:Int)<t74.1.length)<|
  Zf ((t74.1.length:Int)≠0)<|
  Zf (0≤(Int.tmod (1:Int) (t74.1.length:Int))∧(Int.tmod (1:Int) (t74.1.length:Int))<t74.1.length)<|
  Zf ((t74.1.length:Int)≠0)<|
  Zf (0≤(Int.tmod (2:Int) (t74.1.length:Int))∧(Int.tmod (2:Int) (t74.1.length:Int))<t74.1.length)<|
  Jp t4 (f11.1,(t74.1.getD (0:Int).toNat (0:Int),(f11.2.2.1,(f11.2.2.2.1,(f11.2.2.2.2.1,(t74.1.getD (Int.tmod (1:Int) (t74.1.length:Int)).toNat (0:Int),(f11.2.2.2.2.2.2.1,(t74.1.getD (Int.tmod (2:Int) (t74.1.length:Int)).toNat (0:Int),f11.2.2.2.2.2.2.2.2)))))))) t74.2.1 t74.2.2.1
 else
  bif f11.1==5 then
   Zf (0≤(0:Int)∧(0:Int)<t74.1.length)<|
   Zf ((t74.1.length:Int)≠0)<|
   Zf (0≤(Int.tmod (1:Int) (t74.1.length:Int))∧(Int.tmod (1:Int) (t74.1.length:Int))<t74.1.length)<|
   Jp t4 (f11.1,(t74.1.getD (0:Int).toNat (0:Int),(f11.2.2.1,(f11.2.2.2.1,(f11.2.2.2.2.1,(t74.1.getD (Int.tmod (1:Int) (t74.1.length:Int)).toNat (0:Int),f11.2.2.2.2.2.2)))))) t74.2.1 t74.2.2.1
  else
   bif f11.1==17 then
    Zcj t4 f11 t74.1 t74.2.1 t74.2.2.1 (f11.1==17)
   else
    Zcj t4 f11 t74.1 t74.2.1 t74.2.2.1 (f11.1==21)
abbrev Zz5:List PE:=[.val 0 (.str) (.u false),.val 1 (.int .i64) (.u false),.box 4 115 (Zt) (.u false),.val 7 (.int .i64) (.u false),.box 11 115 (Zt) (.u false),.val 12 (.int .i64) (.u false),.val 62 (.bool) (.u false)]
def Zck(s0_3:List UInt8)(at1_3:Int)(t4_4:Zh)(kind7_1:Int)(f11_4:Zh)(n12_2:Int)(t62:Bool):Option (Zh×Int×Bool×Unit):=
 bif t62 then
  Jo s0_3 at1_3 t4_4 (IntKind.i64.wrap (kind7_1-1),(f11_4.2.1,(f11_4.2.2.1,(f11_4.2.2.2.1,(f11_4.2.2.2.2.1,(f11_4.2.2.2.2.2.1,(f11_4.2.2.2.2.2.2.1,(f11_4.2.2.2.2.2.2.2.1,(true,f11_4.2.2.2.2.2.2.2.2.2))))))))) n12_2
 else
  Jo s0_3 at1_3 t4_4 f11_4 n12_2
abbrev Zz4:List PE:=[.val 0 (.str) (.u false),.val 1 (.int .i64) (.u false),.box 4 115 (Zt) (.u false),.val 7 (.int .i64) (.u false),.box 11 115 (Zt) (.u false),.val 12 (.int .i64) (.u false),.val 55 (.int .i64) (.u false),.val 58 (.bool) (.u false)]
def Wl(s0_2:List UInt8)(at1_2:Int)(t4_3:Zh)(kind7:Int)(f11_3:Zh)(n12_1:Int)(t55:Int)(t58:Bool):Option (Zh×Int×Bool×Unit):=
 bif t58 then
  Jo s0_2 at1_2 t4_3 f11_3 (2:Int)
 else
  bif t55==19 then
   Zck s0_2 at1_2 t4_3 kind7 f11_3 n12_1 (t55==19)
  else
   Zck s0_2 at1_2 t4_3 kind7 f11_3 n12_1 (t55==23)
def Zlz(s0:List UInt8)(at1:Int):Option (Zh×Int×Bool×Unit):=
 let t23:Bool:=(decide (at1< (0:Int)))|| (decide (at1≥(s0.length:Int)))
 Zf ((t23=false→(0≤at1∧at1<s0.length)))<|
 bif t23|| (decide (((s0.getD at1.toNat 0).toNat:Int)>(23:Int)))then
  some (Xr,(0:Int),false,())
 else
  Zf (0≤at1∧at1<s0.length)<|
  let t34:Int:=IntKind.i64.wrap ((s0.getD at1.toNat 0).toNat:Int)
  bif(decide (t34≥(8:Int)))&& (decide (t34< (16:Int)))then
   (Zrm s0 (IntKind.i64.wrap (at1+1)) t34).bind fun t46=>
   some (t46.1,t46.2.1,t46.2.2.1,())
  else
   bif t34==4 then
    Jo s0 at1 Xr (t34,((0:Int),((0:Int),(([]:List UInt8),(false,((0:Int),((0:Int),((0:Int),(false,()))))))))) (3:Int)
   else
    bif t34==5 then
     Wl s0 at1 Xr t34 (t34,((0:Int),((0:Int),(([]:List UInt8),(false,((0:Int),((0:Int),((0:Int),(false,()))))))))) (1:Int) t34 (t34==5)
    else
     bif t34==17 then
      Wl s0 at1 Xr t34 (t34,((0:Int),((0:Int),(([]:List UInt8),(false,((0:Int),((0:Int),((0:Int),(false,()))))))))) (1:Int) t34 (t34==17)
     else
      Wl s0 at1 Xr t34 (t34,((0:Int),((0:Int),(([]:List UInt8),(false,((0:Int),((0:Int),((0:Int),(false,()))))))))) (1:Int) t34 (t34==21)
abbrev Zw7:List PE:=[.val 0 (.str) (.u false),.val 4 (.slice 115 (Zt)) (.u true),.val 5 (.int .i64) (.u false)]
def Zdw(s0_1:List UInt8)(out4:List Zh)(at5:Int):Nat:=((s0_1.length:Int)-at5).toNat+1
def Jz:Nat→List UInt8→List Zh→Int→Option (List Zh×Bool×Unit)
 |0,_,_,_=>none
 |N+1,s0_1,out4,at5=>
  bif decide (at5< (s0_1.length:Int))then
   Zf (0≤at5∧at5<s0_1.length)<|
   bif((s0_1.getD at5.toNat 0).toNat:Int)==(0:Int)then
    Jz N s0_1 out4 (IntKind.i64.wrap (at5+1))
   else
    (Zlz s0_1 at5).bind fun t23=>
    bif !t23.2.2.1 then
     some (([]:List Zh),false,())
    else
     Zf (out4.length+ ([t23.1]).length≤Qv)<|
     Jz N s0_1 (out4++ ([t23.1])) t23.2.1
  else
   (Zu (s0_1.length:Int) (1:Int) (400:Int)).bind fun t38=>
   some (out4,t38.1,())
def Zif(s0:List UInt8):Option (List Zh×Bool×Unit):=
 Jz (Zdw s0 ([]:List Zh) (0:Int)) s0 ([]:List Zh) (0:Int)
def Zky(c0:Zg)(code1:Int):Option (Zg×Unit):=
 (Zw c0).bind fun t7=>
 (bif(c0.2.2.2.2.2.2.2.2.2.2.2.2.2.2.2.2.2.1==0)then(Zu code1 (1:Int) (255:Int))else some (false,())).bind fun t13=>
 bif(c0.2.2.2.2.2.2.2.2.2.2.2.2.2.2.2.2.2.1==0)&&t13.1 then
  some ((t7.1.1,(t7.1.2.1,(t7.1.2.2.1,(t7.1.2.2.2.1,(t7.1.2.2.2.2.1,(t7.1.2.2.2.2.2.1,(t7.1.2.2.2.2.2.2.1,(t7.1.2.2.2.2.2.2.2.1,(t7.1.2.2.2.2.2.2.2.2.1,(t7.1.2.2.2.2.2.2.2.2.2.1,(t7.1.2.2.2.2.2.2.2.2.2.2.1,(t7.1.2.2.2.2.2.2.2.2.2.2.2.1,(t7.1.2.2.2.2.2.2.2.2.2.2.2.2.1,(t7.1.2.2.2.2.2.2.2.2.2.2.2.2.2.1,(t7.1.2.2.2.2.2.2.2.2.2.2.2.2.2.2.1,(t7.1.2.2.2.2.2.2.2.2.2.2.2.2.2.2.2.1,(t7.1.2.2.2.2.2.2.2.2.2.2.2.2.2.2.2.2.1,(code1,t7.1.2.2.2.2.2.2.2.2.2.2.2.2.2.2.2.2.2.2)))))))))))))))))),())
 else
  some (t7.1,())
def Zpq(id0:Int):Option (Int×Unit):=
 (Qd id0).bind fun t4=>
 bif !t4.1 then
  some ((-1:Int),())
 else
  Zf (0≤(2:Int))<|
  some (id0.fdiv (2^ (min (2:Int).toNat IntKind.i64.bits)),())
def Zjn(a0:Kw)(index1:Int):Option (Kw×Int×Bool×Unit):=
 (We a0).bind fun t9=>
 bif((!t9.1)|| (decide (index1< (0:Int))))|| (decide (index1≥a0.2.1))then
  some (a0,(0:Int),false,())
 else
  let t27:Int:=max (0:Int) (IntKind.i64.wrap ((IntKind.i64.wrap (index1+1))-a0.2.2.1))
  some ((a0.1,(a0.2.1,(IntKind.i64.wrap (a0.2.2.1+t27),a0.2.2.2))),t27,true,())
abbrev Qdr:List PE:=[.box 0 37 (Zl) (.u true),.val 1 (.int .i64) (.u false),.val 6 (.int .i64) (.u false),.box 7 99 (Z2) (.u true)]
def Yv(K1: (Zg×Int×Int×Unit)→Option ((Unit)×(Zg×Unit)))(x0_2:Zg)(id1_2:Int)(i6_1:Int)(s7:Zn):Option ((Unit)×(Zg×Unit)):=
 (Xp x0_2.2.2.2.1 s7).bind fun t41=>
 K1 ((x0_2.1,(x0_2.2.1,(x0_2.2.2.1,(t41.1,x0_2.2.2.2.2)))),id1_2,IntKind.i64.wrap (i6_1-1),())
abbrev Qds:List PE:=[.box 0 37 (Zl) (.u true),.val 1 (.int .i64) (.u false),.val 6 (.int .i64) (.u false)]
def Zfv(x0_1:Zg)(id1_1:Int)(i6:Int):Nat:=(i6-0).toNat+2
def Q9:Nat→Zg→Int→Int→Option ((Unit)×(Zg×Unit))
 |0,_,_,_=>none
 |N+1,x0_1,id1_1,i6=>
  bif decide (i6≥(0:Int))then
   let t23:Int:=IntKind.i64.wrap (id1_1- (IntKind.i64.wrap ((4:Int)*i6)))
   Z5 (
    (Zbn x0_1.1 t23 x0_1.2.1 x0_1.2.2.1).bind fun t32=>
    Z5 (
     Z5 (
      Z5 (
       Yv (fun v=>Q9 N v.1 v.2.1 v.2.2.1) x0_1 id1_1 i6 t32.1
      ) (
       Ql 1 (
        Yv (fun v=>Q9 N v.1 v.2.1 v.2.2.1) x0_1 id1_1 i6 t32.1
       )
      )
     ) (
     Z5 (
      Ql 1 (
       Yv (fun v=>Q9 N v.1 v.2.1 v.2.2.1) x0_1 id1_1 i6 t32.1
      )
     ) (
      Z5 (
       Ql 1 (
        Yv (fun v=>Q9 N v.1 v.2.1 v.2.2.1) x0_1 id1_1 i6 t32.1
       )
      ) (
       Yv (fun v=>Q9 N v.1 v.2.1 v.2.2.1) x0_1 id1_1 i6 t32.1
      )
     )
     )
    ) (
     Z5 (
      Ql 1 (
       Yv (fun v=>Q9 N v.1 v.2.1 v.2.2.1) x0_1 id1_1 i6 t32.1
      )
     ) (
      Yv (fun v=>Q9 N v.1 v.2.1 v.2.2.1) x0_1 id1_1 i6 t32.1
     )
    )
   ) (
    (Zbn x0_1.1 t23 x0_1.2.1 x0_1.2.2.1).bind fun t32=>
    Z5 (
     Ql 1 (
      Yv (fun v=>Q9 N v.1 v.2.1 v.2.2.1) x0_1 id1_1 i6 t32.1
     )
    ) (
     Yv (fun v=>Q9 N v.1 v.2.1 v.2.2.1) x0_1 id1_1 i6 t32.1
    )
   )
  else
   some ((),(x0_1,()))
def Zl8(x0:Zg)(id1:Int)(n2:Int):Option ((Unit)×(Zg×Unit)):=
 Q9 (Zfv x0 id1 (IntKind.i64.wrap (n2-1))) x0 id1 (IntKind.i64.wrap (n2-1))
abbrev Zyy:List PE:=[.val 1 (.int .i64) (.u false),.box 4 37 (Zl) (.u true),.box 6 37 (Zl) (.p (.u false) (.p (.u false) (.p (.u false) (.p (.u true) (.p (.u false) (.p (.u false) (.p (.u false) (.p (.u false) (.p (.u false) (.p (.u false) (.u true))))))))))),.val 9 (.int .i64) (.u false)]
def Zbj(id1_3:Int)(t4_2:Zg)(x6_2:Zg)(n9_1:Int):Option (Zg×Int×Unit):=
 (Zl8 x6_2 id1_3 n9_1).bind fun t70=>
 some (t70.2.1,(0:Int),())
abbrev Zyx:List PE:=[.val 1 (.int .i64) (.u false),.box 2 37 (Zl) (.u false),.box 4 37 (Zl) (.u true),.box 6 37 (Zl) (.u true),.box 8 34 (Yb) (.u false),.val 9 (.int .i64) (.u false),.val 10 (.bool) (.u false)]
def Zp(id1_2:Int)(c2_1:Zg)(t4_1:Zg)(x6_1:Zg)(b8:Kw)(n9:Int)(is10:Bool):Option (Zg×Int×Unit):=
 bif((!is10)|| (n9==0))|| (decide ((IntKind.i64.wrap ((c2_1.2.2.2.1.length:Int)+n9))>24))then
  some (x6_1,(4:Int),())
 else
  (Va id1_2).bind fun t63=>
  bif t63.1 then
   Zbj id1_2 t4_1 (x6_1.1,(x6_1.2.1,(x6_1.2.2.1,(x6_1.2.2.2.1,(x6_1.2.2.2.2.1,(x6_1.2.2.2.2.2.1,(x6_1.2.2.2.2.2.2.1,(x6_1.2.2.2.2.2.2.2.1,(x6_1.2.2.2.2.2.2.2.2.1,(b8,x6_1.2.2.2.2.2.2.2.2.2.2)))))))))) n9
  else
   Zbj id1_2 t4_1 (x6_1.1,(x6_1.2.1,(x6_1.2.2.1,(x6_1.2.2.2.1,(x6_1.2.2.2.2.1,(x6_1.2.2.2.2.2.1,(x6_1.2.2.2.2.2.2.1,(x6_1.2.2.2.2.2.2.2.1,(b8,x6_1.2.2.2.2.2.2.2.2.2))))))))) n9
abbrev Zyw:List PE:=[.val 1 (.int .i64) (.u false),.box 2 37 (Zl) (.u false),.box 4 37 (Zl) (.u true),.box 6 37 (Zl) (.u true),.box 7 34 (Yb) (.u false)]
def Zbi(id1_1:Int)(c2:Zg)(t4:Zg)(x6:Zg)(a7:Kw):Option (Zg×Int×Unit):=
 Z5 (
  (Zpq id1_1).bind fun t42=>
  Z5 (
   (Zjn a7 t42.1).bind fun t43=>
   Z5 (
    Z5 (
     Z5 (
      Z5 (
       Zp id1_1 c2 t4 x6 t43.1 t43.2.1 t43.2.2.1
      ) (
       Ql 1 (
        Zp id1_1 c2 t4 x6 t43.1 t43.2.1 t43.2.2.1
       )
      )
     ) (
     Z5 (
      Z5 (
       Zp id1_1 c2 t4 x6 t43.1 t43.2.1 t43.2.2.1
      ) (
       Ql 1 (
        Zp id1_1 c2 t4 x6 t43.1 t43.2.1 t43.2.2.1
       )
      )
     ) (
      Ql 2 (
       Ql 1 (
        Zp id1_1 c2 t4 x6 t43.1 t43.2.1 t43.2.2.1
       )
      )
     )
     )
    ) (
    Z5 (
     Z5 (
      Z5 (
       Zp id1_1 c2 t4 x6 t43.1 t43.2.1 t43.2.2.1
      ) (
       Ql 1 (
        Zp id1_1 c2 t4 x6 t43.1 t43.2.1 t43.2.2.1
       )
      )
     ) (
     Z5 (
      Ql 1 (
       Zp id1_1 c2 t4 x6 t43.1 t43.2.1 t43.2.2.1
      )
     ) (
      Z5 (
       Ql 1 (
        Zp id1_1 c2 t4 x6 t43.1 t43.2.1 t43.2.2.1
       )
      ) (
       Zp id1_1 c2 t4 x6 t43.1 t43.2.1 t43.2.2.1
      )
     )
     )
    ) (
    Z5 (
     Z5 (
      Z5 (
       Zp id1_1 c2 t4 x6 t43.1 t43.2.1 t43.2.2.1
      ) (
       Ql 1 (
        Zp id1_1 c2 t4 x6 t43.1 t43.2.1 t43.2.2.1
       )
      )
     ) (
     Z5 (
      Ql 1 (
       Zp id1_1 c2 t4 x6 t43.1 t43.2.1 t43.2.2.1
      )
     ) (
      Z5 (
       Ql 1 (
        Zp id1_1 c2 t4 x6 t43.1 t43.2.1 t43.2.2.1
       )
      ) (
       Zp id1_1 c2 t4 x6 t43.1 t43.2.1 t43.2.2.1
      )
     )
     )
    ) (
     Z5 (
      Ql 2 (
       Ql 1 (
        Zp id1_1 c2 t4 x6 t43.1 t43.2.1 t43.2.2.1
       )
      )
     ) (
     Z5 (
      Z5 (
       Ql 1 (
        Zp id1_1 c2 t4 x6 t43.1 t43.2.1 t43.2.2.1
       )
      ) (
       Zp id1_1 c2 t4 x6 t43.1 t43.2.1 t43.2.2.1
      )
     ) (
      Z5 (
       Ql 1 (
        Zp id1_1 c2 t4 x6 t43.1 t43.2.1 t43.2.2.1
       )
      ) (
       Zp id1_1 c2 t4 x6 t43.1 t43.2.1 t43.2.2.1
      )
     )
     )
    )
    )
    )
   ) (
    Z5 (
     Ql 2 (
      Ql 1 (
       Zp id1_1 c2 t4 x6 t43.1 t43.2.1 t43.2.2.1
      )
     )
    ) (
    Z5 (
     Z5 (
      Ql 1 (
       Zp id1_1 c2 t4 x6 t43.1 t43.2.1 t43.2.2.1
      )
     ) (
      Zp id1_1 c2 t4 x6 t43.1 t43.2.1 t43.2.2.1
     )
    ) (
     Z5 (
      Ql 1 (
       Zp id1_1 c2 t4 x6 t43.1 t43.2.1 t43.2.2.1
      )
     ) (
      Zp id1_1 c2 t4 x6 t43.1 t43.2.1 t43.2.2.1
     )
    )
    )
   )
  ) (
   (Zjn a7 t42.1).bind fun t43=>
   Z5 (
    Ql 2 (
     Ql 1 (
      Zp id1_1 c2 t4 x6 t43.1 t43.2.1 t43.2.2.1
     )
    )
   ) (
   Z5 (
    Z5 (
     Ql 1 (
      Zp id1_1 c2 t4 x6 t43.1 t43.2.1 t43.2.2.1
     )
    ) (
     Zp id1_1 c2 t4 x6 t43.1 t43.2.1 t43.2.2.1
    )
   ) (
    Z5 (
     Ql 1 (
      Zp id1_1 c2 t4 x6 t43.1 t43.2.1 t43.2.2.1
     )
    ) (
     Zp id1_1 c2 t4 x6 t43.1 t43.2.1 t43.2.2.1
    )
   )
   )
  )
 ) (
  (Zpq id1_1).bind fun t42=>
  (Zjn a7 t42.1).bind fun t43=>
  Z5 (
   Ql 2 (
    Ql 1 (
     Zp id1_1 c2 t4 x6 t43.1 t43.2.1 t43.2.2.1
    )
   )
  ) (
  Z5 (
   Z5 (
    Ql 1 (
     Zp id1_1 c2 t4 x6 t43.1 t43.2.1 t43.2.2.1
    )
   ) (
    Zp id1_1 c2 t4 x6 t43.1 t43.2.1 t43.2.2.1
   )
  ) (
   Z5 (
    Ql 1 (
     Zp id1_1 c2 t4 x6 t43.1 t43.2.1 t43.2.2.1
    )
   ) (
    Zp id1_1 c2 t4 x6 t43.1 t43.2.1 t43.2.2.1
   )
  )
  )
 )
def Wd(c0:Zg)(id1:Int):Option (Zg×Int×Unit):=
 (Zw c0).bind fun t12=>
 (Z6 c0).bind fun t14=>
 (bif(!t14.1)then some (false,())else(Qd id1)).bind fun t18=>
 bif(!t14.1)|| (!t18.1)then
  some (t12.1,(7:Int),())
 else
  (Ze6 c0.2.2.2.1 id1).bind fun t25=>
  bif decide (t25.1≥(0:Int))then
   some (t12.1,(0:Int),())
  else
   (Zd5 c0.1 id1).bind fun t31=>
   bif t31.1 then
    some (t12.1,(5:Int),())
   else
    (Va id1).bind fun t36=>
    bif t36.1 then
     Zbi id1 c0 Wj t12.1 c0.2.2.2.2.2.2.2.2.2.1
    else
     Zbi id1 c0 Wj t12.1 c0.2.2.2.2.2.2.2.2.1
def Zp7(r0:Qh)(end1:Int)(final2:Bool):Option (Int×Unit):=
 bif((r0.2.2.1 !=(-1:Int))&& ((decide (end1>r0.2.2.1))|| (final2&& (end1 !=r0.2.2.1))))|| (final2&& (decide (end1<r0.2.2.2.1)))then
  some ((6:Int),())
 else
  some ((0:Int),())
abbrev Zyq:List PE:=[.box 1 93 (Ye) (.u false),.val 3 (.slice 124 (Zr)) (.u true),.val 4 (.int .i64) (.u false)]
def W4(b1:Z4)(out3:List Zd)(i4:Int):Nat:=((b1.2.1.length:Int)-i4).toNat+1
def Y2:Nat→Z4→List Zd→Int→Option (List Zd×Unit)
 |0,_,_,_=>none
 |N+1,b1,out3,i4=>
  (bif(decide (i4< (b1.2.1.length:Int)))then(Zc9 b1)else some (false,())).bind fun t13=>
  bif(decide (i4< (b1.2.1.length:Int)))&&t13.1 then
   Zf (0≤i4∧i4<b1.2.1.length)<|
   Zf (0≤i4∧i4<b1.2.1.length)<|
   Zf (0≤i4∧i4<b1.2.1.length)<|
   let t39:List Zd:=[((b1.2.1.getD i4.toNat Qp).1,(IntKind.i64.wrap ((b1.2.1.getD i4.toNat Qp).1+ ((b1.2.1.getD i4.toNat Qp).2.1.length:Int)),()))]
   Zf (out3.length+t39.length≤Qv)<|
   Y2 N b1 (out3++t39) (IntKind.i64.wrap (i4+1))
  else
   some (out3,())
def Zj9(b0:Z4):Option (List Zd×Unit):=
 Y2 (W4 b0 ([]:List Zd) (0:Int)) b0 ([]:List Zd) (0:Int)
abbrev Qhw:List PE:=[.val 1 (.int .i64) (.u false),.box 2 93 (Ye) (.u false),.val 5 (.int .i64) (.u false)]
def Zmo(offset1_1:Int)(b2:Z4)(i5:Int):Nat:=((b2.2.1.length:Int)-i5).toNat+1
def Zgz:Nat→Int→Z4→Int→Option (Int×Unit)
 |0,_,_,_=>none
 |N+1,offset1_1,b2,i5=>
  bif decide (i5< (b2.2.1.length:Int))then
   Zf (0≤i5∧i5<b2.2.1.length)<|
   let t21:Int:=IntKind.i64.wrap (offset1_1- (b2.2.1.getD i5.toNat Qp).1)
   Zf (((decide (offset1_1≥(0:Int)))=true→(0≤i5∧i5<b2.2.1.length)))<|
   let t36:Bool:=((decide (offset1_1≥(0:Int)))&& (decide ((b2.2.1.getD i5.toNat Qp).1≥(0:Int))))&& (decide (t21≥(0:Int)))
   Zf ((t36=true→(0≤i5∧i5<b2.2.1.length)))<|
   bif t36&& (decide (t21< ((b2.2.1.getD i5.toNat Qp).2.1.length:Int)))then
    Zf (0≤i5∧i5<b2.2.1.length)<|
    Zf (0≤t21∧t21< (b2.2.1.getD i5.toNat Qp).2.1.length)<|
    some (IntKind.i64.wrap (((b2.2.1.getD i5.toNat Qp).2.1.getD t21.toNat 0).toNat:Int),())
   else
    Zgz N offset1_1 b2 (IntKind.i64.wrap (i5+1))
  else
   some ((-1:Int),())
def Zvp(b0:Z4)(offset1:Int):Option (Int×Unit):=
 Zgz (Zmo offset1 b0 (0:Int)) offset1 b0 (0:Int)
abbrev Z2m:List PE:=[.val 1 (.int .i64) (.u false),.val 2 (.str) (.u false),.box 3 93 (Ye) (.u false),.box 6 93 (Ye) (.u true),.box 9 93 (Ye) (.p (.u false) (.u true)),.val 10 (.slice 124 (Zr)) (.u true),.val 11 (.int .i64) (.u false),.val 12 (.str) (.u false),.val 13 (.int .i64) (.u false),.val 14 (.int .i64) (.u false)]
def Zd3(K1: (Int×List UInt8×Z4×Z4×Z4×List Zd×Int×Unit)→Option (Z4×Unit))(K2: (Int×List UInt8×Z4×Z4×Z4×List Zd×Int×List UInt8×Int×Unit)→Option (Z4×Unit))(offset1_3:Int)(data2_3:List UInt8)(b3_2:Z4)(t6_2:Z4)(x9_2:Z4)(l10_2:List Zd)(i11_2:Int)(s12_2:List UInt8)(at13_1:Int)(v14:Int):Option (Z4×Unit):=
 (Zot v14).bind fun t90=>
 Zf (s12_2.length+t90.1.length≤W9)<|
 K2 (offset1_3,data2_3,b3_2,t6_2,x9_2,l10_2,i11_2,s12_2++t90.1,IntKind.i64.wrap (at13_1+1),())
abbrev Z2o:List PE:=[.val 1 (.int .i64) (.u false),.val 2 (.str) (.u false),.box 3 93 (Ye) (.u false),.box 6 93 (Ye) (.u true),.box 9 93 (Ye) (.p (.u false) (.u true)),.val 10 (.slice 124 (Zr)) (.u true),.val 11 (.int .i64) (.u false),.val 12 (.str) (.u false),.val 13 (.int .i64) (.u false)]
def Zb0(offset1_2:Int)(data2_2:List UInt8)(b3_1:Z4)(t6_1:Z4)(x9_1:Z4)(l10_1:List Zd)(i11_1:Int)(s12_1:List UInt8)(at13:Int):Nat:=((l10_1.getD i11_1.toNat Zx).2.1-at13).toNat+1
def K5(K1: (Int×List UInt8×Z4×Z4×Z4×List Zd×Int×Unit)→Option (Z4×Unit)):Nat→Int→List UInt8→Z4→Z4→Z4→List Zd→Int→List UInt8→Int→Option (Z4×Unit)
 |0,_,_,_,_,_,_,_,_,_=>none
 |N+1,offset1_2,data2_2,b3_1,t6_1,x9_1,l10_1,i11_1,s12_1,at13=>
  Zf (0≤i11_1∧i11_1<l10_1.length)<|
  bif decide (at13< (l10_1.getD i11_1.toNat Zx).2.1)then
   (Zvp b3_1 at13).bind fun t79=>
   bif decide (t79.1< (0:Int))then
    Zf (0≤(IntKind.i64.wrap (at13-offset1_2))∧(IntKind.i64.wrap (at13-offset1_2))<data2_2.length)<|
    Zd3 K1 (fun v=>K5 K1 N v.1 v.2.1 v.2.2.1 v.2.2.2.1 v.2.2.2.2.1 v.2.2.2.2.2.1 v.2.2.2.2.2.2.1 v.2.2.2.2.2.2.2.1 v.2.2.2.2.2.2.2.2.1) offset1_2 data2_2 b3_1 t6_1 x9_1 l10_1 i11_1 s12_1 at13 (IntKind.i64.wrap ((data2_2.getD (IntKind.i64.wrap (at13-offset1_2)).toNat 0).toNat:Int))
   else
    Zd3 K1 (fun v=>K5 K1 N v.1 v.2.1 v.2.2.1 v.2.2.2.1 v.2.2.2.2.1 v.2.2.2.2.2.1 v.2.2.2.2.2.2.1 v.2.2.2.2.2.2.2.1 v.2.2.2.2.2.2.2.2.1) offset1_2 data2_2 b3_1 t6_1 x9_1 l10_1 i11_1 s12_1 at13 t79.1
  else
   Zf (0≤i11_1∧i11_1<l10_1.length)<|
   let t101:List Zy:=[((l10_1.getD i11_1.toNat Zx).1,(s12_1,()))]
   Zf (x9_1.2.1.length+t101.length≤Qv)<|
   K1 (offset1_2,data2_2,b3_1,t6_1,(x9_1.1,(x9_1.2.1++t101,x9_1.2.2)),l10_1,IntKind.i64.wrap (i11_1+1),())
abbrev Z2n:List PE:=[.val 1 (.int .i64) (.u false),.val 2 (.str) (.u false),.box 3 93 (Ye) (.u false),.box 6 93 (Ye) (.u true),.box 9 93 (Ye) (.p (.u false) (.u true)),.val 10 (.slice 124 (Zr)) (.u true),.val 11 (.int .i64) (.u false)]
def Zbz(offset1_1:Int)(data2_1:List UInt8)(b3:Z4)(t6:Z4)(x9:Z4)(l10:List Zd)(i11:Int):Nat:=((l10.length:Int)-i11).toNat+1
def Zav:Nat→Int→List UInt8→Z4→Z4→Z4→List Zd→Int→Option (Z4×Unit)
 |0,_,_,_,_,_,_,_=>none
 |N+1,offset1_1,data2_1,b3,t6,x9,l10,i11=>
  bif decide (i11< (l10.length:Int))then
   Zf (0≤i11∧i11<l10.length)<|
   K5 (fun v=>Zav N v.1 v.2.1 v.2.2.1 v.2.2.2.1 v.2.2.2.2.1 v.2.2.2.2.2.1 v.2.2.2.2.2.2.1) (Zb0 offset1_1 data2_1 b3 t6 x9 l10 i11 ([]:List UInt8) (l10.getD i11.toNat Zx).1) offset1_1 data2_1 b3 t6 x9 l10 i11 ([]:List UInt8) (l10.getD i11.toNat Zx).1
  else
   some (x9,())
def Znn(b0:Z4)(offset1:Int)(data2:List UInt8):Option (Z4×Unit):=
 (Zc9 b0).bind fun t16=>
 bif(((!t16.1)|| (data2==([]:List UInt8)))|| (decide (offset1< (0:Int))))|| (decide (offset1>(IntKind.i64.wrap ((4611686018427387903:Int)- (data2.length:Int)))))then
  (Zh8 b0).bind fun t34=>
  some (t34.1,())
 else
  let t42:Int:=IntKind.i64.wrap (offset1+ (data2.length:Int))
  bif decide ((max offset1 b0.1)≥t42)then
   (Zh8 b0).bind fun t47=>
   some (t47.1,())
  else
   (Zj9 b0).bind fun t52=>
   (Jb t52.1 (max offset1 b0.1,(t42,()))).bind fun t56=>
   Zav (Zbz offset1 data2 b0 ((0:Int),(([]:List Zy),())) (b0.1,(([]:List Zy),())) t56.1 (0:Int)) offset1 data2 b0 ((0:Int),(([]:List Zy),())) (b0.1,(([]:List Zy),())) t56.1 (0:Int)
abbrev Z0k:List PE:=[.box 8 95 (Q5) (.u true),.box 10 95 (Q5) (.p (.u false) (.p (.u true) (.u false)))]
def Zgf(t8_1:Qh)(x10_1:Qh):Option (Qh×Int×Unit):=
 some (x10_1,(0:Int),())
abbrev Z0j:List PE:=[.val 1 (.int .i64) (.u false),.val 2 (.str) (.u false),.box 4 95 (Q5) (.u false),.box 8 95 (Q5) (.u true),.box 10 95 (Q5) (.p (.u false) (.p (.u true) (.u false)))]
def Zcq(offset1_1:Int)(data2_1:List UInt8)(r4:Qh)(t8:Qh)(x10:Qh):Option (Qh×Int×Unit):=
 (Znn r4.2.1 offset1_1 data2_1).bind fun t60=>
 (bif(x10.2.2.1 !=(-1:Int))then(Wv t60.1)else some ((0:Int),())).bind fun t71=>
 bif(x10.2.2.1 !=(-1:Int))&& ((IntKind.i64.wrap (t60.1.1+t71.1))==x10.2.2.1)then
  Zgf t8 ((2:Int),(t60.1,x10.2.2))
 else
  Zgf t8 (x10.1,(t60.1,x10.2.2))
def Zl4(r0:Qh)(offset1:Int)(data2:List UInt8)(fin3:Bool):Option (Qh×Int×Unit):=
 (Zlm r0).bind fun t14=>
 (Yh r0).bind fun t16=>
 bif((!t16.1)|| (decide (offset1< (0:Int))))|| (decide (offset1>(IntKind.i64.wrap ((4611686018427387903:Int)- (data2.length:Int)))))then
  some (t14.1,(7:Int),())
 else
  let t33:Int:=IntKind.i64.wrap (offset1+ (data2.length:Int))
  (Zp7 r0 t33 fin3).bind fun t37=>
  bif(t37.1 !=0)|| (decide (r0.1>(1:Int)))then
   some (t14.1,t37.1,())
  else
   bif fin3 then
    Zcq offset1 data2 r0 Z3u ((1:Int),(t14.1.2.1,(t33,(max r0.2.2.2.1 t33,t14.1.2.2.2.2))))
   else
    Zcq offset1 data2 r0 Z3u (t14.1.1,(t14.1.2.1,(t14.1.2.2.1,(max r0.2.2.2.1 t33,t14.1.2.2.2.2))))
def Zrc(r0:Qh)(end1:Int):Option (Int×Unit):=
 (Yh r0).bind fun t6=>
 (bif(!t6.1)then some (false,())else(Qd end1)).bind fun t10=>
 bif(!t6.1)|| (!t10.1)then
  some ((0:Int),())
 else
  some (max (0:Int) (IntKind.i64.wrap (end1-r0.2.2.2.1)),())
def Zm6(w0:Jq)(n1:Int):Option (Jq×Bool×Unit):=
 (J5 w0).bind fun t7=>
 bif((!t7.1)|| (decide (n1< (0:Int))))|| (decide (n1>(IntKind.i64.wrap (w0.2.2.1-w0.2.2.2.1))))then
  some (w0,false,())
 else
  some ((w0.1,(w0.2.1,(w0.2.2.1,(IntKind.i64.wrap (w0.2.2.2.1+n1),w0.2.2.2.2)))),true,())
def Zpz(x0:Zg)(s1:Zn)(end2:Int):Option ((Int×Unit)×(Zg×Zn×Unit)):=
 (Zrc s1.2.2.2.1 end2).bind fun t17=>
 bif t17.1==0 then
  some (((0:Int),()),(x0,(s1,())))
 else
  (Zm6 s1.2.2.2.2.1 t17.1).bind fun t26=>
  (Zm6 x0.2.2.2.2.2.1 t17.1).bind fun t35=>
  bif(!t26.2.1)|| (!t35.2.1)then
   some (((3:Int),()),(x0,(s1,())))
  else
   some (((0:Int),()),((x0.1,(x0.2.1,(x0.2.2.1,(x0.2.2.2.1,(x0.2.2.2.2.1,(t35.1,x0.2.2.2.2.2.2)))))),((s1.1,(s1.2.1,(s1.2.2.1,(s1.2.2.2.1,(t26.1,s1.2.2.2.2.2))))),())))
def Znl(c0:Zg)(f1:Zh):Option ((Zg×Int×Unit)×(Unit)):=
 (Z6 c0).bind fun t13=>
 (bif(!t13.1)then some (false,())else(J9 f1)).bind fun t17=>
 bif((!t13.1)|| (!t17.1))|| (f1.1 !=8)then
  (Zw c0).bind fun t26=>
  some ((t26.1,((7:Int),())),())
 else
  (Jr c0.1 f1.2.1).bind fun t31=>
  bif !t31.1 then
   (Zw c0).bind fun t34=>
   some ((t34.1,((5:Int),())),())
  else
   (Wd c0 f1.2.1).bind fun t39=>
   bif t39.2.1 !=0 then
    (Zw c0).bind fun t45=>
    some ((t45.1,(t39.2.1,())),())
   else
    (Qu t39.1 f1.2.1).bind fun t51=>
    (Zl4 t51.1.2.2.2.1 f1.2.2.1 f1.2.2.2.1 f1.2.2.2.2.1).bind fun t63=>
    (Zpz t39.1 t51.1 (IntKind.i64.wrap (f1.2.2.1+ (f1.2.2.2.1.length:Int)))).bind fun t72=>
    bif t72.1.1 !=0 then
     (Zw c0).bind fun t76=>
     some ((t76.1,(t72.1.1,())),())
    else
     bif t63.2.1 !=0 then
      (Zw c0).bind fun t81=>
      some ((t81.1,(t63.2.1,())),())
     else
      (Zc1 t72.2.1 (t72.2.2.1.1,(t72.2.2.1.2.1,(t72.2.2.1.2.2.1,(t63.1,t72.2.2.1.2.2.2.2))))).bind fun t86=>
      some ((t86.2.1,((0:Int),())),())
def Zke(r0:Qh)(code1:Int)(final2:Int):Option (Qh×Int×Unit):=
 (Zlm r0).bind fun t11=>
 (Yh r0).bind fun t13=>
 (bif(!t13.1)then some (false,())else(Qd code1)).bind fun t17=>
 (bif((!t13.1)|| (!t17.1))then some (false,())else(Qd final2)).bind fun t22=>
 bif((!t13.1)|| (!t17.1))|| (!t22.1)then
  some (t11.1,(7:Int),())
 else
  (Zp7 r0 final2 true).bind fun t28=>
  bif(t28.1 !=0)|| (decide (r0.1>(1:Int)))then
   some (t11.1,t28.1,())
  else
   some (((4:Int),((r0.2.1.1,(([]:List Zy),())),(final2,(final2,(code1,()))))),(0:Int),())
abbrev Z0h:List PE:=[.box 4 37 (Zl) (.u true),.box 6 37 (Zl) (.u false),.box 8 99 (Z2) (.u false),.box 10 95 (Q5) (.u true)]
def Zcp(t4:Zg)(x6:Zg)(s8:Zn)(r10:Qh):Option ((Zg×Int×Unit)×(Unit)):=
 (Zc1 x6 (s8.1,(s8.2.1,(s8.2.2.1,(r10,s8.2.2.2.2))))).bind fun t92=>
 some ((t92.2.1,((0:Int),())),())
def Zl2(c0:Zg)(f1:Zh):Option ((Zg×Int×Unit)×(Unit)):=
 (Z6 c0).bind fun t13=>
 (bif(!t13.1)then some (false,())else(J9 f1)).bind fun t17=>
 bif((!t13.1)|| (!t17.1))|| (f1.1 !=4)then
  (Zw c0).bind fun t26=>
  some ((t26.1,((7:Int),())),())
 else
  (Jr c0.1 f1.2.1).bind fun t31=>
  bif !t31.1 then
   (Zw c0).bind fun t34=>
   some ((t34.1,((5:Int),())),())
  else
   (Wd c0 f1.2.1).bind fun t39=>
   bif t39.2.1 !=0 then
    (Zw c0).bind fun t45=>
    some ((t45.1,(t39.2.1,())),())
   else
    (Qu t39.1 f1.2.1).bind fun t51=>
    (Zke t51.1.2.2.2.1 f1.2.2.2.2.2.1 f1.2.2.2.2.2.2.2.1).bind fun t61=>
    (Zpz t39.1 t51.1 f1.2.2.2.2.2.2.2.1).bind fun t66=>
    bif t66.1.1 !=0 then
     (Zw c0).bind fun t70=>
     some ((t70.1,(t66.1.1,())),())
    else
     bif t61.2.1 !=0 then
      (Zw c0).bind fun t75=>
      some ((t75.1,(t61.2.1,())),())
     else
      bif(t61.1.1==4)&& (t66.2.2.1.2.2.2.1.1 !=4)then
       (Zp0 t66.2.1 t66.2.2.1 f1.2.2.2.2.2.2.2.1).bind fun t88=>
       Zcp Wj t88.2.1 t88.2.2.1 t61.1
      else
       Zcp Wj t66.2.1 t66.2.2.1 t61.1
abbrev Z2l:List PE:=[.box 4 37 (Zl) (.u true),.box 6 37 (Zl) (.u true),.box 8 99 (Z2) (.p (.u false) (.p (.u true) (.p (.u false) (.p (.u true) (.u false)))))]
def Zd2(t4:Zg)(x6:Zg)(s8:Zn):Option ((Zg×Int×Unit)×(Unit)):=
 (Zc1 x6 s8).bind fun t67=>
 some ((t67.2.1,((0:Int),())),())
def Znm(c0:Zg)(f1:Zh):Option ((Zg×Int×Unit)×(Unit)):=
 (Z6 c0).bind fun t13=>
 (bif(!t13.1)then some (false,())else(J9 f1)).bind fun t17=>
 bif((!t13.1)|| (!t17.1))|| (f1.1 !=5)then
  (Zw c0).bind fun t26=>
  some ((t26.1,((7:Int),())),())
 else
  (Zdu c0.1 f1.2.1).bind fun t31=>
  bif !t31.1 then
   (Zw c0).bind fun t34=>
   some ((t34.1,((5:Int),())),())
  else
   (Wd c0 f1.2.1).bind fun t39=>
   bif t39.2.1 !=0 then
    (Zw c0).bind fun t45=>
    some ((t45.1,(t39.2.1,())),())
   else
    (Qu t39.1 f1.2.1).bind fun t51=>
    (Zhk t51.1.2.1 f1.2.2.2.2.2.1).bind fun t59=>
    bif t59.2.1 then
     Zd2 Wj t39.1 (t51.1.1,(t59.1,(t51.1.2.2.1,(t51.1.2.2.2.1,(t51.1.2.2.2.2.1,(t51.1.2.2.2.2.2.1,(t51.1.2.2.2.2.2.2.1,(t51.1.2.2.2.2.2.2.2.1,(true,t51.1.2.2.2.2.2.2.2.2.2)))))))))
    else
     Zd2 Wj t39.1 t51.1
def Zi7(c0:Kw)(limit1:Int):Option (Kw×Unit):=
 (Y0 c0).bind fun t6=>
 (bif(!t6.1)then some (false,())else(Qd limit1)).bind fun t10=>
 bif((!t6.1)|| (!t10.1))|| (decide (limit1≤c0.1))then
  some (c0,())
 else
  some ((limit1,(c0.2.1,((-1:Int),c0.2.2.2))),())
def Zi6(c0:Zjp)(limit1:Int):Option (Zjp×Unit):=
 (Za5 c0).bind fun t6=>
 bif((!t6.1)|| (decide (limit1≤c0.1)))|| (decide (limit1>(1152921504606846976:Int)))then
  some (c0,())
 else
  some ((limit1,(c0.2.1,((-1:Int),c0.2.2.2))),())
abbrev Z9v:List PE:=[.box 4 37 (Zl) (.u true),.box 7 37 (Zl) (.p (.u false) (.p (.u false) (.p (.u false) (.u true))))]
def Zl9(t4_1:Zg)(x7:Zg):Option (Zg×Int×Unit):=
 some (x7,(0:Int),())
abbrev Z9u:List PE:=[.box 2 37 (Zl) (.u false),.box 3 115 (Zt) (.u false),.box 4 37 (Zl) (.u true),.val 6 (.bool) (.u false)]
def Zhp(c2:Zg)(f3:Zh)(t4:Zg)(fine6:Bool):Option (Zg×Int×Unit):=
 bif !fine6 then
  (Zw c2).bind fun t27=>
  some (t27.1,(5:Int),())
 else
  (Wd c2 f3.2.1).bind fun t32=>
  bif t32.2.1 !=0 then
   (Zw c2).bind fun t38=>
   some (t38.1,t32.2.1,())
  else
   bif f3.1==17 then
    (Qu t32.1 f3.2.1).bind fun t47=>
    (Zi7 t47.1.2.2.1 f3.2.2.2.2.2.2.1).bind fun t54=>
    (Xp t32.1.2.2.2.1 (t47.1.1,(t47.1.2.1,(t54.1,t47.1.2.2.2)))).bind fun t59=>
    Zl9 t4 (t32.1.1,(t32.1.2.1,(t32.1.2.2.1,(t59.1,t32.1.2.2.2.2))))
   else
    Zl9 t4 t32.1
def Zrj(c0:Zg)(f1:Zh):Option (Zg×Int×Unit):=
 (Zdu c0.1 f1.2.1).bind fun t15=>
 bif f1.1==21 then
  (Jr c0.1 f1.2.1).bind fun t23=>
  Zhp c0 f1 Wj t23.1
 else
  Zhp c0 f1 Wj t15.1
abbrev Z0e:List PE:=[.box 4 37 (Zl) (.u true),.box 6 37 (Zl) (.p (.u false) (.p (.u false) (.p (.u false) (.p (.u true) (.p (.u false) (.p (.u false) (.p (.u false) (.p (.u false) (.u true)))))))))]
def Zgd(t4:Zg)(x6:Zg):Option (Zg×Int×Unit):=
 some (x6,(0:Int),())
abbrev Z0g:List PE:=[.box 2 37 (Zl) (.u false),.box 3 115 (Zt) (.u false),.box 4 37 (Zl) (.u true),.box 6 37 (Zl) (.u true),.val 52 (.bool) (.u false)]
def Zco(c2_1:Zg)(f3_1:Zh)(t4_2:Zg)(x6_2:Zg)(t52:Bool):Option (Zg×Int×Unit):=
 bif t52 then
  (Zrj c2_1 f3_1).bind fun t58=>
  some (t58.1,t58.2.1,())
 else
  some (x6_2,(7:Int),())
abbrev Z0f:List PE:=[.box 2 37 (Zl) (.u false),.box 3 115 (Zt) (.u false),.box 4 37 (Zl) (.u true),.box 6 37 (Zl) (.u true),.val 21 (.int .i64) (.u false),.val 48 (.bool) (.u false)]
def Zcn(c2:Zg)(f3:Zh)(t4_1:Zg)(x6_1:Zg)(t21:Int)(t48:Bool):Option (Zg×Int×Unit):=
 bif t48 then
  some (x6_1,(0:Int),())
 else
  bif t21==17 then
   Zco c2 f3 t4_1 x6_1 (t21==17)
  else
   Zco c2 f3 t4_1 x6_1 (t21==21)
def Zl1(c0:Zg)(f1:Zh):Option (Zg×Int×Unit):=
 (Zw c0).bind fun t10=>
 (Z6 c0).bind fun t12=>
 (bif(!t12.1)then some (false,())else(J9 f1)).bind fun t16=>
 bif(!t12.1)|| (!t16.1)then
  some (t10.1,(7:Int),())
 else
  bif f1.1==16 then
   (Zi7 c0.2.2.2.2.1 f1.2.2.2.2.2.2.1).bind fun t28=>
   some ((t10.1.1,(t10.1.2.1,(t10.1.2.2.1,(t10.1.2.2.2.1,(t28.1,t10.1.2.2.2.2.2))))),(0:Int),())
  else
   bif f1.1==18 then
    bif f1.2.2.2.2.2.2.2.2.1 then
     (Zi6 c0.2.2.2.2.2.2.2.1 f1.2.2.2.2.2.2.1).bind fun t39=>
     Zgd Wj (t10.1.1,(t10.1.2.1,(t10.1.2.2.1,(t10.1.2.2.2.1,(t10.1.2.2.2.2.1,(t10.1.2.2.2.2.2.1,(t10.1.2.2.2.2.2.2.1,(t39.1,t10.1.2.2.2.2.2.2.2.2))))))))
    else
     (Zi6 c0.2.2.2.2.2.2.1 f1.2.2.2.2.2.2.1).bind fun t45=>
     Zgd Wj (t10.1.1,(t10.1.2.1,(t10.1.2.2.1,(t10.1.2.2.2.1,(t10.1.2.2.2.2.1,(t10.1.2.2.2.2.2.1,(t45.1,t10.1.2.2.2.2.2.2.2)))))))
   else
    bif f1.1==20 then
     Zcn c0 f1 Wj t10.1 f1.1 (f1.1==20)
    else
     Zcn c0 f1 Wj t10.1 f1.1 (f1.1==22)
abbrev Z0d:List PE:=[.box 4 37 (Zl) (.u true),.box 6 37 (Zl) (.p (.u true) (.p (.p (.u true) (.p (.u true) (.p (.u true) (.p (.u true) (.p (.u true) (.p (.u true) (.p (.u true) (.p (.u true) (.u true))))))))) (.p (.p (.u true) (.p (.u true) (.p (.u true) (.p (.u true) (.p (.u true) (.p (.u true) (.p (.u true) (.p (.u true) (.u true))))))))) (.p (.u false) (.p (.p (.u true) (.p (.u true) (.p (.u true) (.p (.u true) (.u true))))) (.p (.p (.u true) (.p (.u true) (.p (.u true) (.p (.u true) (.p (.u true) (.p (.u true) (.u true))))))) (.p (.p (.u true) (.p (.u true) (.p (.u true) (.u true)))) (.p (.p (.u true) (.p (.u true) (.p (.u true) (.u true)))) (.p (.p (.u true) (.p (.u true) (.p (.u true) (.p (.u true) (.u true))))) (.p (.p (.u true) (.p (.u true) (.p (.u true) (.p (.u true) (.u true))))) (.p (.u true) (.p (.u true) (.p (.u true) (.p (.u true) (.p (.u true) (.p (.u false) (.p (.u true) (.p (.u true) (.u true))))))))))))))))))),.val 7 (.int .i64) (.u false)]
def Wn(t4:Zg)(x6:Zg)(e7:Int):Option ((Zg×Int×Unit)×(Unit)):=
 some ((x6,(e7,())),())
def Zg5(c0:Zg)(f1:Zh):Option ((Zg×Int×Unit)×(Unit)):=
 (Zw c0).bind fun t9=>
 bif f1.1==8 then
  (Znl c0 f1).bind fun t23=>
  Wn Wj t23.1.1 t23.1.2.1
 else
  bif f1.1==4 then
   (Zl2 c0 f1).bind fun t31=>
   Wn Wj t31.1.1 t31.1.2.1
  else
   bif f1.1==5 then
    (Znm c0 f1).bind fun t39=>
    Wn Wj t39.1.1 t39.1.2.1
   else
    (Zl1 c0 f1).bind fun t15=>
    Wn Wj t15.1 t15.2.1
abbrev Zw9:List PE:=[.box 4 37 (Zl) (.u true),.box 6 37 (Zl) (.u false),.val 7 (.slice 115 (Zt)) (.u true),.val 9 (.int .i64) (.u false),.box 10 37 (Zl) (.u false),.val 11 (.int .i64) (.u false)]
def Xd(K1: (Zg×Zg×List Zh×Int×Unit)→Option ((Zg×Int×Unit)×(Unit)))(t4_1:Zg)(x6_1:Zg)(l7_1:List Zh)(i9_1:Int)(y10:Zg)(e11:Int):Option ((Zg×Int×Unit)×(Unit)):=
 bif e11 !=0 then
  (Zky x6_1 e11).bind fun t52=>
  some ((t52.1,(e11,())),())
 else
  K1 (t4_1,y10,l7_1,IntKind.i64.wrap (i9_1+1),())
abbrev Zxa:List PE:=[.box 4 37 (Zl) (.u true),.box 6 37 (Zl) (.u false),.val 7 (.slice 115 (Zt)) (.u true),.val 9 (.int .i64) (.u false)]
def Zd1(t4:Zg)(x6:Zg)(l7:List Zh)(i9:Int):Nat:=((l7.length:Int)-i9).toNat+1
def Qt:Nat→Zg→Zg→List Zh→Int→Option ((Zg×Int×Unit)×(Unit))
 |0,_,_,_,_=>none
 |N+1,t4,x6,l7,i9=>
  bif decide (i9< (l7.length:Int))then
   Zf (0≤i9∧i9<l7.length)<|
   Z5 (
    (Zg5 x6 (l7.getD i9.toNat Xr)).bind fun t45=>
    Z5 (
     Z5 (
      Z5 (
       Xd (fun v=>Qt N v.1 v.2.1 v.2.2.1 v.2.2.2.1) t4 x6 l7 i9 t45.1.1 t45.1.2.1
      ) (
       Ql 1 (
        Xd (fun v=>Qt N v.1 v.2.1 v.2.2.1 v.2.2.2.1) t4 x6 l7 i9 t45.1.1 t45.1.2.1
       )
      )
     ) (
     Z5 (
      Ql 1 (
       Xd (fun v=>Qt N v.1 v.2.1 v.2.2.1 v.2.2.2.1) t4 x6 l7 i9 t45.1.1 t45.1.2.1
      )
     ) (
      Z5 (
       Ql 1 (
        Xd (fun v=>Qt N v.1 v.2.1 v.2.2.1 v.2.2.2.1) t4 x6 l7 i9 t45.1.1 t45.1.2.1
       )
      ) (
       Xd (fun v=>Qt N v.1 v.2.1 v.2.2.1 v.2.2.2.1) t4 x6 l7 i9 t45.1.1 t45.1.2.1
      )
     )
     )
    ) (
     Z5 (
      Ql 1 (
       Xd (fun v=>Qt N v.1 v.2.1 v.2.2.1 v.2.2.2.1) t4 x6 l7 i9 t45.1.1 t45.1.2.1
      )
     ) (
      Xd (fun v=>Qt N v.1 v.2.1 v.2.2.1 v.2.2.2.1) t4 x6 l7 i9 t45.1.1 t45.1.2.1
     )
    )
   ) (
    (Zg5 x6 (l7.getD i9.toNat Xr)).bind fun t45=>
    Z5 (
     Ql 1 (
      Xd (fun v=>Qt N v.1 v.2.1 v.2.2.1 v.2.2.2.1) t4 x6 l7 i9 t45.1.1 t45.1.2.1
     )
    ) (
     Xd (fun v=>Qt N v.1 v.2.1 v.2.2.1 v.2.2.2.1) t4 x6 l7 i9 t45.1.1 t45.1.2.1
    )
   )
  else
   some ((x6,((0:Int),())),())
def Vj(c0:Zg)(payload1:List UInt8):Option ((Zg×Int×Unit)×(Unit)):=
 (Zw c0).bind fun t13=>
 (Z6 c0).bind fun t15=>
 (bif(!t15.1)then some (false,())else(V7 c0)).bind fun t19=>
 bif(!t15.1)||t19.1 then
  some ((t13.1,(c0.2.2.2.2.2.2.2.2.2.2.2.2.2.2.2.2.2.1,())),())
 else
  (Zif payload1).bind fun t26=>
  bif !t26.2.1 then
   (Zky t13.1 (7:Int)).bind fun t32=>
   some ((t32.1,((7:Int),())),())
  else
   Qt (Zd1 Wj t13.1 t26.1 (0:Int)) Wj t13.1 t26.1 (0:Int)
def Zrf(c0:Zg)(n1:Int):Option (Zg×Bool×Unit):=
 (Zw c0).bind fun t8=>
 (Yr c0).bind fun t10=>
 (bif(!t10.1)then some (false,())else(Zu n1 (1:Int) (1000:Int))).bind fun t14=>
 bif((!t10.1)|| (!t14.1))|| (decide ((IntKind.i64.wrap (c0.2.2.2.2.2.2.2.2.2.2.2.2.2.2.2.2.1+n1))>1000000))then
  some (t8.1,false,())
 else
  some ((t8.1.1,(t8.1.2.1,(t8.1.2.2.1,(t8.1.2.2.2.1,(t8.1.2.2.2.2.1,(t8.1.2.2.2.2.2.1,(t8.1.2.2.2.2.2.2.1,(t8.1.2.2.2.2.2.2.2.1,(t8.1.2.2.2.2.2.2.2.2.1,(t8.1.2.2.2.2.2.2.2.2.2.1,(t8.1.2.2.2.2.2.2.2.2.2.2.1,(t8.1.2.2.2.2.2.2.2.2.2.2.2.1,(t8.1.2.2.2.2.2.2.2.2.2.2.2.2.1,(t8.1.2.2.2.2.2.2.2.2.2.2.2.2.2.1,(t8.1.2.2.2.2.2.2.2.2.2.2.2.2.2.2.1,(t8.1.2.2.2.2.2.2.2.2.2.2.2.2.2.2.2.1,(IntKind.i64.wrap (c0.2.2.2.2.2.2.2.2.2.2.2.2.2.2.2.2.1+n1),t8.1.2.2.2.2.2.2.2.2.2.2.2.2.2.2.2.2.2))))))))))))))))),true,())
def Zy1(is0:Bool):Option (List UInt8×Unit):=
 bif is0 then
  some (([111,107]:List UInt8),())
 else
  some (([110,111]:List UInt8),())
abbrev Z2c:List PE:=[.box 5 37 (Zl) (.u true),.box 6 37 (Zl) (.p (.u true) (.p (.p (.u true) (.p (.u true) (.p (.u true) (.p (.u true) (.p (.u true) (.p (.u true) (.p (.u true) (.p (.u true) (.u true))))))))) (.p (.p (.u true) (.p (.u true) (.p (.u true) (.p (.u true) (.p (.u true) (.p (.u true) (.p (.u true) (.p (.u true) (.u true))))))))) (.p (.u false) (.p (.p (.u true) (.p (.u true) (.p (.u true) (.p (.u true) (.u true))))) (.p (.p (.u true) (.p (.u true) (.p (.u true) (.p (.u true) (.p (.u true) (.p (.u true) (.u true))))))) (.p (.p (.u true) (.p (.u true) (.p (.u true) (.u true)))) (.p (.p (.u true) (.p (.u true) (.p (.u true) (.u true)))) (.p (.p (.u true) (.p (.u true) (.p (.u true) (.p (.u true) (.u true))))) (.p (.p (.u true) (.p (.u true) (.p (.u true) (.p (.u true) (.u true))))) (.p (.u true) (.p (.u true) (.p (.u true) (.p (.u true) (.p (.u true) (.p (.u false) (.p (.u true) (.p (.u true) (.u true))))))))))))))))))),.val 7 (.bool) (.u false)]
def X5(t5:Zg)(x6:Zg)(is7:Bool):Option ((List UInt8×Zg×Unit)×(Unit)):=
 (Zy1 is7).bind fun t199=>
 some ((t199.1,(x6,())),())
def Zni(c0:Zg)(e1:Jc):Option ((List UInt8×Zg×Unit)×(Unit)):=
 (Zw c0).bind fun t24=>
 (Z6 c0).bind fun t26=>
 (bif(!t26.1)then some (false,())else(Zpr e1)).bind fun t30=>
 bif(!t26.1)|| (!t30.1)then
  some ((([]:List UInt8),(t24.1,())),())
 else
  (V7 c0).bind fun t35=>
  bif t35.1 then
   some ((([99,108,111,115,101,100]:List UInt8),(t24.1,())),())
  else
   bif e1.1==1 then
    (Znt c0 (e1.2.2.2.1==([117,110,105]:List UInt8))).bind fun t46=>
    bif !t46.2.2.1 then
     some ((([98,108,111,99,107,101,100]:List UInt8),(t46.2.1,())),())
    else
     (Ke t46.1).bind fun t54=>
     some ((t54.1,(t46.2.1,())),())
   else
    bif e1.1==2 then
     (Zdl c0 e1.2.1 e1.2.2.2.1).bind fun t64=>
     (Ke t64.1).bind fun t68=>
     some ((t68.1,(t64.2.1,())),())
    else
     bif e1.1==3 then
      (Zkb c0 e1.2.1).bind fun t76=>
      X5 Wj t76.1 t76.2.1
     else
      bif e1.1==4 then
       (Zcc c0 e1.2.1 e1.2.2.1).bind fun t87=>
       bif t87.1.2.1 then
        (Zbh t87.1.1).bind fun t93=>
        Zf (t93.1.length+ ([32,101,110,100]:List UInt8).length≤W9)<|
        some ((t93.1++ ([32,101,110,100]:List UInt8),(t87.1.2.2.1,())),())
       else
        (Zbh t87.1.1).bind fun t97=>
        Zf (t97.1.length+ ([32,109,111,114,101]:List UInt8).length≤W9)<|
        some ((t97.1++ ([32,109,111,114,101]:List UInt8),(t87.1.2.2.1,())),())
      else
       bif e1.1==5 then
        (Zl5 c0 e1.2.1 e1.2.2.1).bind fun t108=>
        X5 Wj t108.1.1 t108.1.2.1
       else
        bif e1.1==6 then
         (Znv c0 e1.2.1 e1.2.2.1).bind fun t119=>
         X5 Wj t119.1 t119.2.1
        else
         bif e1.1==7 then
          (Zl6 c0 e1.2.1 e1.2.2.2.1).bind fun t130=>
          X5 Wj t130.1 t130.2.1
         else
          bif e1.1==8 then
           (Zb9 c0 e1.2.2.1).bind fun t139=>
           bif t139.1.2.1==(-1:Int)then
            some ((([110,111,116,104,105,110,103]:List UInt8),(t139.1.2.2.1,())),())
           else
            (Ke t139.1.2.1).bind fun t147=>
            Zf (t147.1.length+ ([32]:List UInt8).length≤W9)<|
            (Zbh t139.1.1).bind fun t150=>
            Zf ((t147.1++ ([32]:List UInt8)).length+t150.1.length≤W9)<|
            some (((t147.1++ ([32]:List UInt8))++t150.1,(t139.1.2.2.1,())),())
          else
           bif e1.1==9 then
            (Zds c0 e1.2.2.1).bind fun t159=>
            X5 Wj t159.1.1 t159.1.2.1
           else
            bif e1.1==10 then
             (Zcb c0 e1.2.2.1).bind fun t168=>
             X5 Wj t168.1.1 t168.1.2.1
            else
             bif e1.1==11 then
              (Zk0 e1.2.2.2.1).bind fun t176=>
              (Vj c0 t176.1).bind fun t182=>
              (Ke t182.1.2.1).bind fun t186=>
              Zf (([101,114,114,111,114,32]:List UInt8).length+t186.1.length≤W9)<|
              some ((([101,114,114,111,114,32]:List UInt8)++t186.1,(t182.1.1,())),())
             else
              bif e1.1==12 then
               (Zrf c0 e1.2.2.1).bind fun t195=>
               X5 Wj t195.1 t195.2.1
              else
               X5 Wj t24.1 false
abbrev Z9o:List PE:=[.val 0 (.str) (.u false),.val 4 (.int .i64) (.u false),.val 5 (.int .i64) (.u false),.val 6 (.int .i64) (.u false)]
def Zhg(K1: (List UInt8×Int×Int×Int×Unit)→Option (Int×Bool×Unit))(s0_2:List UInt8)(n4_1:Int)(k5_1:Int)(i6_1:Int):Option (Int×Bool×Unit):=
 K1 (s0_2,n4_1,k5_1,IntKind.i64.wrap (i6_1+1),())
abbrev Z9p:List PE:=[.val 0 (.str) (.u false),.val 4 (.int .i64) (.u false),.val 5 (.int .i64) (.u false)]
def Jl(s0_3:List UInt8)(n4_2:Int)(k5_2:Int):Option (Int×Bool×Unit):=
 let t53:Bool:=(decide (k5_2>(9:Int)))|| (decide ((s0_3.length:Int)>(10:Int)))
 (bif t53 then some (([]:List UInt8),())else(Ke n4_2)).bind fun t56=>
 bif t53|| (!(t56.1==s0_3))then
  some ((0:Int),false,())
 else
  some (n4_2,true,())
abbrev Z9q:List PE:=[.val 0 (.str) (.u false),.val 4 (.int .i64) (.u false),.val 5 (.int .i64) (.u false),.val 6 (.int .i64) (.u false)]
def Zjy(s0_1:List UInt8)(n4:Int)(k5:Int)(i6:Int):Nat:=((s0_1.length:Int)-i6).toNat+1
def Zdj:Nat→List UInt8→Int→Int→Int→Option (Int×Bool×Unit)
 |0,_,_,_,_=>none
 |N+1,s0_1,n4,k5,i6=>
  bif(decide (i6< (s0_1.length:Int)))&& (decide (i6< (11:Int)))then
   Zf (0≤i6∧i6<s0_1.length)<|
   let t20:Bool:=decide (((s0_1.getD i6.toNat 0).toNat:Int)≥(48:Int))
   Zf ((t20=true→(0≤i6∧i6<s0_1.length)))<|
   bif t20&& (decide (((s0_1.getD i6.toNat 0).toNat:Int)≤(57:Int)))then
    Zf (0≤i6∧i6<s0_1.length)<|
    Zhg (fun v=>Zdj N v.1 v.2.1 v.2.2.1 v.2.2.2.1) s0_1 (IntKind.i64.wrap ((IntKind.i64.wrap (n4*10))+ (IntKind.i64.wrap (IntKind.u8.wrap (((s0_1.getD i6.toNat 0).toNat:Int)- (48:Int)))))) (IntKind.i64.wrap (k5+1)) i6
   else
    Zhg (fun v=>Zdj N v.1 v.2.1 v.2.2.1 v.2.2.2.1) s0_1 n4 k5 i6
  else
   Zf (((decide ((s0_1.length:Int)>(0:Int)))=true→(0≤(0:Int)∧(0:Int)<s0_1.length)))<|
   bif(decide ((s0_1.length:Int)>(0:Int)))&& (((s0_1.getD (0:Int).toNat 0).toNat:Int)==(45:Int))then
    Jl s0_1 (IntKind.i64.wrap (0-n4)) k5
   else
    Jl s0_1 n4 k5
def Zm5(s0:List UInt8):Option (Int×Bool×Unit):=
 Zdj (Zjy s0 (0:Int) (0:Int) (0:Int)) s0 (0:Int) (0:Int) (0:Int)
abbrev Qdm:List PE:=[.val 1 (.int .i64) (.u false),.val 2 (.bool) (.u false),.box 3 41 (Qe) (.u false),.box 6 49 (W8) (.u false),.val 8 (.int .i64) (.u false)]
def Zk8(id1_1:Int)(server2_1:Bool)(p3:Z1)(t6:Yc)(i8:Int):Nat:=((p3.2.2.2.2.1.length:Int)-i8).toNat+1
def Zi8:Nat→Int→Bool→Z1→Yc→Int→Option (Yc×Bool×Unit)
 |0,_,_,_,_,_=>none
 |N+1,id1_1,server2_1,p3,t6,i8=>
  bif decide (i8< (p3.2.2.2.2.1.length:Int))then
   Zf (0≤i8∧i8<p3.2.2.2.2.1.length)<|
   let t23:Bool:=(p3.2.2.2.2.1.getD i8.toNat Qq).1==id1_1
   Zf ((t23=true→(0≤i8∧i8<p3.2.2.2.2.1.length)))<|
   bif t23&& ((p3.2.2.2.2.1.getD i8.toNat Qq).2.1==server2_1)then
    Zf (0≤i8∧i8<p3.2.2.2.2.1.length)<|
    some (p3.2.2.2.2.1.getD i8.toNat Qq,true,())
   else
    Zi8 N id1_1 server2_1 p3 t6 (IntKind.i64.wrap (i8+1))
  else
   some (Qq,false,())
def Zy0(p0:Z1)(id1:Int)(server2:Bool):Option (Yc×Bool×Unit):=
 Zi8 (Zk8 id1 server2 p0 Qq (0:Int)) id1 server2 p0 Qq (0:Int)
def Za7(p0:Z1)(id1:Int)(server2:Bool):Option (Yc×Unit):=
 (Zy0 p0 id1 server2).bind fun t13=>
 bif !t13.2.1 then
  some ((id1,(server2,(([]:List UInt8),(([]:List UInt8),(false,(false,(false,()))))))),())
 else
  some (t13.1,())
abbrev Qh5:List PE:=[.box 0 41 (Qe) (.p (.u false) (.p (.u false) (.p (.u false) (.p (.u false) (.p (.u true) (.u false)))))),.box 3 49 (W8) (.u false),.val 4 (.int .i64) (.u false)]
def Zmq(p0_1:Z1)(t3:Yc)(i4:Int):Nat:=((p0_1.2.2.2.2.1.length:Int)-i4).toNat+1
def Zlk:Nat→Z1→Yc→Int→Option ((Unit)×(Z1×Unit))
 |0,_,_,_=>none
 |N+1,p0_1,t3,i4=>
  bif decide (i4< (p0_1.2.2.2.2.1.length:Int))then
   Zf (0≤i4∧i4<p0_1.2.2.2.2.1.length)<|
   let t24:Bool:=(p0_1.2.2.2.2.1.getD i4.toNat Qq).1==t3.1
   Zf ((t24=true→(0≤i4∧i4<p0_1.2.2.2.2.1.length)))<|
   bif t24&& ((p0_1.2.2.2.2.1.getD i4.toNat Qq).2.1==t3.2.1)then
    Zf (0≤i4∧i4<p0_1.2.2.2.2.1.length)<|
    some ((),((p0_1.1,(p0_1.2.1,(p0_1.2.2.1,(p0_1.2.2.2.1,(p0_1.2.2.2.2.1.set i4.toNat t3,p0_1.2.2.2.2.2))))),()))
   else
    Zlk N p0_1 t3 (IntKind.i64.wrap (i4+1))
  else
   Zf (p0_1.2.2.2.2.1.length+ ([t3]).length≤Qv)<|
   some ((),((p0_1.1,(p0_1.2.1,(p0_1.2.2.1,(p0_1.2.2.2.1,(p0_1.2.2.2.2.1++ ([t3]),p0_1.2.2.2.2.2))))),()))
def Zlj(p0:Z1)(t1:Yc):Option ((Unit)×(Z1×Unit)):=
 Zlk (Zmq p0 t1 (0:Int)) p0 t1 (0:Int)
abbrev Qd4:List PE:=[.box 0 41 (Qe) (.p (.u false) (.p (.u false) (.p (.u false) (.p (.u false) (.p (.u true) (.u false)))))),.box 7 110 (Vc) (.u false),.val 10 (.int .i64) (.u false),.box 12 49 (W8) (.u false)]
def Zsn(p0_1:Z1)(e7:Jc)(n10:Int)(t12:Yc):Option ((Unit)×(Z1×Unit)):=
 Zf (0≤(0:Int)∧(0:Int)≤n10∧n10≤e7.2.2.2.1.length)<|
 let t45:List UInt8:=(e7.2.2.2.1.drop (0:Int).toNat).take (n10.toNat- (0:Int).toNat)
 Zf (t12.2.2.1.length+t45.length≤W9)<|
 (Zlj p0_1 (t12.1,(t12.2.1,(t12.2.2.1++t45,t12.2.2.2)))).bind fun t50=>
 some ((),(t50.2.1,()))
abbrev Qd5:List PE:=[.box 0 41 (Qe) (.p (.u false) (.p (.u false) (.p (.u false) (.p (.u false) (.p (.u true) (.u false)))))),.box 13 49 (W8) (.u false)]
def Zso(p0_2:Z1)(t13:Yc):Option ((Unit)×(Z1×Unit)):=
 (Zlj p0_2 (t13.1,(t13.2.1,(t13.2.2.1,(t13.2.2.2.1,(true,t13.2.2.2.2.2)))))).bind fun t65=>
 some ((),(t65.2.1,()))
abbrev Qd6:List PE:=[.box 0 41 (Qe) (.p (.u false) (.p (.u false) (.p (.u false) (.p (.u false) (.p (.u true) (.u false)))))),.val 14 (.str) (.u false),.val 15 (.bool) (.u false),.box 17 99 (Z2) (.u true),.box 19 49 (W8) (.u false)]
def Zsp(p0_3:Z1)(data14:List UInt8)(fin15:Bool)(s17:Zn)(t19:Yc):Option ((Unit)×(Z1×Unit)):=
 Zf (t19.2.2.2.1.length+data14.length≤W9)<|
 Option.bind (Zlj p0_3 (t19.1,(t19.2.1,(t19.2.2.1,(t19.2.2.2.1++data14,(t19.2.2.2.2.1,(t19.2.2.2.2.2.1|| (fin15&& (decide (s17.2.2.2.1.1< (4:Int)))),(t19.2.2.2.2.2.2.1|| (decide (s17.2.2.2.1.1≥(4:Int))),t19.2.2.2.2.2.2.2)))))))) fun t129=>
 some ((),(t129.2.1,()))
abbrev Qd7:List PE:=[.box 0 41 (Qe) (.p (.u false) (.p (.u false) (.p (.u false) (.p (.u false) (.p (.u true) (.u false)))))),.box 20 49 (W8) (.u false)]
def Zsq(p0_4:Z1)(t20:Yc):Option ((Unit)×(Z1×Unit)):=
 Option.bind (Zlj p0_4 (t20.1,(t20.2.1,(t20.2.2.1,(t20.2.2.2.1,(t20.2.2.2.2.1,(t20.2.2.2.2.2.1,(true,t20.2.2.2.2.2.2.2)))))))) fun t144=>
 some ((),(t144.2.1,()))
abbrev Qd8:List PE:=[.box 0 41 (Qe) (.p (.u false) (.p (.u false) (.p (.u false) (.p (.u false) (.p (.u true) (.u false)))))),.box 21 49 (W8) (.u false)]
def Zsr(p0_5:Z1)(t21:Yc):Option ((Unit)×(Z1×Unit)):=
 Option.bind (Zlj p0_5 (t21.1,(t21.2.1,(t21.2.2.1,(t21.2.2.2.1,(t21.2.2.2.2.1,(t21.2.2.2.2.2.1,(true,t21.2.2.2.2.2.2.2)))))))) fun t160=>
 some ((),(t160.2.1,()))
def Zp6(p0:Z1)(server1:Bool)(e2:Jc)(out3:List UInt8)(before4:Zg):Option ((Unit)×(Z1×Unit)):=
 bif e2.1==2 then
  (Zm5 out3).bind fun t28=>
  bif decide (t28.1>(0:Int))then
   Ql 1 (
    (Za7 p0 e2.2.1 server1).bind fun t39=>
    Zsn p0 e2 t28.1 t39.1
   )
  else
   some ((),(p0,()))
 else
  bif e2.1==3 then
   bif out3==([111,107]:List UInt8)then
    Ql 1 (
     (Za7 p0 e2.2.1 server1).bind fun t61=>
     Zso p0 t61.1
    )
   else
    some ((),(p0,()))
  else
   bif e2.1==4 then
    (Zcc before4 e2.2.1 e2.2.2.1).bind fun t74=>
    (Qu before4 e2.2.1).bind fun t82=>
    bif t82.2.1&& ((!(t74.1.1==([]:List UInt8)))||t74.1.2.1)then
     Ql 1 (
      (Za7 p0 e2.2.1 (!server1)).bind fun t100=>
      Zsp p0 t74.1.1 t74.1.2.1 t82.1 t100.1
     )
    else
     some ((),(p0,()))
   else
    bif e2.1==5 then
     bif out3==([111,107]:List UInt8)then
      Ql 1 (
       (Za7 p0 e2.2.1 server1).bind fun t140=>
       Zsq p0 t140.1
      )
     else
      some ((),(p0,()))
    else
     bif e2.1==6 then
      bif out3==([111,107]:List UInt8)then
       Ql 1 (
        (Za7 p0 e2.2.1 (!server1)).bind fun t156=>
        Zsr p0 t156.1
       )
      else
       some ((),(p0,()))
     else
      some ((),(p0,()))
abbrev Z5p:List PE:=[.box 7 41 (Qe) (.u true),.box 8 41 (Qe) (.p (.u false) (.p (.u false) (.p (.u false) (.p (.u false) (.p (.u true) (.u false)))))),.val 11 (.int .i64) (.u false)]
def Zfu(t7:Z1)(x8:Z1)(n11:Int):Option ((List UInt8×Z1×Unit)×(Unit)):=
 (Ke n11).bind fun t94=>
 some ((t94.1,(x8,())),())
def Zeh(p0:Z1)(server1:Bool)(e2:Jc):Option ((List UInt8×Z1×Unit)×(Unit)):=
 (Zc2 p0).bind fun t18=>
 (Zfm p0).bind fun t20=>
 (bif(!t20.1)then some (false,())else(Zpr e2)).bind fun t24=>
 (bif((!t20.1)|| (!t24.1))then some (false,())else(Zu e2.1 (9:Int) (11:Int))).bind fun t30=>
 let t37:Bool:=(((!t20.1)|| (!t24.1))||t30.1)|| (decide ((p0.2.2.2.2.1.length:Int)>(90:Int)))
 (bif(e2.1==8)then(bif t37 then some (([]:List Zy),())else(Zbm p0 (!server1)))else some (([]:List Zy),())).bind fun t46=>
 bif t37|| ((e2.1==8)&& (decide ((t46.1.length:Int)≥(60:Int))))then
  some ((([]:List UInt8),(t18.1,())),())
 else
  (Zc8 p0 server1).bind fun t54=>
  (bif(e2.1==8)then(V7 t54.1)else some (false,())).bind fun t60=>
  bif(e2.1==8)&& (!t60.1)then
   (Zb9 t54.1 e2.2.2.1).bind fun t67=>
   (Zc3 t18.1 server1 t67.1.2.2.1).bind fun t73=>
   bif t67.1.2.1==(-1:Int)then
    some ((([110,111,116,104,105,110,103]:List UInt8),(t73.2.1,())),())
   else
    (Zbm p0 (!server1)).bind fun t81=>
    (Zk6 t81.1 (t67.1.2.1,(t67.1.1,()))).bind fun t85=>
    bif server1 then
     Zfu Zb4 (t73.2.1.1,(t73.2.1.2.1,(t73.2.1.2.2.1,(t85.1,t73.2.1.2.2.2.2)))) t67.1.2.1
    else
     Zfu Zb4 (t73.2.1.1,(t73.2.1.2.1,(t85.1,t73.2.1.2.2.2))) t67.1.2.1
  else
   (Zni t54.1 e2).bind fun t99=>
   (Zc3 t18.1 server1 t99.1.2.1).bind fun t104=>
   (Zp6 t104.2.1 server1 e2 t99.1.1 t54.1).bind fun t109=>
   some ((t99.1.1,(t109.2.1,())),())
def Zld(c0:Qm)(list1:List (List UInt8)):Option ((List UInt8×Unit)×(Qm×Unit)):=
 (Qo c0 (list1.length:Int)).bind fun t9=>
 Zf (0≤t9.1.1∧t9.1.1<list1.length)<|
 some ((list1.getD t9.1.1.toNat ([]:List UInt8),()),(t9.2.1,()))
abbrev Qh6:List PE:=[.box 0 58 (V1) (.u false),.val 5 (.str) (.u false),.val 6 (.int .i64) (.u false)]
def Zgi(c0_1:Qm)(s5_1:List UInt8)(n6:Int):Nat:=(n6-0).toNat+1
def Zhw:Nat→Qm→List UInt8→Int→Option ((List UInt8×Unit)×(Qm×Unit))
 |0,_,_,_=>none
 |N+1,c0_1,s5_1,n6=>
  bif decide (n6>(0:Int))then
   (Zld c0_1 ([([97]:List UInt8),([98]:List UInt8),([99]:List UInt8),([100]:List UInt8)])).bind fun t18=>
   Zf (s5_1.length+t18.1.1.length≤W9)<|
   Zhw N t18.2.1 (s5_1++t18.1.1) (IntKind.i64.wrap (n6-1))
  else
   some ((s5_1,()),(c0_1,()))
def Wy(c0:Qm)(most1:Int):Option ((List UInt8×Unit)×(Qm×Unit)):=
 (Qo c0 (IntKind.i64.wrap (most1+1))).bind fun t10=>
 Zhw (Zgi t10.2.1 ([]:List UInt8) t10.1.1) t10.2.1 ([]:List UInt8) t10.1.1
def Zdb(c0:Qm)(n1:Int):Option ((Bool×Unit)×(Qm×Unit)):=
 (Qo c0 n1).bind fun t7=>
 some ((t7.1.1==0,()),(t7.2.1,()))
def Zhq(c0:Qm)(list1:List Int):Option ((Int×Unit)×(Qm×Unit)):=
 (Qo c0 (list1.length:Int)).bind fun t9=>
 Zf (0≤t9.1.1∧t9.1.1<list1.length)<|
 some ((list1.getD t9.1.1.toNat (0:Int),()),(t9.2.1,()))
def Ztk(c0:Qm):Option ((Zh×Unit)×(Qm×Unit)):=
 (Zhq c0 ([(4:Int),(5:Int),(8:Int),(8:Int),(8:Int),(8:Int),(16:Int),(17:Int),(18:Int),(20:Int),(21:Int),(22:Int)])).bind fun t6=>
 (Qo t6.2.1 (8:Int)).bind fun t9=>
 (Qo t9.2.1 (12:Int)).bind fun t12=>
 (Wy t12.2.1 (6:Int)).bind fun t15=>
 (Zdb t15.2.1 (4:Int)).bind fun t18=>
 (Qo t18.2.1 (5:Int)).bind fun t21=>
 (Qo t21.2.1 (40:Int)).bind fun t24=>
 (Qo t24.2.1 (14:Int)).bind fun t27=>
 (Zdb t27.2.1 (2:Int)).bind fun t30=>
 Option.bind (Zh7 (t6.1.1,(t9.1.1,(t12.1.1,(t15.1.1,(t18.1.1,(t21.1.1,(t24.1.1,(t27.1.1,(t30.1.1,())))))))))) fun t33=>
 some ((t33.1,()),(t30.2.1,()))
abbrev Z9w:List PE:=[.box 0 58 (V1) (.u false),.box 2 110 (Vc) (.u false),.box 4 110 (Vc) (.u false)]
def Kh(c0_1:Qm)(t2:Jc)(e4:Jc):Option ((Jc×Unit)×(Qm×Unit)):=
 (Zp4 e4).bind fun t53=>
 some ((t53.1,()),(c0_1,()))
abbrev Z9x:List PE:=[.box 0 58 (V1) (.u false),.box 2 110 (Vc) (.u false),.box 4 110 (Vc) (.u false),.val 46 (.bool) (.u false)]
def Zht(c0_2:Qm)(t2_1:Jc)(e4_1:Jc)(t46:Bool):Option ((Jc×Unit)×(Qm×Unit)):=
 bif t46 then
  (Qo c0_2 (5:Int)).bind fun t50=>
  Kh t50.2.1 t2_1 (e4_1.1,(e4_1.2.1,(t50.1.1,e4_1.2.2.2)))
 else
  Kh c0_2 t2_1 e4_1
def Zrl(c0:Qm):Option ((Jc×Unit)×(Qm×Unit)):=
 (Zhq c0 ([(1:Int),(2:Int),(2:Int),(2:Int),(3:Int),(4:Int),(4:Int),(5:Int),(6:Int),(7:Int),(8:Int),(8:Int),(8:Int),(9:Int),(9:Int),(10:Int),(11:Int),(11:Int),(12:Int)])).bind fun t7=>
 (Qo t7.2.1 (6:Int)).bind fun t10=>
 (Qo t10.2.1 (9:Int)).bind fun t12=>
 bif t7.1.1==1 then
  (Zld t12.2.1 ([([98,105,100,105]:List UInt8),([117,110,105]:List UInt8)])).bind fun t19=>
  Kh t19.2.1 Zv6 (t7.1.1,(t10.1.1,(t12.1.1,(t19.1.1,()))))
 else
  bif t7.1.1==2 then
   (Wy t12.2.1 (7:Int)).bind fun t24=>
   Zf (([97]:List UInt8).length+t24.1.1.length≤W9)<|
   Kh t24.2.1 Zv6 (t7.1.1,(t10.1.1,(t12.1.1,(([97]:List UInt8)++t24.1.1,()))))
  else
   bif t7.1.1==7 then
    (Zld t12.2.1 ([([117,61,49]:List UInt8),([105]:List UInt8),([117,61,53,44,32,105]:List UInt8),([120]:List UInt8)])).bind fun t31=>
    Kh t31.2.1 Zv6 (t7.1.1,(t10.1.1,(t12.1.1,(t31.1.1,()))))
   else
    bif t7.1.1==8 then
     (Qo t12.2.1 (30:Int)).bind fun t36=>
     Kh t36.2.1 Zv6 (t7.1.1,(t10.1.1,(IntKind.i64.wrap ((6:Int)+t36.1.1),(([]:List UInt8),()))))
    else
     bif t7.1.1==11 then
      (Ztk t12.2.1).bind fun t42=>
      (Zdh t42.1.1).bind fun t43=>
      (Zbh t43.1).bind fun t44=>
      Kh t42.2.1 Zv6 (t7.1.1,(t10.1.1,(t12.1.1,(t44.1,()))))
     else
      bif t7.1.1==9 then
       Zht t12.2.1 Zv6 (t7.1.1,(t10.1.1,(t12.1.1,(([]:List UInt8),())))) (t7.1.1==9)
      else
       Zht t12.2.1 Zv6 (t7.1.1,(t10.1.1,(t12.1.1,(([]:List UInt8),())))) (t7.1.1==10)
abbrev Z22:List PE:=[.val 0 (.slice 78 (Qs)) (.u false),.val 1 (.int .i64) (.u false),.box 4 78 (Qs) (.u false),.val 7 (.slice 78 (Qs)) (.u true),.val 8 (.int .i64) (.u false)]
def Zim(K1: (List Zy×Int×Zy×List Zy×Int×Unit)→Option (Zy×List Zy×Bool×Unit))(l0_2:List Zy)(at1_2:Int)(t4_1:Zy)(out7_1:List Zy)(i8_1:Int):Option (Zy×List Zy×Bool×Unit):=
 K1 (l0_2,at1_2,t4_1,out7_1,IntKind.i64.wrap (i8_1+1),())
abbrev Z23:List PE:=[.val 0 (.slice 78 (Qs)) (.u false),.val 1 (.int .i64) (.u false),.box 4 78 (Qs) (.u false),.val 7 (.slice 78 (Qs)) (.u true),.val 8 (.int .i64) (.u false)]
def Zhl(l0_1:List Zy)(at1_1:Int)(t4:Zy)(out7:List Zy)(i8:Int):Nat:=((l0_1.length:Int)-i8).toNat+1
def Zaw:Nat→List Zy→Int→Zy→List Zy→Int→Option (Zy×List Zy×Bool×Unit)
 |0,_,_,_,_,_=>none
 |N+1,l0_1,at1_1,t4,out7,i8=>
  bif decide (i8< (l0_1.length:Int))then
   bif i8 !=at1_1 then
    Zf (0≤i8∧i8<l0_1.length)<|
    Zf (out7.length+ ([(l0_1.getD i8.toNat Qp)]).length≤Qv)<|
    Zim (fun v=>Zaw N v.1 v.2.1 v.2.2.1 v.2.2.2.1 v.2.2.2.2.1) l0_1 at1_1 t4 (out7++ ([(l0_1.getD i8.toNat Qp)])) i8
   else
    Zim (fun v=>Zaw N v.1 v.2.1 v.2.2.1 v.2.2.2.1 v.2.2.2.2.1) l0_1 at1_1 t4 out7 i8
  else
   Zf (0≤at1_1∧at1_1<l0_1.length)<|
   some (l0_1.getD at1_1.toNat Qp,out7,true,())
def Znw(l0:List Zy)(at1:Int):Option (Zy×List Zy×Bool×Unit):=
 (Zu at1 (0:Int) (IntKind.i64.wrap ((l0.length:Int)- (1:Int)))).bind fun t14=>
 bif !t14.1 then
  (Ys l0).bind fun t18=>
  some (((0:Int),(([]:List UInt8),())),t18.1,false,())
 else
  Zaw (Zhl l0 at1 ((0:Int),(([]:List UInt8),())) ([]:List Zy) (0:Int)) l0 at1 ((0:Int),(([]:List UInt8),())) ([]:List Zy) (0:Int)
abbrev Qee:List PE:=[.box 0 41 (Qe) (.p (.u false) (.p (.u false) (.p (.u false) (.p (.u false) (.p (.u true) (.u false)))))),.box 6 78 (Qs) (.u false),.box 8 78 (Qs) (.u false),.val 10 (.bool) (.u false)]
def Zn1(x0_1:Z1)(t6:Zy)(t8:Zy)(is10:Bool):Option ((Zy×Bool×Unit)×(Z1×Unit)):=
 some ((t8,(is10,())),(x0_1,()))
def Zma(x0:Z1)(server1:Bool)(at2:Int):Option ((Zy×Bool×Unit)×(Z1×Unit)):=
 (Zbm x0 server1).bind fun t16=>
 (Znw t16.1 at2).bind fun t18=>
 bif server1 then
  Zn1 (x0.1,(x0.2.1,(t18.2.1,x0.2.2.2))) ((0:Int),(([]:List UInt8),())) t18.1 t18.2.2.1
 else
  Zn1 (x0.1,(x0.2.1,(x0.2.2.1,(t18.2.1,x0.2.2.2.2)))) ((0:Int),(([]:List UInt8),())) t18.1 t18.2.2.1
abbrev Qdj:List PE:=[.box 6 41 (Qe) (.u true),.box 8 41 (Qe) (.p (.u false) (.p (.u false) (.p (.u false) (.p (.u false) (.p (.u true) (.u false))))))]
def Zi1(t6_1:Z1)(x8_1:Z1):Option ((Z1×Bool×Unit)×(Unit)):=
 some ((x8_1,(true,())),())
abbrev Qdk:List PE:=[.val 1 (.bool) (.u false),.box 6 41 (Qe) (.u true),.box 8 41 (Qe) (.p (.u false) (.p (.u false) (.p (.u false) (.p (.u false) (.p (.u true) (.u false)))))),.box 13 37 (Zl) (.u false)]
def Xy(server1_2:Bool)(t6_2:Z1)(x8_2:Z1)(d13:Zg):Option ((Z1×Bool×Unit)×(Unit)):=
 (Zc3 x8_2 (!server1_2) d13).bind fun t59=>
 Zi1 t6_2 t59.2.1
abbrev Qdi:List PE:=[.val 1 (.bool) (.u false),.box 3 41 (Qe) (.u false),.box 6 41 (Qe) (.u true),.box 8 41 (Qe) (.p (.u false) (.p (.u false) (.p (.u false) (.p (.u false) (.p (.u true) (.u false)))))),.box 9 78 (Qs) (.u false),.box 11 37 (Zl) (.u false),.val 12 (.int .i64) (.u false)]
def Xx(server1_1:Bool)(p3:Z1)(t6:Z1)(x8:Z1)(t9:Zy)(c11:Zg)(e12:Int):Option ((Z1×Bool×Unit)×(Unit)):=
 (Zc3 x8 server1_1 c11).bind fun t43=>
 bif e12==0 then
  Z5 (
   (Zc8 p3 (!server1_1)).bind fun t50=>
   Z5 (
    (Zds t50.1 t9.1).bind fun t53=>
    Z5 (
     Z5 (
      Z5 (
       Xy server1_1 t6 t43.2.1 t53.1.1
      ) (
       Ql 1 (
        Xy server1_1 t6 t43.2.1 t53.1.1
       )
      )
     ) (
     Z5 (
      Ql 1 (
       Xy server1_1 t6 t43.2.1 t53.1.1
      )
     ) (
      Z5 (
       Ql 1 (
        Xy server1_1 t6 t43.2.1 t53.1.1
       )
      ) (
       Xy server1_1 t6 t43.2.1 t53.1.1
      )
     )
     )
    ) (
     Z5 (
      Ql 1 (
       Xy server1_1 t6 t43.2.1 t53.1.1
      )
     ) (
      Xy server1_1 t6 t43.2.1 t53.1.1
     )
    )
   ) (
    (Zds t50.1 t9.1).bind fun t53=>
    Z5 (
     Ql 1 (
      Xy server1_1 t6 t43.2.1 t53.1.1
     )
    ) (
     Xy server1_1 t6 t43.2.1 t53.1.1
    )
   )
  ) (
   (Zc8 p3 (!server1_1)).bind fun t50=>
   (Zds t50.1 t9.1).bind fun t53=>
   Z5 (
    Ql 1 (
     Xy server1_1 t6 t43.2.1 t53.1.1
    )
   ) (
    Xy server1_1 t6 t43.2.1 t53.1.1
   )
  )
 else
  Zi1 t6 t43.2.1
def Zs9(p0:Z1)(server1:Bool)(at2:Int):Option ((Z1×Bool×Unit)×(Unit)):=
 (Zc2 p0).bind fun t16=>
 (Zma t16.1 server1 at2).bind fun t20=>
 (Zfm p0).bind fun t24=>
 bif(!t24.1)|| (!t20.1.2.1)then
  (Zc2 p0).bind fun t31=>
  some ((t31.1,(false,())),())
 else
  Z5 (
   (Zc8 p0 server1).bind fun t35=>
   Z5 (
    (Vj t35.1 t20.1.1.2.1).bind fun t38=>
    Z5 (
     Z5 (
      Z5 (
       Xx server1 p0 Zb4 t20.2.1 t20.1.1 t38.1.1 t38.1.2.1
      ) (
       Ql 1 (
        Xx server1 p0 Zb4 t20.2.1 t20.1.1 t38.1.1 t38.1.2.1
       )
      )
     ) (
     Z5 (
      Ql 1 (
       Xx server1 p0 Zb4 t20.2.1 t20.1.1 t38.1.1 t38.1.2.1
      )
     ) (
      Z5 (
       Ql 1 (
        Xx server1 p0 Zb4 t20.2.1 t20.1.1 t38.1.1 t38.1.2.1
       )
      ) (
       Xx server1 p0 Zb4 t20.2.1 t20.1.1 t38.1.1 t38.1.2.1
      )
     )
     )
    ) (
     Z5 (
      Ql 1 (
       Xx server1 p0 Zb4 t20.2.1 t20.1.1 t38.1.1 t38.1.2.1
      )
     ) (
      Xx server1 p0 Zb4 t20.2.1 t20.1.1 t38.1.1 t38.1.2.1
     )
    )
   ) (
    (Vj t35.1 t20.1.1.2.1).bind fun t38=>
    Z5 (
     Ql 1 (
      Xx server1 p0 Zb4 t20.2.1 t20.1.1 t38.1.1 t38.1.2.1
     )
    ) (
     Xx server1 p0 Zb4 t20.2.1 t20.1.1 t38.1.1 t38.1.2.1
    )
   )
  ) (
   (Zc8 p0 server1).bind fun t35=>
   (Vj t35.1 t20.1.1.2.1).bind fun t38=>
   Z5 (
    Ql 1 (
     Xx server1 p0 Zb4 t20.2.1 t20.1.1 t38.1.1 t38.1.2.1
    )
   ) (
    Xx server1 p0 Zb4 t20.2.1 t20.1.1 t38.1.1 t38.1.2.1
   )
  )
abbrev Z5c:List PE:=[.val 0 (.slice 78 (Qs)) (.u false),.val 1 (.int .i64) (.u false),.val 5 (.int .i64) (.u false)]
def Zii(l0_1:List Zy)(number1_1:Int)(i5:Int):Nat:=((l0_1.length:Int)-i5).toNat+1
def Zfl:Nat→List Zy→Int→Int→Option (Bool×Unit)
 |0,_,_,_=>none
 |N+1,l0_1,number1_1,i5=>
  bif decide (i5< (l0_1.length:Int))then
   Zf (0≤i5∧i5<l0_1.length)<|
   bif(l0_1.getD i5.toNat Qp).1==number1_1 then
    some (true,())
   else
    Zfl N l0_1 number1_1 (IntKind.i64.wrap (i5+1))
  else
   some (false,())
def Zuk(l0:List Zy)(number1:Int):Option (Bool×Unit):=
 Zfl (Zii l0 number1 (0:Int)) l0 number1 (0:Int)
abbrev Qqf:List PE:=[.box 6 41 (Qe) (.u true),.box 8 41 (Qe) (.p (.u false) (.p (.u false) (.p (.u false) (.p (.u false) (.p (.u true) (.u false))))))]
def Zpn(t6:Z1)(x8:Z1):Option ((Z1×Bool×Unit)×(Unit)):=
 some ((x8,(true,())),())
abbrev Qqg:List PE:=[.val 1 (.bool) (.u false),.box 6 41 (Qe) (.u true),.box 8 41 (Qe) (.p (.u false) (.p (.u false) (.p (.u false) (.p (.u false) (.p (.u true) (.u false)))))),.box 11 37 (Zl) (.u false)]
def Jf(server1_1:Bool)(t6_1:Z1)(x8_1:Z1)(d11:Zg):Option ((Z1×Bool×Unit)×(Unit)):=
 (Zc3 x8_1 (!server1_1) d11).bind fun t50=>
 Zpn t6_1 t50.2.1
def Z3t(p0:Z1)(server1:Bool)(at2:Int):Option ((Z1×Bool×Unit)×(Unit)):=
 (Zc2 p0).bind fun t14=>
 (Zma t14.1 server1 at2).bind fun t18=>
 (Zfm p0).bind fun t22=>
 bif(!t22.1)|| (!t18.1.2.1)then
  (Zc2 p0).bind fun t29=>
  some ((t29.1,(false,())),())
 else
  (Zbm t18.2.1 server1).bind fun t32=>
  (Zuk t32.1 t18.1.1.1).bind fun t35=>
  bif !t35.1 then
   Z5 (
    (Zc8 p0 (!server1)).bind fun t41=>
    Z5 (
     (Zcb t41.1 t18.1.1.1).bind fun t44=>
     Z5 (
      Z5 (
       Z5 (
        Jf server1 Zb4 t18.2.1 t44.1.1
       ) (
        Ql 1 (
         Jf server1 Zb4 t18.2.1 t44.1.1
        )
       )
      ) (
      Z5 (
       Ql 1 (
        Jf server1 Zb4 t18.2.1 t44.1.1
       )
      ) (
       Z5 (
        Ql 1 (
         Jf server1 Zb4 t18.2.1 t44.1.1
        )
       ) (
        Jf server1 Zb4 t18.2.1 t44.1.1
       )
      )
      )
     ) (
      Z5 (
       Ql 1 (
        Jf server1 Zb4 t18.2.1 t44.1.1
       )
      ) (
       Jf server1 Zb4 t18.2.1 t44.1.1
      )
     )
    ) (
     (Zcb t41.1 t18.1.1.1).bind fun t44=>
     Z5 (
      Ql 1 (
       Jf server1 Zb4 t18.2.1 t44.1.1
      )
     ) (
      Jf server1 Zb4 t18.2.1 t44.1.1
     )
    )
   ) (
    (Zc8 p0 (!server1)).bind fun t41=>
    (Zcb t41.1 t18.1.1.1).bind fun t44=>
    Z5 (
     Ql 1 (
      Jf server1 Zb4 t18.2.1 t44.1.1
     )
    ) (
     Jf server1 Zb4 t18.2.1 t44.1.1
    )
   )
  else
   Zpn Zb4 t18.2.1
def Znj(l0:List Zy)(at1:Int):Option (List Zy×Bool×Unit):=
 (Zu at1 (0:Int) (IntKind.i64.wrap ((l0.length:Int)- (1:Int)))).bind fun t12=>
 bif !t12.1 then
  (Ys l0).bind fun t15=>
  some (t15.1,false,())
 else
  Zf (0≤at1∧at1<l0.length)<|
  (Zk6 l0 (l0.getD at1.toNat Qp)).bind fun t22=>
  some (t22.1,t22.2.1,())
abbrev Z48:List PE:=[.box 6 41 (Qe) (.u true),.box 8 41 (Qe) (.u true)]
def Zka(t6:Z1)(x8:Z1):Option (Z1×Bool×Unit):=
 some (x8,true,())
def Zpo(p0:Z1)(server1:Bool)(at2:Int):Option (Z1×Bool×Unit):=
 (Zc2 p0).bind fun t12=>
 (Zbm p0 server1).bind fun t16=>
 (Znj t16.1 at2).bind fun t18=>
 (Zfm p0).bind fun t22=>
 bif(!t22.1)|| (!t18.2.1)then
  some (t12.1,false,())
 else
  bif server1 then
   Zka Zb4 (t12.1.1,(t12.1.2.1,(t18.1,t12.1.2.2.2)))
  else
   Zka Zb4 (t12.1.1,(t12.1.2.1,(t12.1.2.2.1,(t18.1,t12.1.2.2.2.2))))
abbrev Qed:List PE:=[.box 0 58 (V1) (.u false),.box 3 41 (Qe) (.u false),.box 4 41 (Qe) (.u true),.val 5 (.bool) (.u false),.box 6 41 (Qe) (.u false),.val 12 (.int .i64) (.u false),.val 40 (.bool) (.u false)]
def Zji(c0_3:Qm)(p3_2:Z1)(t4_2:Z1)(side5_2:Bool)(x6_2:Z1)(t12_3:Int)(t40:Bool):Option ((Z1×Unit)×(Qm×Unit)):=
 bif t40 then
  (Qo c0_3 (3:Int)).bind fun t47=>
  (Zs9 p3_2 side5_2 t47.1.1).bind fun t48=>
  Z5 (
   Ql 1 (
    some ((t48.1.1,()),(t47.2.1,()))
   )
  ) (
   some ((t48.1.1,()),(t47.2.1,()))
  )
 else
  bif t12_3==8 then
   (Qo c0_3 (3:Int)).bind fun t57=>
   (Z3t p3_2 side5_2 t57.1.1).bind fun t58=>
   Z5 (
    Ql 1 (
     some ((t58.1.1,()),(t57.2.1,()))
    )
   ) (
    some ((t58.1.1,()),(t57.2.1,()))
   )
  else
   bif t12_3==9 then
    (Qo c0_3 (3:Int)).bind fun t67=>
    (Zpo p3_2 side5_2 t67.1.1).bind fun t68=>
    Z5 (
     Ql 1 (
      some ((t68.1,()),(t67.2.1,()))
     )
    ) (
     some ((t68.1,()),(t67.2.1,()))
    )
   else
    none
abbrev Qec:List PE:=[.box 0 58 (V1) (.u false),.box 3 41 (Qe) (.u false),.box 4 41 (Qe) (.u true),.val 5 (.bool) (.u false),.box 6 41 (Qe) (.u false),.val 12 (.int .i64) (.u false),.val 26 (.bool) (.u false)]
def Ze9(c0_2:Qm)(p3_1:Z1)(t4_1:Z1)(side5_1:Bool)(x6_1:Z1)(t12_2:Int)(t26:Bool):Option ((Z1×Unit)×(Qm×Unit)):=
 bif t26 then
  (Qo c0_2 (40:Int)).bind fun t34=>
  (Zeh p3_1 side5_1 ((8:Int),((0:Int),(IntKind.i64.wrap ((8:Int)+t34.1.1),(([]:List UInt8),()))))).bind fun t37=>
  Ql 1 (
   some ((t37.1.2.1,()),(t34.2.1,()))
  )
 else
  bif t12_2==6 then
   Zji c0_2 p3_1 t4_1 side5_1 x6_1 t12_2 (t12_2==6)
  else
   Zji c0_2 p3_1 t4_1 side5_1 x6_1 t12_2 (t12_2==7)
abbrev Qeb:List PE:=[.box 0 58 (V1) (.u false),.box 3 41 (Qe) (.u false),.box 4 41 (Qe) (.u true),.val 5 (.bool) (.u false),.box 6 41 (Qe) (.u false),.val 12 (.int .i64) (.u false),.val 13 (.bool) (.u false)]
def Ze8(c0_1:Qm)(p3:Z1)(t4:Z1)(side5:Bool)(x6:Z1)(t12_1:Int)(t13:Bool):Option ((Z1×Unit)×(Qm×Unit)):=
 bif t13 then
  (Zrl c0_1).bind fun t18=>
  (Zeh p3 side5 t18.1.1).bind fun t23=>
  some ((t23.1.2.1,()),(t18.2.1,()))
 else
  bif t12_1==3 then
   Ze9 c0_1 p3 t4 side5 x6 t12_1 (t12_1==3)
  else
   bif t12_1==4 then
    Ze9 c0_1 p3 t4 side5 x6 t12_1 (t12_1==4)
   else
    Ze9 c0_1 p3 t4 side5 x6 t12_1 (t12_1==5)
def Zti(c0:Qm)(p1:Z1):Option ((Z1×Unit)×(Qm×Unit)):=
 (Zdb c0 (2:Int)).bind fun t9=>
 (Qo t9.2.1 (10:Int)).bind fun t12=>
 bif t12.1.1==0 then
  Ze8 t12.2.1 p1 Zb4 t9.1.1 p1 t12.1.1 (t12.1.1==0)
 else
  bif t12.1.1==1 then
   Ze8 t12.2.1 p1 Zb4 t9.1.1 p1 t12.1.1 (t12.1.1==1)
  else
   Ze8 t12.2.1 p1 Zb4 t9.1.1 p1 t12.1.1 (t12.1.1==2)
end Go.Proofs.YtpadmiphiogdhaaGreat

/- FnFairness: what the functions that it reaches compute, as plain functions, part 1. No condition. -/
import Derived.Test.YtdhchdiikmnmeaaGreatRows
import Derived.Test.YtdhchdiikmnmeaaGreatAm5
import Derived.Lib.AppendIntMem
import Derived.Lib.SplitLaws
import Derived.Lib.IndexMore
import Derived.Lib.Atoi
import Derived.Lib.AtoiBound
import Derived.Lib.Join
import Derived.Lib.ItoaNum
import Derived.Lib.ItoaLen
noncomputable section
namespace Go.Proofs.YtdhchdiikmnmeaaGreat
open Go.Am
set_option maxRecDepth 100000
set_option linter.unusedVariables false
abbrev Jv:Ty:= .pair (.int .i64) (.pair (.bool) (.unit))
abbrev Q9:Type:=Int×Bool×Unit
abbrev Z06:Ty:= .pair (.int .i64) (.pair (.str) (.unit))
abbrev Vg:Type:=Int×List UInt8×Unit
def Yb:Vg:=((0:Int),(([]:List UInt8),()))
abbrev Zt:Ty:= .pair (.int .i64) (.pair (.int .i64) (.unit))
abbrev Zc:Type:=Int×Int×Unit
def Zw:Zc:=((0:Int),((0:Int),()))
abbrev Zlx:Ty:= .pair (.int .i64) (Zt)
abbrev Ze8:Type:=Int×Zc
def Q2a:Ze8:=((0:Int),((0:Int),((0:Int),())))
abbrev Y9:Ty:= .pair (.int .i64) (.pair (.str) (.pair (.bool) (.unit)))
abbrev Z9:Type:=Int×List UInt8×Bool×Unit
def Zc2:Z9:=((0:Int),(([]:List UInt8),(false,())))
abbrev W9:Ty:= .pair (.slice 5 (.int .u8)) (Zt)
abbrev Qp:Type:=List Int×Zc
abbrev Q5:Ty:= .pair (.int .i64) (Zlx)
abbrev Qr:Type:=Int×Ze8
def Q8r:Qr:=((0:Int),((0:Int),((0:Int),((0:Int),()))))
abbrev Z7:Ty:= .pair (.int .i64) (.pair (Jv) (.unit))
abbrev Zk:Type:=Int×Q9×Unit
def Z5:Zk:=((0:Int),(((0:Int),(false,())),()))
abbrev Xw:Ty:= .pair (.int .i64) (.pair (.slice 267 (Z06)) (.unit))
abbrev Z3:Type:=Int×List Vg×Unit
def Q4h:Z3:=((0:Int),(([]:List Vg),()))
abbrev W8:Ty:= .pair (.int .i64) (.pair (.int .i64) (.pair (.int .i64) (.pair (.slice 3 (.int .i64)) (.unit))))
abbrev Xz:Type:=Int×Int×Int×List Int×Unit
def Qz5:Xz:=((0:Int),((0:Int),((0:Int),(([]:List Int),()))))
abbrev Ks:Ty:= .pair (.int .i64) (.pair (.int .i64) (Q5))
abbrev Qt:Type:=Int×Int×Qr
def Qgs:Qt:=((0:Int),((0:Int),((0:Int),((0:Int),((0:Int),((0:Int),()))))))
abbrev Ztq:Ty:= .pair (.int .i64) (.pair (.int .i64) (Ks))
abbrev Zq7:Type:=Int×Int×Qt
abbrev Zu:Ty:= .pair (.int .i64) (.pair (.int .i64) (.pair (.int .i64) (.pair (.str) (.pair (.bool) (.pair (.int .i64) (.pair (.int .i64) (Jv)))))))
abbrev Zf:Type:=Int×Int×Int×List UInt8×Bool×Int×Int×Q9
def Qq:Zf:=((0:Int),((0:Int),((0:Int),(([]:List UInt8),(false,((0:Int),((0:Int),((0:Int),(false,())))))))))
abbrev Q2:Ty:= .pair (.int .i64) (.pair (Xw) (Zlx))
abbrev Qe:Type:=Int×Z3×Ze8
def Z6m:Qe:=((0:Int),(((0:Int),(([]:List Vg),())),((0:Int),((0:Int),((0:Int),())))))
abbrev Yx:Ty:= .pair (.int .i64) (.pair (.slice 87 (Zu)) (.unit))
abbrev Z8:Type:=Int×List Zf×Unit
def Qj:Z8:=((0:Int),(([]:List Zf),()))
abbrev Z0:Ty:= .pair (.int .i64) (.pair (W8) (.pair (.slice 200 (Zt)) (.pair (.slice 200 (Zt)) (.pair (.slice 200 (Zt)) (Q5)))))
abbrev Zo:Type:=Int×Xz×List Zc×List Zc×List Zc×Qr
def We:Zo:=((0:Int),(((0:Int),((0:Int),((0:Int),(([]:List Int),())))),(([]:List Zc),(([]:List Zc),(([]:List Zc),((0:Int),((0:Int),((0:Int),((0:Int),())))))))))
abbrev Zy:Ty:= .pair (.int .i64) (.pair (Z0) (.pair (Q5) (.pair (Q2) (.pair (Ks) (.pair (Jv) (.pair (.bool) (.pair (.bool) (.pair (.bool) (.pair (.bool) (.pair (.bool) (.pair (.bool) (Jv))))))))))))
abbrev Zh:Type:=Int×Zo×Qr×Qe×Qt×Q9×Bool×Bool×Bool×Bool×Bool×Bool×Q9
def Zn:Zh:=((0:Int),(((0:Int),(((0:Int),((0:Int),((0:Int),(([]:List Int),())))),(([]:List Zc),(([]:List Zc),(([]:List Zc),((0:Int),((0:Int),((0:Int),((0:Int),()))))))))),(((0:Int),((0:Int),((0:Int),((0:Int),())))),(((0:Int),(((0:Int),(([]:List Vg),())),((0:Int),((0:Int),((0:Int),()))))),(((0:Int),((0:Int),((0:Int),((0:Int),((0:Int),((0:Int),())))))),(((0:Int),(false,())),(false,(false,(false,(false,(false,(false,((0:Int),(false,()))))))))))))))
abbrev Zq:Ty:= .pair (.bool) (.pair (Ztq) (.pair (Ztq) (.pair (.slice 75 (Zy)) (.pair (Q5) (.pair (Ks) (.pair (Zlx) (.pair (Zlx) (.pair (Q5) (.pair (Q5) (.pair (.bool) (.pair (.bool) (.pair (.bool) (.pair (.int .i64) (.pair (.int .i64) (.pair (.slice 59 (Yx)) (Zt))))))))))))))))
abbrev Ze:Type:=Bool×Zq7×Zq7×List Zh×Qr×Qt×Ze8×Ze8×Qr×Qr×Bool×Bool×Bool×Int×Int×List Z8×Zc
def Ji:Ze:=(false,(((0:Int),((0:Int),((0:Int),((0:Int),((0:Int),((0:Int),((0:Int),((0:Int),())))))))),(((0:Int),((0:Int),((0:Int),((0:Int),((0:Int),((0:Int),((0:Int),((0:Int),())))))))),(([]:List Zh),(((0:Int),((0:Int),((0:Int),((0:Int),())))),(((0:Int),((0:Int),((0:Int),((0:Int),((0:Int),((0:Int),())))))),(((0:Int),((0:Int),((0:Int),()))),(((0:Int),((0:Int),((0:Int),()))),(((0:Int),((0:Int),((0:Int),((0:Int),())))),(((0:Int),((0:Int),((0:Int),((0:Int),())))),(false,(false,(false,((0:Int),((0:Int),(([]:List Z8),((0:Int),((0:Int),()))))))))))))))))))
def Qrh(code0:List Int):Option (Bool×Unit):=some (decide ((code0.length:Int)>(1048576:Int)),())
abbrev Qnw:List PE:=[.val 0 (.slice 5 (.int .u8)) (.u false),.val 3 (.int .i64) (.u false),.val 4 (.int .i64) (.u false)]
def Zpf(code0_1:List Int)(h3:Int)(i4:Int):Nat:=((code0_1.length:Int)-i4).toNat+1
def Zod:Nat->List Int->Int->Int->Option ((Qp)×(Unit))|0,_,_,_=>none|N+1,code0_1,h3,i4=>bif(decide (i4< (code0_1.length:Int)))&& (decide (i4< (4000:Int)))then Zi (0<=i4/\i4<code0_1.length)<|Zod N code0_1 (bits .and .i64 (IntKind.i64.wrap ((IntKind.i64.wrap ((IntKind.i64.wrap (h3*131))+ (IntKind.i64.wrap (code0_1.getD i4.toNat (0:Int)))))+7)) (1073741823:Int)) (IntKind.i64.wrap (i4+1)) else some ((code0_1,((0:Int),(h3,()))),())
def Zjw(code0:List Int):Option ((Qp)×(Unit)):=
 let t7:Int:=IntKind.i64.wrap ((10101:Int)+ (code0.length:Int))
 Zod (Zpf code0 t7 (0:Int)) code0 t7 (0:Int)
def Zjb(c0:Qp):Option ((Int×Unit)×(Qp×Unit)):=
 let t10:Int:=IntKind.i64.wrap ((IntKind.i64.wrap (c0.2.2.1*6364136223846793005))+1442695040888963407)
 Zi (0<=(33:Int))<|
 Zi (0<=(45:Int))<|
 let t24:Int:=bits .and .i64 (bits .xor .i64 (t10.fdiv (2^ (min (33:Int).toNat IntKind.i64.bits))) (t10.fdiv (2^ (min (45:Int).toNat IntKind.i64.bits)))) (255:Int)
 bif decide (c0.2.1< (c0.1.length:Int))then
  Zi (0<=c0.2.1/\c0.2.1<c0.1.length)<|
  some ((bits .and .i64 (IntKind.i64.wrap (t24+ (IntKind.i64.wrap (c0.1.getD c0.2.1.toNat (0:Int))))) (255:Int),()),((c0.1,(IntKind.i64.wrap (c0.2.1+1),(t10,c0.2.2.2))),()))
 else
  some ((t24,()),((c0.1,(c0.2.1,(t10,c0.2.2.2))),()))
def Qm(c0:Qp)(n1:Int):Option ((Int×Unit)×(Qp×Unit)):=bif decide (n1<=(0:Int))then some (((0:Int),()),(c0,())) else bif decide (n1<=(256:Int))then (Zjb c0).bind fun t14=>Zi (n1≠0)<|some ((Int.tmod t14.1.1 n1,()),(t14.2.1,())) else (Zjb c0).bind fun t18=>(Zjb t18.2.1).bind fun t20=>(Zjb t20.2.1).bind fun t22=>(Zjb t22.2.1).bind fun t24=>Zi (n1≠0)<|some ((Int.tmod (IntKind.i64.wrap ((IntKind.i64.wrap ((IntKind.i64.wrap ((IntKind.i64.wrap (t18.1.1*16777216))+ (IntKind.i64.wrap (t20.1.1*65536))))+ (IntKind.i64.wrap (t22.1.1*256))))+t24.1.1)) n1,()),(t24.2.1,()))
def Zam(c0:Qp)(n1:Int):Option ((Bool×Unit)×(Qp×Unit)):=(Qm c0 n1).bind fun t7=>some ((t7.1.1==0,()),(t7.2.1,()))
def Zza:Option (Zq7×Unit):=some (((16:Int),((8:Int),((32:Int),((16:Int),((64:Int),((2:Int),((2:Int),((4:Int),())))))))),())
def Zq0(c0:Qp):Option ((Zq7×Unit)×(Qp×Unit)):=Option.bind Zza fun t4=>(Qm c0 (3:Int)).bind fun t6=>bif t6.1.1==0 then some ((((8:Int),((4:Int),(t4.1.2.2.1,((6:Int),(t4.1.2.2.2.2.1,((1:Int),t4.1.2.2.2.2.2.2)))))),()),(t6.2.1,())) else bif t6.1.1==1 then some (((t4.1.1,(t4.1.2.1,(t4.1.2.2.1,(t4.1.2.2.2.1,(t4.1.2.2.2.2.1,((3:Int),((1:Int),((2:Int),t4.1.2.2.2.2.2.2.2.2)))))))),()),(t6.2.1,())) else some ((t4.1,()),(t6.2.1,()))
def Zel(n0:Int):Option (Bool×Unit):=some (((decide (n0>(0:Int)))&& (decide (n0<=(64:Int))))&& ((bits .and .i64 n0 (IntKind.i64.wrap (n0-1)))==0),())
def Z4(x0:Int)(low1:Int)(high2:Int):Option (Bool×Unit):=some ((decide (x0>=low1))&& (decide (x0<=high2)),())
def V8(c0:Zq7):Option (Bool×Unit):=
 (Zel c0.1).bind fun t5=>
 (bif t5.1 then(Z4 c0.2.2.1 (1:Int) (4096:Int))else some (false,())).bind fun t9=>
 (bif(t5.1&&t9.1)then(Z4 c0.2.1 (1:Int) c0.2.2.1)else some (false,())).bind fun t16=>
 (bif((t5.1&&t9.1)&&t16.1)then(Z4 c0.2.2.2.2.1 (1:Int) (4096:Int))else some (false,())).bind fun t21=>
 let t22:Bool:=((t5.1&&t9.1)&&t16.1)&&t21.1
 (bif t22 then(Z4 c0.2.2.2.1 (1:Int) c0.2.2.2.2.1)else some (false,())).bind fun t28=>
 (bif(t22&&t28.1)then(Z4 c0.2.2.2.2.2.1 (0:Int) (1000:Int))else some (false,())).bind fun t33=>
 (bif((t22&&t28.1)&&t33.1)then(Z4 c0.2.2.2.2.2.2.1 (0:Int) (1000:Int))else some (false,())).bind fun t38=>
 let t39:Bool:=((t22&&t28.1)&&t33.1)&&t38.1
 (bif t39 then(Z4 c0.2.2.2.2.2.2.2.1 (1:Int) (1000:Int))else some (false,())).bind fun t43=>
 some (t39&&t43.1,())
def Qi(n0:Int):Option (Bool×Unit):=(Z4 n0 (0:Int) (4611686018427387903:Int)).bind fun t4=>some (t4.1,())
def Zcr(limit0:Int):Option (Qr×Bool×Unit):=(Qi limit0).bind fun t5=>bif !t5.1 then some (Q8r,false,()) else some ((limit0,((0:Int),((-1:Int),((-1:Int),())))),true,())
def Zct(size0:Int)(most1:Int):Option (Qt×Bool×Unit):=(Z4 most1 (1:Int) (4096:Int)).bind fun t7=>(bif(!t7.1)then some (false,())else(Z4 size0 (1:Int) most1)).bind fun t12=>bif(!t7.1)|| (!t12.1)then some (Qgs,false,()) else some ((size0,(most1,(size0,Q2a))),true,())
def Zky(limit0:Int):Option (Ze8×Bool×Unit):=(Z4 limit0 (0:Int) (1152921504606846976:Int)).bind fun t5=>bif !t5.1 then some (Q2a,false,()) else some ((limit0,((0:Int),((-1:Int),()))),true,())
def Zkx(most0:Int):Option (Qr×Bool×Unit):=(Z4 most0 (0:Int) (1000:Int)).bind fun t5=>bif !t5.1 then some (Q8r,false,()) else some ((most0,(most0,((0:Int),((0:Int),())))),true,())
def Znc(server0:Bool)(own1:Zq7)(peer2:Zq7):Option (Ze×Bool×Unit):=(V8 own1).bind fun t22=>(bif(!t22.1)then some (false,())else(V8 peer2)).bind fun t26=>bif(!t22.1)|| (!t26.1)then some (Ji,false,()) else (Zcr peer2.2.2.2.1).bind fun t37=>(Zct own1.2.2.2.1 own1.2.2.2.2.1).bind fun t47=>(Zky peer2.2.2.2.2.2.1).bind fun t55=>(Zky peer2.2.2.2.2.2.2.1).bind fun t63=>(Zkx own1.2.2.2.2.2.1).bind fun t71=>(Zkx own1.2.2.2.2.2.2.1).bind fun t79=>some ((server0,(own1,(peer2,(([]:List Zh),(t37.1,(t47.1,(t55.1,(t63.1,(t71.1,(t79.1,(false,(false,(false,((-1:Int),((0:Int),(([]:List Z8),((0:Int),((0:Int),())))))))))))))))))),true,())
def Zps(r0:Xz):Option (Xz×Unit):=Zi (([]:List Int).length+r0.2.2.2.1.length<=Qg)<|some ((r0.1,(r0.2.1,(r0.2.2.1,(([]:List Int)++r0.2.2.2.1,())))),())
def Zhe(l0:List Zc):Option (List Zc×Unit):=Zi (([]:List Zc).length+l0.length<=Qg)<|some (([]:List Zc)++l0,())
def Zc0(s0:Zo):Option (Zo×Unit):=(Zps s0.2.1).bind fun t7=>(Zhe s0.2.2.1).bind fun t10=>(Zhe s0.2.2.2.1).bind fun t13=>(Zhe s0.2.2.2.2.1).bind fun t16=>some ((s0.1,(t7.1,(t10.1,(t13.1,(t16.1,(s0.2.2.2.2.2.1,(s0.2.2.2.2.2.2.1,(s0.2.2.2.2.2.2.2.1,(s0.2.2.2.2.2.2.2.2.1,()))))))))),())
def Zjc(b0:Z3):Option (Z3×Unit):=Zi (([]:List Vg).length+b0.2.1.length<=Qg)<|some ((b0.1,(([]:List Vg)++b0.2.1,())),())
def Zmx(r0:Qe):Option (Qe×Unit):=(Zjc r0.2.1).bind fun t7=>some ((r0.1,(t7.1,(r0.2.2.1,(r0.2.2.2.1,(r0.2.2.2.2.1,()))))),())
def Zej(s0:Zh):Option (Zh×Unit):=(Zc0 s0.2.1).bind fun t7=>(Zmx s0.2.2.2.1).bind fun t11=>some ((s0.1,(t7.1,(s0.2.2.1,(t11.1,s0.2.2.2.2)))),())
abbrev Z5s:List PE:=[.val 0 (.slice 59 (Yx)) (.u false),.val 3 (.slice 59 (Yx)) (.u true),.val 4 (.int .i64) (.u false)]
def Zi2(l0_1:List Z8)(out3:List Z8)(i4:Int):Nat:=((l0_1.length:Int)-i4).toNat+1
def Zf0:Nat->List Z8->List Z8->Int->Option (List Z8×Unit)
 |0,_,_,_=>none
 |N+1,l0_1,out3,i4=>
  bif decide (i4< (l0_1.length:Int))then
   Zi (0<=i4/\i4<l0_1.length)<|
   Zi (0<=i4/\i4<l0_1.length)<|
   Zi (([]:List Zf).length+ (l0_1.getD i4.toNat Qj).2.1.length<=Qg)<|
   let t26:List Z8:=[((l0_1.getD i4.toNat Qj).1,(([]:List Zf)++ (l0_1.getD i4.toNat Qj).2.1,()))]
   Zi (out3.length+t26.length<=Qg)<|
   Zf0 N l0_1 (out3++t26) (IntKind.i64.wrap (i4+1))
  else
   some (out3,())
def Zo1(l0:List Z8):Option (List Z8×Unit):=Zf0 (Zi2 l0 ([]:List Z8) (0:Int)) l0 ([]:List Z8) (0:Int)
abbrev Qf4:List PE:=[.box 1 37 (Zq) (.u false),.box 2 37 (Zq) (.u true),.box 3 37 (Zq) (.p (.u false) (.p (.u false) (.p (.u false) (.p (.u true) (.u false))))),.val 4 (.int .i64) (.u false)]
def Zmr(c1:Ze)(t2:Ze)(x3:Ze)(i4:Int):Nat:=((c1.2.2.2.1.length:Int)-i4).toNat+1
def Zkh:Nat->Ze->Ze->Ze->Int->Option (Ze×Unit)|0,_,_,_,_=>none|N+1,c1,t2,x3,i4=>bif decide (i4< (c1.2.2.2.1.length:Int))then Zi (0<=i4/\i4<c1.2.2.2.1.length)<|(Zej (c1.2.2.2.1.getD i4.toNat Zn)).bind fun t21=>Zi (x3.2.2.2.1.length+ ([t21.1]).length<=Qg)<|Zkh N c1 t2 (x3.1,(x3.2.1,(x3.2.2.1,(x3.2.2.2.1++ ([t21.1]),x3.2.2.2.2)))) (IntKind.i64.wrap (i4+1)) else (Zo1 c1.2.2.2.2.2.2.2.2.2.2.2.2.2.2.2.1).bind fun t30=>some ((x3.1,(x3.2.1,(x3.2.2.1,(x3.2.2.2.1,(x3.2.2.2.2.1,(x3.2.2.2.2.2.1,(x3.2.2.2.2.2.2.1,(x3.2.2.2.2.2.2.2.1,(x3.2.2.2.2.2.2.2.2.1,(x3.2.2.2.2.2.2.2.2.2.1,(x3.2.2.2.2.2.2.2.2.2.2.1,(x3.2.2.2.2.2.2.2.2.2.2.2.1,(x3.2.2.2.2.2.2.2.2.2.2.2.2.1,(x3.2.2.2.2.2.2.2.2.2.2.2.2.2.1,(x3.2.2.2.2.2.2.2.2.2.2.2.2.2.2.1,(t30.1,x3.2.2.2.2.2.2.2.2.2.2.2.2.2.2.2.2)))))))))))))))),())
def Z6(c0:Ze):Option (Ze×Unit):=Zkh (Zmr c0 Ji (c0.1,(c0.2.1,(c0.2.2.1,(([]:List Zh),c0.2.2.2.2)))) (0:Int)) c0 Ji (c0.1,(c0.2.1,(c0.2.2.1,(([]:List Zh),c0.2.2.2.2)))) (0:Int)
abbrev Qjz:List PE:=[.box 1 63 (W8) (.u false),.val 3 (.int .i64) (.u false)]
def Zae(r1:Xz)(i3:Int):Nat:=((r1.2.2.2.1.length:Int)-i3).toNat+1
def Zfs:Nat->Xz->Int->Option (Bool×Unit)|0,_,_=>none|N+1,r1,i3=>bif decide (i3< (r1.2.2.2.1.length:Int))then Zi (0<=i3/\i3<r1.2.2.2.1.length)<|(Z4 (r1.2.2.2.1.getD i3.toNat (0:Int)) (0:Int) (255:Int)).bind fun t55=>bif !t55.1 then some (false,()) else Zfs N r1 (IntKind.i64.wrap (i3+1)) else some (true,())
def Zcp(r0:Xz):Option (Bool×Unit):=(Zel r0.1).bind fun t6=>bif(((((!t6.1)|| ((r0.2.2.2.1.length:Int) !=r0.1))|| (decide (r0.2.1< (0:Int))))|| (decide (r0.2.2.1<r0.2.1)))|| (decide ((IntKind.i64.wrap (r0.2.2.1-r0.2.1))>r0.1)))|| (decide (r0.2.2.1>(4611686018427387903:Int)))then some (false,()) else Zfs (Zae r0 (0:Int)) r0 (0:Int)
def Zs5(r0:Zc):Option (Bool×Unit):=some (((decide (r0.1>=(0:Int)))&& (decide (r0.1<r0.2.1)))&& (decide (r0.2.1<=(4611686018427387903:Int))),())
abbrev Qcc:List PE:=[.val 0 (.slice 200 (Zt)) (.u false),.val 3 (.int .i64) (.u false)]
def Za7(l0_1:List Zc)(i3:Int):Nat:=((l0_1.length:Int)-i3).toNat+1
def V9:Nat->List Zc->Int->Option (Bool×Unit)|0,_,_=>none|N+1,l0_1,i3=>bif decide (i3< (l0_1.length:Int))then Zi (0<=i3/\i3<l0_1.length)<|(Zs5 (l0_1.getD i3.toNat Zw)).bind fun t14=>Zi (((!t14.1)=false->((decide (i3>(0:Int)))=true->(0<=(IntKind.i64.wrap (i3-1))/\(IntKind.i64.wrap (i3-1))<l0_1.length))))<|Zi (((!t14.1)=false->((decide (i3>(0:Int)))=true->(0<=i3/\i3<l0_1.length))))<|bif(!t14.1)|| ((decide (i3>(0:Int)))&& (decide ((l0_1.getD (IntKind.i64.wrap (i3-1)).toNat Zw).2.1>=(l0_1.getD i3.toNat Zw).1)))then some (false,()) else V9 N l0_1 (IntKind.i64.wrap (i3+1)) else some (true,())
def Y5(l0:List Zc):Option (Bool×Unit):=V9 (Za7 l0 (0:Int)) l0 (0:Int)
abbrev Qb5:List PE:=[.val 0 (.slice 200 (Zt)) (.u false),.box 3 200 (Zt) (.u false),.val 5 (.slice 200 (Zt)) (.u true),.val 6 (.bool) (.u false),.val 7 (.int .i64) (.u false)]
def V4(K1: (List Zc×Zc×List Zc×Bool×Int×Unit)->Option (List Zc×Unit))(l0_2:List Zc)(r3_1:Zc)(out5_1:List Zc)(placed6_1:Bool)(i7_1:Int):Option (List Zc×Unit):=K1 (l0_2,r3_1,out5_1,placed6_1,IntKind.i64.wrap (i7_1+1),())
abbrev Qb6:List PE:=[.val 0 (.slice 200 (Zt)) (.u false),.box 3 200 (Zt) (.u false),.val 5 (.slice 200 (Zt)) (.u true),.val 6 (.bool) (.u false),.val 7 (.int .i64) (.u false)]
def Zir(K1: (List Zc×Zc×List Zc×Bool×Int×Unit)->Option (List Zc×Unit))(l0_3:List Zc)(r3_2:Zc)(out5_2:List Zc)(placed6_2:Bool)(i7_2:Int):Option (List Zc×Unit):=Zi (0<=i7_2/\i7_2<l0_3.length)<|Zi (out5_2.length+ ([(l0_3.getD i7_2.toNat Zw)]).length<=Qg)<|V4 K1 l0_3 r3_2 (out5_2++ ([(l0_3.getD i7_2.toNat Zw)])) placed6_2 i7_2
abbrev Qb7:List PE:=[.val 0 (.slice 200 (Zt)) (.u false),.box 3 200 (Zt) (.u false),.val 5 (.slice 200 (Zt)) (.u true),.val 6 (.bool) (.u false),.val 7 (.int .i64) (.u false)]
def Zf4(l0_1:List Zc)(r3:Zc)(out5:List Zc)(placed6:Bool)(i7:Int):Nat:=((l0_1.length:Int)-i7).toNat+1
def Yj:Nat->List Zc->Zc->List Zc->Bool->Int->Option (List Zc×Unit)|0,_,_,_,_,_=>none|N+1,l0_1,r3,out5,placed6,i7=>bif decide (i7< (l0_1.length:Int))then Zi (0<=i7/\i7<l0_1.length)<|bif decide ((l0_1.getD i7.toNat Zw).2.1<r3.1)then Zi (0<=i7/\i7<l0_1.length)<|Zi (out5.length+ ([(l0_1.getD i7.toNat Zw)]).length<=Qg)<|V4 (fun v=>Yj N v.1 v.2.1 v.2.2.1 v.2.2.2.1 v.2.2.2.2.1) l0_1 r3 (out5++ ([(l0_1.getD i7.toNat Zw)])) placed6 i7 else Zi (0<=i7/\i7<l0_1.length)<|bif decide ((l0_1.getD i7.toNat Zw).1>r3.2.1)then bif !placed6 then Zi (out5.length+ ([r3]).length<=Qg)<|Zir (fun v=>Yj N v.1 v.2.1 v.2.2.1 v.2.2.2.1 v.2.2.2.2.1) l0_1 r3 (out5++ ([r3])) true i7 else Zir (fun v=>Yj N v.1 v.2.1 v.2.2.1 v.2.2.2.1 v.2.2.2.2.1) l0_1 r3 out5 placed6 i7 else Zi (0<=i7/\i7<l0_1.length)<|Zi (0<=i7/\i7<l0_1.length)<|V4 (fun v=>Yj N v.1 v.2.1 v.2.2.1 v.2.2.2.1 v.2.2.2.2.1) l0_1 (min r3.1 (l0_1.getD i7.toNat Zw).1,(max r3.2.1 (l0_1.getD i7.toNat Zw).2.1,r3.2.2)) out5 placed6 i7 else bif !placed6 then Zi (out5.length+ ([r3]).length<=Qg)<|some (out5++ ([r3]),()) else some (out5,())
def Vk(l0:List Zc)(r1:Zc):Option (List Zc×Unit):=(Y5 l0).bind fun t9=>(bif(!t9.1)then some (false,())else(Zs5 r1)).bind fun t13=>bif(!t9.1)|| (!t13.1)then (Zhe l0).bind fun t17=>some (t17.1,()) else Yj (Zf4 l0 r1 ([]:List Zc) false (0:Int)) l0 r1 ([]:List Zc) false (0:Int)
abbrev Z0w:List PE:=[.val 0 (.slice 200 (Zt)) (.u false),.val 3 (.int .i64) (.u false),.val 4 (.int .i64) (.u false)]
def Zaw(l0_1:List Zc)(n3:Int)(i4:Int):Nat:=((l0_1.length:Int)-i4).toNat+1
def Kd:Nat->List Zc->Int->Int->Option (Int×Unit)|0,_,_,_=>none|N+1,l0_1,n3,i4=>bif decide (i4< (l0_1.length:Int))then Zi (0<=i4/\i4<l0_1.length)<|Zi (0<=i4/\i4<l0_1.length)<|Kd N l0_1 (IntKind.i64.wrap ((IntKind.i64.wrap (n3+ (l0_1.getD i4.toNat Zw).2.1))- (l0_1.getD i4.toNat Zw).1)) (IntKind.i64.wrap (i4+1)) else some (n3,())
def Vc(l0:List Zc):Option (Int×Unit):=(Y5 l0).bind fun t6=>bif !t6.1 then some ((-1:Int),()) else Kd (Zaw l0 (0:Int) (0:Int)) l0 (0:Int) (0:Int)
abbrev Qb9:List PE:=[.val 0 (.slice 200 (Zt)) (.u false),.val 1 (.int .i64) (.u false),.val 5 (.int .i64) (.u false)]
def Ziu(K1: (List Zc×Int×Int×Unit)->Option (Int×Unit))(l0_2:List Zc)(from1_2:Int)(i5_1:Int):Option (Int×Unit):=K1 (l0_2,from1_2,IntKind.i64.wrap (i5_1+1),())
abbrev Qca:List PE:=[.val 0 (.slice 200 (Zt)) (.u false),.val 1 (.int .i64) (.u false),.val 5 (.int .i64) (.u false)]
def Zld(l0_1:List Zc)(from1_1:Int)(i5:Int):Nat:=((l0_1.length:Int)-i5).toNat+1
def J3:Nat->List Zc->Int->Int->Option (Int×Unit)
 |0,_,_,_=>none
 |N+1,l0_1,from1_1,i5=>
  bif decide (i5< (l0_1.length:Int))then
   Zi (0<=i5/\i5<l0_1.length)<|
   let t25:Bool:=decide (from1_1>=(l0_1.getD i5.toNat Zw).1)
   Zi ((t25=true->(0<=i5/\i5<l0_1.length)))<|
   bif t25&& (decide (from1_1< (l0_1.getD i5.toNat Zw).2.1))then
    Zi (0<=i5/\i5<l0_1.length)<|
    Ziu (fun v=>J3 N v.1 v.2.1 v.2.2.1) l0_1 (l0_1.getD i5.toNat Zw).2.1 i5
   else
    Ziu (fun v=>J3 N v.1 v.2.1 v.2.2.1) l0_1 from1_1 i5
  else
   some (from1_1,())
def Zhl(l0:List Zc)(from1:Int):Option (Int×Unit):=(Y5 l0).bind fun t7=>bif(!t7.1)|| (decide (from1< (0:Int)))then some ((-1:Int),()) else J3 (Zld l0 from1 (0:Int)) l0 from1 (0:Int)
def J5(s0:Zo):Option (Int×Unit):=bif(s0.2.2.2.2.2.2.1==3)&& (s0.2.1.2.1==s0.2.1.2.2.1)then some ((3:Int),()) else bif(decide (s0.2.2.2.2.2.2.1>(1:Int)))|| ((s0.2.2.2.2.2.2.1==1)&& (s0.1==2))then some ((2:Int),()) else bif(decide (s0.2.2.2.2.2.2.2.1>(0:Int)))|| ((s0.2.2.2.2.2.2.1==1)&& (s0.1==1))then some ((1:Int),()) else some ((0:Int),())
abbrev Qcg:List PE:=[.box 1 66 (Z0) (.u false),.val 8 (.int .i64) (.u false)]
def Zf6(s1_3:Zo)(i8:Int):Nat:=((s1_3.2.2.2.2.1.length:Int)-i8).toNat+1
def Zbu:Nat->Zo->Int->Option (Bool×Unit)|0,_,_=>none|N+1,s1_3,i8=>bif decide (i8< (s1_3.2.2.2.2.1.length:Int))then Zi (0<=i8/\i8<s1_3.2.2.2.2.1.length)<|bif decide ((s1_3.2.2.2.2.1.getD i8.toNat Zw).2.1>s1_3.2.2.2.2.2.2.2.1)then some (false,()) else Zbu N s1_3 (IntKind.i64.wrap (i8+1)) else bif(!((s1_3.2.2.2.2.2.2.1==0)==(s1_3.2.2.2.2.2.1==(-1:Int))))|| ((s1_3.2.2.2.2.2.1 !=(-1:Int))&& (s1_3.2.2.2.2.2.1 !=s1_3.2.1.2.2.1))then some (false,()) else (J5 s1_3).bind fun t244=>some (s1_3.1==t244.1,())
abbrev Qcf:List PE:=[.box 1 66 (Z0) (.u false),.val 7 (.int .i64) (.u false)]
def Za9(s1_2:Zo)(i7:Int):Nat:=((s1_2.2.2.2.1.length:Int)-i7).toNat+1
def Zbt:Nat->Zo->Int->Option (Bool×Unit)|0,_,_=>none|N+1,s1_2,i7=>bif decide (i7< (s1_2.2.2.2.1.length:Int))then Zi (0<=i7/\i7<s1_2.2.2.2.1.length)<|bif decide ((s1_2.2.2.2.1.getD i7.toNat Zw).2.1>s1_2.2.2.2.2.2.2.2.1)then some (false,()) else Zbt N s1_2 (IntKind.i64.wrap (i7+1)) else Zbu (Zf6 s1_2 (0:Int)) s1_2 (0:Int)
abbrev Qce:List PE:=[.box 1 66 (Z0) (.u false),.val 3 (.slice 200 (Zt)) (.u false),.val 5 (.int .i64) (.u false)]
def Za8(s1_1:Zo)(all3_1:List Zc)(i5:Int):Nat:=((s1_1.2.2.2.2.1.length:Int)-i5).toNat+1
def Zbs:Nat->Zo->List Zc->Int->Option (Bool×Unit)
 |0,_,_,_=>none
 |N+1,s1_1,all3_1,i5=>
  bif decide (i5< (s1_1.2.2.2.2.1.length:Int))then
   Zi (0<=i5/\i5<s1_1.2.2.2.2.1.length)<|
   (Vk all3_1 (s1_1.2.2.2.2.1.getD i5.toNat Zw)).bind fun t134=>
   Zbs N s1_1 t134.1 (IntKind.i64.wrap (i5+1))
  else
   (Vc s1_1.2.2.1).bind fun t137=>
   (Vc s1_1.2.2.2.1).bind fun t140=>
   (Vc s1_1.2.2.2.2.1).bind fun t144=>
   (Vc all3_1).bind fun t147=>
   let t158:Bool:=(t147.1 !=s1_1.2.1.2.2.1)|| ((IntKind.i64.wrap ((IntKind.i64.wrap (t137.1+t140.1))+t144.1)) !=s1_1.2.1.2.2.1)
   Zi ((t158=false->((decide (s1_1.2.1.2.2.1>(0:Int)))=true->(0<=(0:Int)/\(0:Int)<all3_1.length))))<|
   let t174:Bool:=t158|| ((decide (s1_1.2.1.2.2.1>(0:Int)))&& ((all3_1.getD (0:Int).toNat Zw).2.1 !=s1_1.2.1.2.2.1))
   (bif t174 then some ((0:Int),())else(Zhl s1_1.2.2.2.2.1 (0:Int))).bind fun t178=>
   bif(t174|| (t178.1 !=s1_1.2.1.2.1))|| (s1_1.2.2.2.2.2.2.2.2.1 !=0)then
    some (false,())
   else
    Zbt (Za9 s1_1 (0:Int)) s1_1 (0:Int)
abbrev Qcd:List PE:=[.box 1 66 (Z0) (.u false),.val 3 (.slice 200 (Zt)) (.u false),.val 4 (.int .i64) (.u false)]
def Yz(s1:Zo)(Qsu:List Zc)(i4:Int):Nat:=((s1.2.2.2.1.length:Int)-i4).toNat+1
def Zbr:Nat->Zo->List Zc->Int->Option (Bool×Unit)|0,_,_,_=>none|N+1,s1,Qsu,i4=>bif decide (i4< (s1.2.2.2.1.length:Int))then Zi (0<=i4/\i4<s1.2.2.2.1.length)<|(Vk Qsu (s1.2.2.2.1.getD i4.toNat Zw)).bind fun t120=>Zbr N s1 t120.1 (IntKind.i64.wrap (i4+1)) else Zbs (Za8 s1 Qsu (0:Int)) s1 Qsu (0:Int)
def Xv(s0:Zo):Option (Bool×Unit):=
 (Zcp s0.2.1).bind fun t11=>
 (bif(!t11.1)then some (false,())else(Y5 s0.2.2.1)).bind fun t16=>
 (bif((!t11.1)|| (!t16.1))then some (false,())else(Y5 s0.2.2.2.1)).bind fun t22=>
 let t24:Bool:=((!t11.1)|| (!t16.1))|| (!t22.1)
 (bif t24 then some (false,())else(Y5 s0.2.2.2.2.1)).bind fun t28=>
 (bif(t24|| (!t28.1))then some (false,())else(Z4 s0.2.2.2.2.2.2.2.1 (0:Int) s0.2.1.2.2.1)).bind fun t37=>
 let t39:Bool:=(t24|| (!t28.1))|| (!t37.1)
 (bif t39 then some (false,())else(Qi s0.2.2.2.2.2.2.2.2.1)).bind fun t43=>
 (bif(t39|| (!t43.1))then some (false,())else(Z4 s0.2.2.2.2.2.2.1 (0:Int) (3:Int))).bind fun t49=>
 bif(t39|| (!t43.1))|| (!t49.1)then
  some (false,())
 else
  bif(s0.1==4)|| (s0.1==5)then
   some (((((((s0.2.1.2.1==s0.2.1.2.2.1)&& ((s0.2.2.1.length:Int)==(0:Int)))&& ((s0.2.2.2.1.length:Int)==(0:Int)))&& ((s0.2.2.2.2.1.length:Int)==(0:Int)))&& (s0.2.2.2.2.2.1==s0.2.2.2.2.2.2.2.1))&& (s0.2.2.2.2.2.2.1==0))&& (s0.2.2.2.2.2.2.2.1==s0.2.1.2.2.1),())
  else
   Zbr (Yz s0 s0.2.2.1 (0:Int)) s0 s0.2.2.1 (0:Int)
def Yd(c0:Qr):Option (Bool×Unit):=(Qi c0.1).bind fun t5=>(bif t5.1 then(Z4 c0.2.1 (0:Int) c0.1)else some (false,())).bind fun t11=>(bif(t5.1&&t11.1)then(Z4 c0.2.2.1 (-1:Int) c0.1)else some (false,())).bind fun t18=>(bif((t5.1&&t11.1)&&t18.1)then(Z4 c0.2.2.2.1 (-1:Int) c0.1)else some (false,())).bind fun t25=>some (((t5.1&&t11.1)&&t18.1)&&t25.1,())
abbrev Qcb:List PE:=[.box 1 69 (Xw) (.u false),.val 3 (.int .i64) (.u false),.val 4 (.int .i64) (.u false)]
def Zle(b1:Z3)(end3:Int)(i4:Int):Nat:=((b1.2.1.length:Int)-i4).toNat+1
def Ze2:Nat->Z3->Int->Int->Option (Bool×Unit)|0,_,_,_=>none|N+1,b1,end3,i4=>bif decide (i4< (b1.2.1.length:Int))then Zi (0<=i4/\i4<b1.2.1.length)<|bif((decide ((b1.2.1.getD i4.toNat Yb).1<=end3))|| ((b1.2.1.getD i4.toNat Yb).2.1==([]:List UInt8)))|| (decide ((b1.2.1.getD i4.toNat Yb).1>(IntKind.i64.wrap ((4611686018427387903:Int)- ((b1.2.1.getD i4.toNat Yb).2.1.length:Int)))))then some (false,()) else Ze2 N b1 (IntKind.i64.wrap ((b1.2.1.getD i4.toNat Yb).1+ ((b1.2.1.getD i4.toNat Yb).2.1.length:Int))) (IntKind.i64.wrap (i4+1)) else (Qi b1.1).bind fun t47=>some (t47.1,())
def Zep(b0:Z3):Option (Bool×Unit):=Ze2 (Zle b0 (IntKind.i64.wrap (b0.1-1)) (0:Int)) b0 (IntKind.i64.wrap (b0.1-1)) (0:Int)
def Zrp(b0:Z3):Option (Int×Unit):=
 (bif((b0.2.1.length:Int)==(0:Int))then some (false,())else(Zep b0)).bind fun t10=>
 bif((b0.2.1.length:Int)==(0:Int))|| (!t10.1)then
  some (b0.1,())
 else
  let t20:Int:=IntKind.i64.wrap ((b0.2.1.length:Int)- (1:Int))
  Zi (0<=t20/\t20<b0.2.1.length)<|
  some (IntKind.i64.wrap ((b0.2.1.getD t20.toNat Yb).1+ ((b0.2.1.getD t20.toNat Yb).2.1.length:Int)),())
def Zal(b0:Z3):Option (Int×Unit):=
 (Zep b0).bind fun t4=>
 let t11:Bool:=(!t4.1)|| ((b0.2.1.length:Int)==(0:Int))
 Zi ((t11=false->(0<=(0:Int)/\(0:Int)<b0.2.1.length)))<|
 bif t11|| ((b0.2.1.getD (0:Int).toNat Yb).1 !=b0.1)then
  some ((0:Int),())
 else
  Zi (0<=(0:Int)/\(0:Int)<b0.2.1.length)<|
  some (((b0.2.1.getD (0:Int).toNat Yb).2.1.length:Int),())
abbrev Z5g:List PE:=[.box 1 71 (Q2) (.u false),.val 114 (.bool) (.u false)]
def Yt(r1:Qe)(t114:Bool):Option (Bool×Unit):=bif t114 then some (((r1.2.2.1 !=(-1:Int))&& (r1.2.2.2.1==r1.2.2.1))&& ((r1.2.1.2.1.length:Int)==(0:Int)),()) else some (false,())
def X4(r0:Qe):Option (Bool×Unit):=
 (Zep r0.2.1).bind fun t6=>
 (bif(!t6.1)then some (false,())else(Qi r0.2.2.2.1)).bind fun t11=>
 (bif((!t6.1)|| (!t11.1))then some ((0:Int),())else(Zrp r0.2.1)).bind fun t17=>
 let t21:Bool:=((!t6.1)|| (!t11.1))|| (decide (t17.1>r0.2.2.2.1))
 (bif t21 then some (false,())else(Qi r0.2.2.2.2.1)).bind fun t25=>
 bif(((t21|| (!t25.1))|| ((r0.2.2.1 !=(-1:Int))&& (decide (r0.2.2.1<r0.2.2.2.1))))|| (decide (r0.2.2.1>(4611686018427387903:Int))))|| (decide (r0.2.2.1< (-1:Int)))then
  some (false,())
 else
  (bif(r0.2.2.1 !=(-1:Int))then(Zal r0.2.1)else some ((0:Int),())).bind fun t59=>
  let t64:Bool:=(r0.2.2.1 !=(-1:Int))&& ((IntKind.i64.wrap (r0.2.1.1+t59.1))==r0.2.2.1)
  bif r0.1==0 then
   some ((r0.2.2.1==(-1:Int))&& (r0.2.2.2.2.1==0),())
  else
   bif r0.1==1 then
    some (((r0.2.2.1 !=(-1:Int))&& (!t64))&& (r0.2.2.2.2.1==0),())
   else
    bif r0.1==2 then
     some (t64&& (r0.2.2.2.2.1==0),())
    else
     bif r0.1==3 then
      some ((t64&& ((r0.2.1.2.1.length:Int)==(0:Int)))&& (r0.2.2.2.2.1==0),())
     else
      bif r0.1==4 then
       Yt r0 (r0.1==4)
      else
       Yt r0 (r0.1==5)
def Vl(w0:Qt):Option (Bool×Unit):=
 (Z4 w0.2.1 (1:Int) (4096:Int)).bind fun t5=>
 (bif t5.1 then(Z4 w0.1 (1:Int) w0.2.1)else some (false,())).bind fun t11=>
 (bif(t5.1&&t11.1)then(Z4 w0.2.2.1 (1:Int) (4611686018427387903:Int))else some (false,())).bind fun t16=>
 (bif((t5.1&&t11.1)&&t16.1)then(Z4 w0.2.2.2.1 (0:Int) w0.2.2.1)else some (false,())).bind fun t23=>
 let t24:Bool:=((t5.1&&t11.1)&&t16.1)&&t23.1
 (bif t24 then(Z4 w0.2.2.2.2.1 (0:Int) w0.2.2.2.1)else some (false,())).bind fun t30=>
 let t41:Bool:=(t24&&t30.1)&& (decide (w0.2.2.1<=(IntKind.i64.wrap (w0.2.2.2.2.1+w0.1))))
 (bif t41 then(Z4 w0.2.2.2.2.2.1 (0:Int) (1000000:Int))else some (false,())).bind fun t45=>
 some (t41&&t45.1,())
def Vo(p0:Q9):Option (Bool×Unit):=(Z4 p0.1 (0:Int) (7:Int)).bind fun t5=>some (t5.1,())
def Zb9(s0:Zh):Option (Bool×Unit):=
 (Qi s0.1).bind fun t5=>
 (bif(!t5.1)then some (false,())else(Xv s0.2.1)).bind fun t10=>
 (bif((!t5.1)|| (!t10.1))then some (false,())else(Yd s0.2.2.1)).bind fun t16=>
 let t18:Bool:=((!t5.1)|| (!t10.1))|| (!t16.1)
 (bif t18 then some (false,())else(X4 s0.2.2.2.1)).bind fun t22=>
 (bif(t18|| (!t22.1))then some (false,())else(Vl s0.2.2.2.2.1)).bind fun t28=>
 let t30:Bool:=(t18|| (!t22.1))|| (!t28.1)
 (bif t30 then some (false,())else(Vo s0.2.2.2.2.2.1)).bind fun t34=>
 (bif(t30|| (!t34.1))then some (false,())else(Qi s0.2.2.2.2.2.2.2.2.2.2.2.2.1)).bind fun t40=>
 bif((t30|| (!t34.1))|| (!t40.1))|| ((!s0.2.2.2.2.2.2.1)&& (!s0.2.2.2.2.2.2.2.1))then
  some (false,())
 else
  bif((((decide (s0.2.1.2.2.2.2.2.2.2.1>s0.2.2.1.2.1))|| (decide (s0.2.2.2.1.2.2.2.1>s0.2.2.2.2.1.2.2.2.1)))|| (s0.2.2.2.2.2.2.2.2.1&& (s0.2.1.1 !=4)))|| (s0.2.2.2.2.2.2.2.2.2.1&& (!s0.2.2.2.2.2.2.2.2.2.2.2.1)))|| ((s0.2.2.2.2.2.2.2.2.2.2.2.2.1 !=0)&& (!s0.2.2.2.2.2.2.2.2.2.2.2.1))then
   some (false,())
  else
   some ((s0.2.2.2.2.2.2.1|| (((s0.2.1.1==0)&& (s0.2.1.2.1.2.2.1==0))&& (s0.2.1.2.2.2.2.2.1==(-1:Int))))&& (s0.2.2.2.2.2.2.2.1|| (((s0.2.2.2.1.1==0)&& (s0.2.2.2.1.2.2.2.1==0))&& (!s0.2.2.2.2.2.2.2.2.2.2.2.1))),())
abbrev Z45:List PE:=[.val 0 (.slice 75 (Zy)) (.u false),.val 3 (.int .i64) (.u false)]
def V5(l0_1:List Zh)(i3:Int):Nat:=((l0_1.length:Int)-i3).toNat+1
def X6:Nat->List Zh->Int->Option (Bool×Unit)|0,_,_=>none|N+1,l0_1,i3=>bif decide (i3< (l0_1.length:Int))then Zi (0<=i3/\i3<l0_1.length)<|(Zb9 (l0_1.getD i3.toNat Zn)).bind fun t14=>Zi (((!t14.1)=false->((decide (i3>(0:Int)))=true->(0<=i3/\i3<l0_1.length))))<|Zi (((!t14.1)=false->((decide (i3>(0:Int)))=true->(0<=(IntKind.i64.wrap (i3-1))/\(IntKind.i64.wrap (i3-1))<l0_1.length))))<|bif(!t14.1)|| ((decide (i3>(0:Int)))&& (decide ((l0_1.getD i3.toNat Zn).1<=(l0_1.getD (IntKind.i64.wrap (i3-1)).toNat Zn).1)))then some (false,()) else X6 N l0_1 (IntKind.i64.wrap (i3+1)) else some (decide ((l0_1.length:Int)<=(24:Int)),())
def Y2(l0:List Zh):Option (Bool×Unit):=X6 (V5 l0 (0:Int)) l0 (0:Int)
def Zb7(c0:Ze8):Option (Bool×Unit):=(Z4 c0.1 (0:Int) (1152921504606846976:Int)).bind fun t5=>(bif t5.1 then(Z4 c0.2.1 (0:Int) c0.1)else some (false,())).bind fun t11=>(bif(t5.1&&t11.1)then(Z4 c0.2.2.1 (-1:Int) c0.1)else some (false,())).bind fun t18=>some ((t5.1&&t11.1)&&t18.1,())
def J4(a0:Qr):Option (Bool×Unit):=(Z4 a0.1 (0:Int) (1000:Int)).bind fun t5=>(bif t5.1 then(Z4 a0.2.1 a0.1 (1152921504606846976:Int))else some (false,())).bind fun t11=>(bif(t5.1&&t11.1)then(Z4 a0.2.2.1 (0:Int) a0.2.1)else some (false,())).bind fun t18=>(bif((t5.1&&t11.1)&&t18.1)then(Z4 a0.2.2.2.1 (0:Int) a0.2.2.1)else some (false,())).bind fun t25=>some ((((t5.1&&t11.1)&&t18.1)&&t25.1)&& (decide (a0.2.1<=(IntKind.i64.wrap (a0.2.2.2.1+a0.1)))),())
def Zoa(kind0:Int):Option (List UInt8×Unit):=bif kind0==4 then some (([114,101,115,101,116]:List UInt8),()) else bif kind0==5 then some (([115,116,111,112]:List UInt8),()) else bif kind0==8 then some (([115,116,114,101,97,109]:List UInt8),()) else bif kind0==16 then some (([109,97,120,100,97,116,97]:List UInt8),()) else bif kind0==17 then some (([109,97,120,115,116,114,101,97,109,100,97,116,97]:List UInt8),()) else bif kind0==18 then some (([109,97,120,115,116,114,101,97,109,115]:List UInt8),()) else bif kind0==20 then some (([100,97,116,97,98,108,111,99,107,101,100]:List UInt8),()) else bif kind0==21 then some (([115,116,114,101,97,109,100,97,116,97,98,108,111,99,107,101,100]:List UInt8),()) else bif kind0==22 then some (([115,116,114,101,97,109,115,98,108,111,99,107,101,100]:List UInt8),()) else some (([]:List UInt8),())
abbrev Zzc:List PE:=[.val 5 (.bool) (.u false)]
def X8(t5:Bool):Option (Bool×Unit):=bif t5 then some (true,()) else some (false,())
def Vu(f0:Zf):Option (Bool×Unit):=bif f0.1==4 then X8 (f0.1==4) else bif f0.1==5 then X8 (f0.1==5) else bif f0.1==8 then X8 (f0.1==8) else bif f0.1==17 then X8 (f0.1==17) else X8 (f0.1==21)
abbrev Qj7:List PE:=[.box 1 87 (Zu) (.u false),.box 2 87 (Zu) (.u false),.box 3 87 (Zu) (.u false),.val 41 (.bool) (.u false)]
def Zcz(f1_1:Zf)(t2_1:Zf)(x3_1:Zf)(t41:Bool):Option (Zf×Unit):=bif t41 then some ((x3_1.1,(x3_1.2.1,(x3_1.2.2.1,(x3_1.2.2.2.1,(x3_1.2.2.2.2.1,(x3_1.2.2.2.2.2.1,(f1_1.2.2.2.2.2.2.1,(x3_1.2.2.2.2.2.2.2.1,(f1_1.2.2.2.2.2.2.2.2.1,x3_1.2.2.2.2.2.2.2.2.2))))))))),()) else some ((x3_1.1,(x3_1.2.1,(x3_1.2.2.1,(x3_1.2.2.2.1,(x3_1.2.2.2.2.1,(x3_1.2.2.2.2.2.1,(f1_1.2.2.2.2.2.2.1,x3_1.2.2.2.2.2.2.2))))))),())
abbrev Qj6:List PE:=[.box 1 87 (Zu) (.u false),.box 2 87 (Zu) (.u false),.box 3 87 (Zu) (.u false)]
def Zcy(f1:Zf)(t2:Zf)(x3:Zf):Option (Zf×Unit):=bif f1.1==4 then some ((x3.1,(x3.2.1,(x3.2.2.1,(x3.2.2.2.1,(x3.2.2.2.2.1,(f1.2.2.2.2.2.1,(x3.2.2.2.2.2.2.1,(f1.2.2.2.2.2.2.2.1,x3.2.2.2.2.2.2.2.2)))))))),()) else bif f1.1==5 then some ((x3.1,(x3.2.1,(x3.2.2.1,(x3.2.2.2.1,(x3.2.2.2.2.1,(f1.2.2.2.2.2.1,x3.2.2.2.2.2.2)))))),()) else bif f1.1==8 then some ((x3.1,(x3.2.1,(f1.2.2.1,(f1.2.2.2.1,(f1.2.2.2.2.1,x3.2.2.2.2.2))))),()) else bif f1.1==18 then Zcz f1 t2 x3 (f1.1==18) else Zcz f1 t2 x3 (f1.1==22)
def Zes(f0:Zf):Option (Zf×Unit):=(Vu f0).bind fun t8=>bif t8.1 then Zcy f0 Qq (f0.1,(f0.2.1,((0:Int),(([]:List UInt8),(false,((0:Int),((0:Int),((0:Int),(false,()))))))))) else Zcy f0 Qq (f0.1,((0:Int),((0:Int),(([]:List UInt8),(false,((0:Int),((0:Int),((0:Int),(false,())))))))))
abbrev Qfx:List PE:=[.box 1 87 (Zu) (.u false),.val 60 (.bool) (.u false)]
def Zou(f1:Zf)(t60:Bool):Option (Bool×Unit):=bif t60 then some (decide (f1.2.2.2.2.2.2.1<=(1152921504606846976:Int)),()) else some (true,())
def Zb8(f0:Zf):Option (Bool×Unit):=
 (Zoa f0.1).bind fun t5=>
 (bif(t5.1==([]:List UInt8))then some (Qq,())else(Zes f0)).bind fun t9=>
 let t12:Bool:=(t5.1==([]:List UInt8))|| (!(eqV (Zu) t9.1 f0))
 (bif t12 then some (false,())else(Qi f0.2.1)).bind fun t16=>
 (bif(t12|| (!t16.1))then some (false,())else(Qi f0.2.2.1)).bind fun t22=>
 let t24:Bool:=(t12|| (!t16.1))|| (!t22.1)
 (bif t24 then some (false,())else(Qi f0.2.2.2.2.2.1)).bind fun t28=>
 (bif(t24|| (!t28.1))then some (false,())else(Qi f0.2.2.2.2.2.2.1)).bind fun t34=>
 let t36:Bool:=(t24|| (!t28.1))|| (!t34.1)
 (bif t36 then some (false,())else(Qi f0.2.2.2.2.2.2.2.1)).bind fun t40=>
 bif(t36|| (!t40.1))|| (decide ((f0.2.2.2.1.length:Int)>(400:Int)))then
  some (false,())
 else
  bif f0.1==8 then
   some (decide (f0.2.2.1<=(IntKind.i64.wrap ((4611686018427387903:Int)- (f0.2.2.2.1.length:Int)))),())
  else
   bif f0.1==18 then
    Zou f0 (f0.1==18)
   else
    Zou f0 (f0.1==22)
abbrev Z8h:List PE:=[.val 0 (.slice 87 (Zu)) (.u false),.val 3 (.int .i64) (.u false)]
def Ki(l0_1:List Zf)(i3:Int):Nat:=((l0_1.length:Int)-i3).toNat+1
def Jf:Nat->List Zf->Int->Option (Bool×Unit)|0,_,_=>none|N+1,l0_1,i3=>bif decide (i3< (l0_1.length:Int))then Zi (0<=i3/\i3<l0_1.length)<|(Zb8 (l0_1.getD i3.toNat Qq)).bind fun t14=>bif !t14.1 then some (false,()) else Jf N l0_1 (IntKind.i64.wrap (i3+1)) else some (true,())
def Zcw(l0:List Zf):Option (Bool×Unit):=Jf (Ki l0 (0:Int)) l0 (0:Int)
abbrev Z8f:List PE:=[.val 0 (.slice 75 (Zy)) (.u false),.val 3 (.int .i64) (.u false),.val 4 (.int .i64) (.u false)]
def Yo(l0_1:List Zh)(n3:Int)(i4:Int):Nat:=((l0_1.length:Int)-i4).toNat+1
def Y8:Nat->List Zh->Int->Int->Option (Int×Unit)|0,_,_,_=>none|N+1,l0_1,n3,i4=>(bif(decide (i4< (l0_1.length:Int)))then(Y2 l0_1)else some (false,())).bind fun t11=>bif(decide (i4< (l0_1.length:Int)))&&t11.1 then Zi (0<=i4/\i4<l0_1.length)<|Y8 N l0_1 (min (IntKind.i64.wrap (n3+ (l0_1.getD i4.toNat Zn).2.1.2.2.2.2.2.2.2.1)) (4611686018427387904:Int)) (IntKind.i64.wrap (i4+1)) else some (n3,())
def Zcv(l0:List Zh):Option (Int×Unit):=Y8 (Yo l0 (0:Int) (0:Int)) l0 (0:Int) (0:Int)
abbrev Z8c:List PE:=[.val 0 (.slice 75 (Zy)) (.u false),.val 3 (.int .i64) (.u false),.val 4 (.int .i64) (.u false)]
def Yn(l0_1:List Zh)(n3:Int)(i4:Int):Nat:=((l0_1.length:Int)-i4).toNat+1
def Y7:Nat->List Zh->Int->Int->Option (Int×Unit)|0,_,_,_=>none|N+1,l0_1,n3,i4=>(bif(decide (i4< (l0_1.length:Int)))then(Y2 l0_1)else some (false,())).bind fun t11=>bif(decide (i4< (l0_1.length:Int)))&&t11.1 then Zi (0<=i4/\i4<l0_1.length)<|Y7 N l0_1 (min (IntKind.i64.wrap (n3+ (l0_1.getD i4.toNat Zn).2.2.2.1.2.2.2.1)) (4611686018427387904:Int)) (IntKind.i64.wrap (i4+1)) else some (n3,())
def Zcu(l0:List Zh):Option (Int×Unit):=Y7 (Yn l0 (0:Int) (0:Int)) l0 (0:Int) (0:Int)
abbrev Qjy:List PE:=[.box 1 37 (Zq) (.u false),.val 3 (.int .i64) (.u false)]
def Kx(c1:Ze)(i3:Int):Nat:=((c1.2.2.2.2.2.2.2.2.2.2.2.2.2.2.2.1.length:Int)-i3).toNat+1
def Wx:Nat->Ze->Int->Option (Bool×Unit)
 |0,_,_=>none
 |N+1,c1,i3=>
  bif decide (i3< (c1.2.2.2.2.2.2.2.2.2.2.2.2.2.2.2.1.length:Int))then
   Zi (0<=i3/\i3<c1.2.2.2.2.2.2.2.2.2.2.2.2.2.2.2.1.length)<|
   (Z4 (c1.2.2.2.2.2.2.2.2.2.2.2.2.2.2.2.1.getD i3.toNat Qj).1 (0:Int) (IntKind.i64.wrap (c1.2.2.2.2.2.2.2.2.2.2.2.2.2.2.1-1))).bind fun t72=>
   Zi (((!t72.1)=false->((decide (i3>(0:Int)))=true->(0<=i3/\i3<c1.2.2.2.2.2.2.2.2.2.2.2.2.2.2.2.1.length))))<|
   Zi (((!t72.1)=false->((decide (i3>(0:Int)))=true->(0<=(IntKind.i64.wrap (i3-1))/\(IntKind.i64.wrap (i3-1))<c1.2.2.2.2.2.2.2.2.2.2.2.2.2.2.2.1.length))))<|
   let t93:Bool:=(!t72.1)|| ((decide (i3>(0:Int)))&& (decide ((c1.2.2.2.2.2.2.2.2.2.2.2.2.2.2.2.1.getD i3.toNat Qj).1<=(c1.2.2.2.2.2.2.2.2.2.2.2.2.2.2.2.1.getD (IntKind.i64.wrap (i3-1)).toNat Qj).1)))
   Zi ((t93=false->(0<=i3/\i3<c1.2.2.2.2.2.2.2.2.2.2.2.2.2.2.2.1.length)))<|
   (bif t93 then some (false,())else(Zcw (c1.2.2.2.2.2.2.2.2.2.2.2.2.2.2.2.1.getD i3.toNat Qj).2.1)).bind fun t101=>
   bif t93|| (!t101.1)then
    some (false,())
   else
    Wx N c1 (IntKind.i64.wrap (i3+1))
  else
   (Z4 c1.2.2.2.2.2.2.2.2.2.2.2.2.2.1 (-1:Int) (4611686018427387903:Int)).bind fun t106=>
   (bif t106.1 then(Z4 c1.2.2.2.2.2.2.2.2.2.2.2.2.2.2.1 (0:Int) (1000000:Int))else some (false,())).bind fun t110=>
   (bif(t106.1&&t110.1)then(Z4 c1.2.2.2.2.2.2.2.2.2.2.2.2.2.2.2.2.1 (0:Int) (1000000:Int))else some (false,())).bind fun t115=>
   (bif((t106.1&&t110.1)&&t115.1)then(Z4 c1.2.2.2.2.2.2.2.2.2.2.2.2.2.2.2.2.2.1 (0:Int) (255:Int))else some (false,())).bind fun t120=>
   let t121:Bool:=((t106.1&&t110.1)&&t115.1)&&t120.1
   (bif t121 then(Zcv c1.2.2.2.1)else some ((0:Int),())).bind fun t125=>
   (bif(t121&& (decide (t125.1<=c1.2.2.2.2.1.2.1)))then(Zcu c1.2.2.2.1)else some ((0:Int),())).bind fun t134=>
   some ((t121&& (decide (t125.1<=c1.2.2.2.2.1.2.1)))&& (decide (t134.1<=c1.2.2.2.2.2.1.2.2.2.1)),())
def Yy(c0:Ze):Option (Bool×Unit):=
 (V8 c0.2.1).bind fun t6=>
 (bif(!t6.1)then some (false,())else(V8 c0.2.2.1)).bind fun t11=>
 (bif((!t6.1)|| (!t11.1))then some (false,())else(Y2 c0.2.2.2.1)).bind fun t17=>
 let t19:Bool:=((!t6.1)|| (!t11.1))|| (!t17.1)
 (bif t19 then some (false,())else(Yd c0.2.2.2.2.1)).bind fun t23=>
 (bif(t19|| (!t23.1))then some (false,())else(Vl c0.2.2.2.2.2.1)).bind fun t29=>
 let t31:Bool:=(t19|| (!t23.1))|| (!t29.1)
 (bif t31 then some (false,())else(Zb7 c0.2.2.2.2.2.2.1)).bind fun t35=>
 (bif(t31|| (!t35.1))then some (false,())else(Zb7 c0.2.2.2.2.2.2.2.1)).bind fun t41=>
 let t43:Bool:=(t31|| (!t35.1))|| (!t41.1)
 (bif t43 then some (false,())else(J4 c0.2.2.2.2.2.2.2.2.1)).bind fun t47=>
 (bif(t43|| (!t47.1))then some (false,())else(J4 c0.2.2.2.2.2.2.2.2.2.1)).bind fun t53=>
 bif(t43|| (!t47.1))|| (!t53.1)then
  some (false,())
 else
  Wx (Kx c0 (0:Int)) c0 (0:Int)
def Zxj(c0:Ze):Option (Bool×Unit):=some (c0.2.2.2.2.2.2.2.2.2.2.2.2.2.2.2.2.2.1 !=0,())
def Ya(c0:Ze):Option (Bool×Unit):=(Yy c0).bind fun t4=>(bif t4.1 then(Zxj c0)else some (false,())).bind fun t7=>some (t4.1&& (!t7.1),())
def Zkz(c0:Ze8):Option (Int×Ze8×Bool×Unit):=(Zb7 c0).bind fun t7=>bif !t7.1 then some ((-1:Int),c0,false,()) else bif c0.2.1==c0.1 then some ((-1:Int),(c0.1,(c0.2.1,(c0.1,c0.2.2.2))),false,()) else some (c0.2.1,(c0.1,(IntKind.i64.wrap (c0.2.1+1),c0.2.2)),true,())
abbrev Qj0:List PE:=[.val 2 (.bool) (.u false),.val 7 (.int .i64) (.u false)]
def Zfv(uni2_1:Bool)(id7:Int):Option (Int×Unit):=bif uni2_1 then some (IntKind.i64.wrap (id7+2),()) else some (id7,())
def Zpo(index0:Int)(server1:Bool)(uni2:Bool):Option (Int×Unit):=
 (Z4 index0 (0:Int) (1152921504606846975:Int)).bind fun t9=>
 bif !t9.1 then
  some ((-1:Int),())
 else
  Zi (0<=(2:Int))<|
  let t12:Int:=IntKind.i64.wrap (index0*2^ (min (2:Int).toNat IntKind.i64.bits))
  bif server1 then
   Zfv uni2 (IntKind.i64.wrap (t12+1))
  else
   Zfv uni2 t12
def Zck:Option (Q9×Unit):=some (((3:Int),(false,())),())
def Zrq:Option (Qe×Unit):=some (((0:Int),(((0:Int),(([]:List Vg),())),((-1:Int),((0:Int),((0:Int),()))))),())
def Zca(id0:Int):Option (Bool×Unit):=(Qi id0).bind fun t4=>some (t4.1&& ((bits .and .i64 id0 (2:Int))==2),())
def Zkc(id0:Int):Option (Bool×Unit):=(Qi id0).bind fun t4=>some (t4.1&& ((bits .and .i64 id0 (1:Int))==1),())
def Zjq(server0:Bool)(id1:Int):Option (Bool×Unit):=(Qi id1).bind fun t6=>(bif t6.1 then(Zkc id1)else some (false,())).bind fun t9=>some (t6.1&& (t9.1==server0),())
def Zfm(server0:Bool)(id1:Int):Option (Bool×Unit):=(Qi id1).bind fun t6=>(bif t6.1 then(Zca id1)else some (false,())).bind fun t9=>(bif(!t9.1)then some (false,())else(bif t6.1 then(Zjq server0 id1)else some (false,()))).bind fun t14=>some (t6.1&& ((!t9.1)||t14.1),())
def Vb(server0:Bool)(id1:Int):Option (Bool×Unit):=(Qi id1).bind fun t6=>(bif t6.1 then(Zca id1)else some (false,())).bind fun t9=>(bif(!t9.1)then some (false,())else(bif t6.1 then(Zjq server0 id1)else some (false,()))).bind fun t14=>some (t6.1&& ((!t9.1)|| (!t14.1)),())
def Zt9(size0:Int):Option (Xz×Bool×Unit):=(Zel size0).bind fun t5=>bif !t5.1 then some (Qz5,false,()) else Zi (0<=size0/\size0<=size0/\size0<=Qg)<|some ((size0,((0:Int),((0:Int),(List.replicate size0.toNat (0:Int),())))),true,())
def Zix(size0:Int):Option (Zo×Bool×Unit):=(Zt9 size0).bind fun t8=>bif !t8.2.1 then some (We,false,()) else some (((0:Int),(t8.1,(([]:List Zc),(([]:List Zc),(([]:List Zc),((-1:Int),Q2a)))))),true,())
def Zcs(server0:Bool)(id1:Int)(own2:Zq7)(peer3:Zq7):Option (Zh×Bool×Unit):=(Qi id1).bind fun t18=>(bif(!t18.1)then some (false,())else(V8 own2)).bind fun t22=>(bif((!t18.1)|| (!t22.1))then some (false,())else(V8 peer3)).bind fun t27=>bif((!t18.1)|| (!t22.1))|| (!t27.1)then some (Zn,false,()) else Option.bind Zck fun t32=>Option.bind Zrq fun t33=>(Zfm server0 id1).bind fun t36=>(Vb server0 id1).bind fun t39=>(Zix own2.1).bind fun t44=>(Zcr peer3.2.1).bind fun t52=>(Zct own2.2.1 own2.2.2.1).bind fun t62=>some ((id1,(t44.1,(t52.1,(t33.1,(t62.1,(t32.1,(t36.1,(t39.1,(false,(false,(false,(false,((0:Int),(false,())))))))))))))),true,())
abbrev Z5b:List PE:=[.val 0 (.slice 75 (Zy)) (.u false),.val 1 (.int .i64) (.u false),.val 5 (.int .i64) (.u false)]
def V7(l0_1:List Zh)(id1_1:Int)(i5:Int):Nat:=((l0_1.length:Int)-i5).toNat+1
def Vt:Nat->List Zh->Int->Int->Option (Int×Unit)|0,_,_,_=>none|N+1,l0_1,id1_1,i5=>bif decide (i5< (l0_1.length:Int))then Zi (0<=i5/\i5<l0_1.length)<|bif(l0_1.getD i5.toNat Zn).1==id1_1 then some (i5,()) else Vt N l0_1 id1_1 (IntKind.i64.wrap (i5+1)) else some ((-1:Int),())
def Ko(l0:List Zh)(id1:Int):Option (Int×Unit):=Vt (V7 l0 id1 (0:Int)) l0 id1 (0:Int)
abbrev Z8a:List PE:=[.val 0 (.slice 75 (Zy)) (.u false),.box 3 75 (Zy) (.u false),.val 5 (.slice 75 (Zy)) (.u true),.val 6 (.int .i64) (.u false),.val 7 (.bool) (.u false),.val 8 (.int .i64) (.u false),.box 9 75 (Zy) (.u true)]
def Y6(K1: (List Zh×Zh×List Zh×Int×Bool×Int×Unit)->Option (List Zh×Unit))(l0_2:List Zh)(s3_1:Zh)(out5_1:List Zh)(at6_1:Int)(placed7_1:Bool)(i8_1:Int)(x9:Zh):Option (List Zh×Unit):=Zi (out5_1.length+ ([x9]).length<=Qg)<|K1 (l0_2,s3_1,out5_1++ ([x9]),at6_1,placed7_1,IntKind.i64.wrap (i8_1+1),())
abbrev Z8b:List PE:=[.val 0 (.slice 75 (Zy)) (.u false),.box 3 75 (Zy) (.u false),.val 5 (.slice 75 (Zy)) (.u true),.val 6 (.int .i64) (.u false),.val 7 (.bool) (.u false),.val 8 (.int .i64) (.u false)]
def W3(l0_1:List Zh)(s3:Zh)(out5:List Zh)(at6:Int)(placed7:Bool)(i8:Int):Nat:=((l0_1.length:Int)-i8).toNat+1
def Xm:Nat->List Zh->Zh->List Zh->Int->Bool->Int->Option (List Zh×Unit)|0,_,_,_,_,_,_=>none|N+1,l0_1,s3,out5,at6,placed7,i8=>bif decide (i8< (l0_1.length:Int))then Zi (0<=i8/\i8<l0_1.length)<|(Zej (l0_1.getD i8.toNat Zn)).bind fun t29=>bif i8==at6 then (Zej s3).bind fun t34=>Y6 (fun v=>Xm N v.1 v.2.1 v.2.2.1 v.2.2.2.1 v.2.2.2.2.1 v.2.2.2.2.2.1) l0_1 s3 out5 at6 placed7 i8 t34.1 else Zi (((!placed7)=true->(0<=i8/\i8<l0_1.length)))<|bif(!placed7)&& (decide ((l0_1.getD i8.toNat Zn).1>s3.1))then (Zej s3).bind fun t48=>Zi (out5.length+ ([t48.1]).length<=Qg)<|Y6 (fun v=>Xm N v.1 v.2.1 v.2.2.1 v.2.2.2.1 v.2.2.2.2.1 v.2.2.2.2.2.1) l0_1 s3 (out5++ ([t48.1])) at6 true i8 t29.1 else Y6 (fun v=>Xm N v.1 v.2.1 v.2.2.1 v.2.2.2.1 v.2.2.2.2.1 v.2.2.2.2.2.1) l0_1 s3 out5 at6 placed7 i8 t29.1 else bif !placed7 then (Zej s3).bind fun t60=>Zi (out5.length+ ([t60.1]).length<=Qg)<|some (out5++ ([t60.1]),()) else some (out5,())
def Qv(l0:List Zh)(s1:Zh):Option (List Zh×Unit):=(Ko l0 s1.1).bind fun t16=>Xm (W3 l0 s1 ([]:List Zh) t16.1 (decide (t16.1>=(0:Int))) (0:Int)) l0 s1 ([]:List Zh) t16.1 (decide (t16.1>=(0:Int))) (0:Int)
abbrev Z5p:List PE:=[.val 1 (.bool) (.u false),.box 2 37 (Zq) (.u false),.box 5 37 (Zq) (.u true),.box 7 37 (Zq) (.p (.u false) (.p (.u false) (.p (.u false) (.p (.u true) (.p (.u false) (.p (.u false) (.p (.u false) (.p (.u false) (.u true))))))))),.val 9 (.int .i64) (.u false),.val 11 (.bool) (.u false)]
def Kh(uni1_2:Bool)(c2_1:Ze)(t5_1:Ze)(x7_1:Ze)(index9:Int)(is11:Bool):Option (Int×Ze×Bool×Unit):=bif !is11 then some ((-1:Int),x7_1,false,()) else (Zpo index9 c2_1.1 uni1_2).bind fun t50=>(Zcs c2_1.1 t50.1 c2_1.2.1 c2_1.2.2.1).bind fun t59=>(Qv x7_1.2.2.2.1 t59.1).bind fun t65=>some (t50.1,(x7_1.1,(x7_1.2.1,(x7_1.2.2.1,(t65.1,x7_1.2.2.2.2)))),true,())
abbrev Z5o:List PE:=[.val 1 (.bool) (.u false),.box 2 37 (Zq) (.u false),.box 5 37 (Zq) (.u true),.box 7 37 (Zq) (.u true),.box 8 32 (Zlx) (.u false)]
def Vx(uni1_1:Bool)(c2:Ze)(t5:Ze)(x7:Ze)(n8:Ze8):Option (Int×Ze×Bool×Unit):=(Zkz n8).bind fun t34=>bif uni1_1 then Kh uni1_1 c2 t5 (x7.1,(x7.2.1,(x7.2.2.1,(x7.2.2.2.1,(x7.2.2.2.2.1,(x7.2.2.2.2.2.1,(x7.2.2.2.2.2.2.1,(t34.2.1,x7.2.2.2.2.2.2.2.2)))))))) t34.1 t34.2.2.1 else Kh uni1_1 c2 t5 (x7.1,(x7.2.1,(x7.2.2.1,(x7.2.2.2.1,(x7.2.2.2.2.1,(x7.2.2.2.2.2.1,(t34.2.1,x7.2.2.2.2.2.2.2))))))) t34.1 t34.2.2.1
def Zgs(c0:Ze)(uni1:Bool):Option (Int×Ze×Bool×Unit):=(Z6 c0).bind fun t16=>(Ya c0).bind fun t18=>bif(!t18.1)|| (decide ((c0.2.2.2.1.length:Int)>=(24:Int)))then some ((-1:Int),t16.1,false,()) else bif uni1 then Vx uni1 c0 Ji t16.1 c0.2.2.2.2.2.2.2.1 else Vx uni1 c0 Ji t16.1 c0.2.2.2.2.2.2.1
def Zpp(c0:Qp)(list1:List (List UInt8)):Option ((List UInt8×Unit)×(Qp×Unit)):=(Qm c0 (list1.length:Int)).bind fun t9=>Zi (0<=t9.1.1/\t9.1.1<list1.length)<|some ((list1.getD t9.1.1.toNat ([]:List UInt8),()),(t9.2.1,()))
abbrev Qj5:List PE:=[.box 0 100 (W9) (.u false),.val 5 (.str) (.u false),.val 6 (.int .i64) (.u false)]
def Zh2(c0_1:Qp)(s5_1:List UInt8)(n6:Int):Nat:=(n6-0).toNat+1
def Zi6:Nat->Qp->List UInt8->Int->Option ((List UInt8×Unit)×(Qp×Unit))|0,_,_,_=>none|N+1,c0_1,s5_1,n6=>bif decide (n6>(0:Int))then (Zpp c0_1 ([([97]:List UInt8),([98]:List UInt8),([99]:List UInt8),([100]:List UInt8)])).bind fun t18=>Zi (s5_1.length+t18.1.1.length<=Zf9)<|Zi6 N t18.2.1 (s5_1++t18.1.1) (IntKind.i64.wrap (n6-1)) else some ((s5_1,()),(c0_1,()))
def Zpr(c0:Qp)(most1:Int):Option ((List UInt8×Unit)×(Qp×Unit)):=(Qm c0 (IntKind.i64.wrap (most1+1))).bind fun t10=>Zi6 (Zh2 t10.2.1 ([]:List UInt8) t10.1.1) t10.2.1 ([]:List UInt8) t10.1.1
def Qw(c0:Ze)(id1:Int):Option (Zh×Bool×Unit):=(Ko c0.2.2.2.1 id1).bind fun t10=>bif decide (t10.1< (0:Int))then some (Zn,false,()) else Zi (0<=t10.1/\t10.1<c0.2.2.2.1.length)<|(Zej (c0.2.2.2.1.getD t10.1.toNat Zn)).bind fun t19=>some (t19.1,true,())
def Z5r(r0:Xz):Option (Int×Unit):=(Zcp r0).bind fun t4=>bif !t4.1 then some ((0:Int),()) else some (min (IntKind.i64.wrap (r0.1- (IntKind.i64.wrap (r0.2.2.1-r0.2.1)))) (IntKind.i64.wrap ((4611686018427387903:Int)-r0.2.2.1)),())
abbrev Z8g:List PE:=[.val 1 (.str) (.u false),.box 2 63 (W8) (.u false),.box 4 63 (W8) (.u true),.box 6 63 (W8) (.u true),.val 7 (.int .i64) (.u false),.val 8 (.int .i64) (.u false)]
def Zei(data1_1:List UInt8)(r2:Xz)(t4:Xz)(x6:Xz)(n7:Int)(i8:Int):Nat:=(n7-i8).toNat+1
def W5:Nat->List UInt8->Xz->Xz->Xz->Int->Int->Option (Xz×Int×Unit)
 |0,_,_,_,_,_,_=>none
 |N+1,data1_1,r2,t4,x6,n7,i8=>
  bif decide (i8<n7)then
   Zi (r2.1≠0)<|
   let t29:Int:=Int.tmod (IntKind.i64.wrap (r2.2.2.1+i8)) r2.1
   Zi (0<=i8/\i8<data1_1.length)<|
   Zi (0<=t29/\t29<x6.2.2.2.1.length)<|
   W5 N data1_1 r2 t4 (x6.1,(x6.2.1,(x6.2.2.1,(x6.2.2.2.1.set t29.toNat (IntKind.i64.wrap ((data1_1.getD i8.toNat 0).toNat:Int)),x6.2.2.2.2)))) n7 (IntKind.i64.wrap (i8+1))
  else
   some ((x6.1,(x6.2.1,(IntKind.i64.wrap (r2.2.2.1+n7),x6.2.2.2))),n7,())
def Zqz(r0:Xz)(data1:List UInt8):Option (Xz×Int×Unit):=(Zps r0).bind fun t10=>(Z5r r0).bind fun t12=>W5 (Zei data1 r0 Qz5 t10.1 (min t12.1 (data1.length:Int)) (0:Int)) data1 r0 Qz5 t10.1 (min t12.1 (data1.length:Int)) (0:Int)
abbrev Z2z:List PE:=[.box 4 66 (Z0) (.u true),.box 6 66 (Z0) (.p (.u false) (.u true)),.box 7 63 (W8) (.u true),.val 8 (.int .i64) (.u false)]
def Zeb(t4:Zo)(x6:Zo)(r7:Xz)(n8:Int):Option (Zo×Int×Unit):=some ((x6.1,(r7,x6.2.2)),n8,())
def Ze6(s0:Zo)(data1:List UInt8):Option (Zo×Int×Unit):=(Zc0 s0).bind fun t10=>(Xv s0).bind fun t12=>bif((!t12.1)|| (decide (s0.1>(1:Int))))|| (s0.2.2.2.2.2.1 !=(-1:Int))then some (t10.1,(0:Int),()) else (Zqz s0.2.1 data1).bind fun t29=>bif decide (t29.2.1>(0:Int))then (Vk s0.2.2.1 (s0.2.1.2.2.1,(t29.1.2.2.1,()))).bind fun t42=>Zeb We (t10.1.1,(t10.1.2.1,(t42.1,t10.1.2.2.2))) t29.1 t29.2.1 else Zeb We t10.1 t29.1 t29.2.1
def Zng(c0:Ze)(id1:Int)(data2:List UInt8):Option (Int×Ze×Unit):=(Z6 c0).bind fun t14=>(Qw c0 id1).bind fun t18=>(Ya c0).bind fun t22=>bif((!t22.1)|| (!t18.2.1))|| (!t18.1.2.2.2.2.2.2.1)then some ((0:Int),t14.1,()) else (Ze6 t18.1.2.1 data2).bind fun t38=>(Qv t14.1.2.2.2.1 (t18.1.1,(t38.1,t18.1.2.2))).bind fun t46=>some (t38.2.1,(t14.1.1,(t14.1.2.1,(t14.1.2.2.1,(t46.1,t14.1.2.2.2.2)))),())
def Ze1(s0:Zo):Option (Zo×Bool×Unit):=(Zc0 s0).bind fun t6=>(Xv s0).bind fun t8=>bif((!t8.1)|| (decide (s0.1>(1:Int))))|| (s0.2.2.2.2.2.1 !=(-1:Int))then some (t6.1,false,()) else some ((t6.1.1,(t6.1.2.1,(t6.1.2.2.1,(t6.1.2.2.2.1,(t6.1.2.2.2.2.1,(s0.2.1.2.2.1,((1:Int),t6.1.2.2.2.2.2.2.2))))))),true,())
def Zlu(c0:Ze)(id1:Int):Option (Ze×Bool×Unit):=(Z6 c0).bind fun t12=>(Qw c0 id1).bind fun t16=>(Ya c0).bind fun t20=>bif((!t20.1)|| (!t16.2.1))|| (!t16.1.2.2.2.2.2.2.1)then some (t12.1,false,()) else (Ze1 t16.1.2.1).bind fun t35=>bif !t35.2.1 then some (t12.1,false,()) else (Qv t12.1.2.2.2.1 (t16.1.1,(t35.1,t16.1.2.2))).bind fun t46=>some ((t12.1.1,(t12.1.2.1,(t12.1.2.2.1,(t46.1,t12.1.2.2.2.2)))),true,())
def Zqy(b0:Z3)(most1:Int):Option (List UInt8×Z3×Unit):=
 (Zal b0).bind fun t10=>
 (Zjc b0).bind fun t15=>
 bif(min t10.1 (max most1 (0:Int)))==0 then
  some (([]:List UInt8),t15.1,())
 else
  Zi (0<=(0:Int)/\(0:Int)<t15.1.2.1.length)<|
  let t27:Int:=IntKind.i64.wrap (t15.1.1+ (min t10.1 (max most1 (0:Int))))
  bif(min t10.1 (max most1 (0:Int)))==((t15.1.2.1.getD (0:Int).toNat Yb).2.1.length:Int)then
   Zi (0<=(1:Int)/\(1:Int)<=(t15.1.2.1.length:Int)/\(t15.1.2.1.length:Int)<=t15.1.2.1.length)<|
   (Zjc (t27,((t15.1.2.1.drop (1:Int).toNat).take ((t15.1.2.1.length:Int).toNat- (1:Int).toNat),t15.1.2.2))).bind fun t39=>
   some ((t15.1.2.1.getD (0:Int).toNat Yb).2.1,t39.1,())
  else
   Zi (0<=(min t10.1 (max most1 (0:Int)))/\(min t10.1 (max most1 (0:Int)))<=((t15.1.2.1.getD (0:Int).toNat Yb).2.1.length:Int)/\((t15.1.2.1.getD (0:Int).toNat Yb).2.1.length:Int)<=(t15.1.2.1.getD (0:Int).toNat Yb).2.1.length)<|
   Zi (0<=(0:Int)/\(0:Int)<t15.1.2.1.length)<|
   Zi (0<=(0:Int)/\(0:Int)<=(min t10.1 (max most1 (0:Int)))/\(min t10.1 (max most1 (0:Int)))<=(t15.1.2.1.getD (0:Int).toNat Yb).2.1.length)<|
   some (((t15.1.2.1.getD (0:Int).toNat Yb).2.1.drop (0:Int).toNat).take ((min t10.1 (max most1 (0:Int))).toNat- (0:Int).toNat),(t27,(t15.1.2.1.set (0:Int).toNat (t27,(((t15.1.2.1.getD (0:Int).toNat Yb).2.1.drop (min t10.1 (max most1 (0:Int))).toNat).take (((t15.1.2.1.getD (0:Int).toNat Yb).2.1.length:Int).toNat- (min t10.1 (max most1 (0:Int))).toNat),())),t15.1.2.2)),())
abbrev Z02:List PE:=[.box 5 71 (Q2) (.u true),.box 6 71 (Q2) (.u false),.val 7 (.str) (.u false)]
def Zhb(t5:Qe)(x6:Qe)(s7:List UInt8):Option ((List UInt8×Qe×Unit)×(Unit)):=some ((s7,(x6,())),())
def Zlv(r0:Qe)(most1:Int):Option ((List UInt8×Qe×Unit)×(Unit)):=(Zmx r0).bind fun t10=>(X4 r0).bind fun t12=>bif !t12.1 then some ((([]:List UInt8),(t10.1,())),()) else bif r0.1==4 then some ((([]:List UInt8),(((5:Int),t10.1.2),())),()) else (Zqy r0.2.1 most1).bind fun t24=>bif(r0.1==2)&& (t24.2.1.1==r0.2.2.1)then Zhb Z6m ((3:Int),(t24.2.1,t10.1.2.2)) t24.1 else Zhb Z6m (t10.1.1,(t24.2.1,t10.1.2.2)) t24.1
def Zfx(w0:Qt)(n1:Int):Option (Qt×Bool×Unit):=(Vl w0).bind fun t7=>bif((!t7.1)|| (decide (n1< (0:Int))))|| (decide (n1>(IntKind.i64.wrap (w0.2.2.2.1-w0.2.2.2.2.1))))then some (w0,false,()) else some ((w0.1,(w0.2.1,(w0.2.2.1,(w0.2.2.2.1,(IntKind.i64.wrap (w0.2.2.2.2.1+n1),w0.2.2.2.2.2))))),true,())
def Zq2(x0:Ze)(s1:Zh)(to2:Int):Option ((Unit)×(Ze×Zh×Unit)):=
 let t18:Int:=max (0:Int) (IntKind.i64.wrap (to2-s1.2.2.2.2.1.2.2.2.2.1))
 (Zfx s1.2.2.2.2.1 t18).bind fun t25=>
 (Zfx x0.2.2.2.2.2.1 t18).bind fun t38=>
 some ((),((x0.1,(x0.2.1,(x0.2.2.1,(x0.2.2.2.1,(x0.2.2.2.2.1,(t38.1,x0.2.2.2.2.2.2)))))),((s1.1,(s1.2.1,(s1.2.2.1,(s1.2.2.2.1,(t25.1,s1.2.2.2.2.2))))),())))
def Ztp(s0:Zh):Option (Bool×Unit):=some (((!s0.2.2.2.2.2.2.1)|| (s0.2.1.1==3))|| (s0.2.1.1==5),())
def Zov(r0:Qe):Option (Bool×Unit):=(X4 r0).bind fun t4=>some (t4.1&& ((r0.1==3)|| (r0.1==5)),())
def Zto(s0:Zh):Option (Bool×Unit):=(bif(!s0.2.2.2.2.2.2.2.1)then some (false,())else(Zov s0.2.2.2.1)).bind fun t9=>some ((!s0.2.2.2.2.2.2.2.1)||t9.1,())
def Zwv(s0:Zh):Option (Bool×Unit):=(Zb9 s0).bind fun t4=>(bif t4.1 then(Ztp s0)else some (false,())).bind fun t7=>(bif(t4.1&&t7.1)then(Zto s0)else some (false,())).bind fun t11=>some ((t4.1&&t7.1)&&t11.1,())
def Zhk(a0:Qr):Option (Qr×Bool×Unit):=(J4 a0).bind fun t5=>bif(!t5.1)|| (a0.2.2.2.1==a0.2.2.1)then some (a0,false,()) else some ((a0.1,(a0.2.1,(a0.2.2.1,(IntKind.i64.wrap (a0.2.2.2.1+1),a0.2.2.2.2)))),true,())
def Zud(x0:Ze)(s1:Zh):Option ((Unit)×(Ze×Zh×Unit)):=(bif s1.2.2.2.2.2.2.2.2.2.2.2.2.2.1 then some (false,())else(Zjq x0.1 s1.1)).bind fun t21=>(bif(s1.2.2.2.2.2.2.2.2.2.2.2.2.2.1||t21.1)then some (false,())else(Zwv s1)).bind fun t27=>bif(s1.2.2.2.2.2.2.2.2.2.2.2.2.2.1||t21.1)|| (!t27.1)then some ((),(x0,(s1,()))) else (Zca s1.1).bind fun t37=>bif t37.1 then (Zhk x0.2.2.2.2.2.2.2.2.2.1).bind fun t43=>some ((),((x0.1,(x0.2.1,(x0.2.2.1,(x0.2.2.2.1,(x0.2.2.2.2.1,(x0.2.2.2.2.2.1,(x0.2.2.2.2.2.2.1,(x0.2.2.2.2.2.2.2.1,(x0.2.2.2.2.2.2.2.2.1,(t43.1,x0.2.2.2.2.2.2.2.2.2.2)))))))))),((s1.1,(s1.2.1,(s1.2.2.1,(s1.2.2.2.1,(s1.2.2.2.2.1,(s1.2.2.2.2.2.1,(s1.2.2.2.2.2.2.1,(s1.2.2.2.2.2.2.2.1,(s1.2.2.2.2.2.2.2.2.1,(s1.2.2.2.2.2.2.2.2.2.1,(s1.2.2.2.2.2.2.2.2.2.2.1,(s1.2.2.2.2.2.2.2.2.2.2.2.1,(s1.2.2.2.2.2.2.2.2.2.2.2.2.1,(true,s1.2.2.2.2.2.2.2.2.2.2.2.2.2.2)))))))))))))),()))) else (Zhk x0.2.2.2.2.2.2.2.2.1).bind fun t55=>some ((),((x0.1,(x0.2.1,(x0.2.2.1,(x0.2.2.2.1,(x0.2.2.2.2.1,(x0.2.2.2.2.2.1,(x0.2.2.2.2.2.2.1,(x0.2.2.2.2.2.2.2.1,(t55.1,x0.2.2.2.2.2.2.2.2.2))))))))),((s1.1,(s1.2.1,(s1.2.2.1,(s1.2.2.2.1,(s1.2.2.2.2.1,(s1.2.2.2.2.2.1,(s1.2.2.2.2.2.2.1,(s1.2.2.2.2.2.2.2.1,(s1.2.2.2.2.2.2.2.2.1,(s1.2.2.2.2.2.2.2.2.2.1,(s1.2.2.2.2.2.2.2.2.2.2.1,(s1.2.2.2.2.2.2.2.2.2.2.2.1,(s1.2.2.2.2.2.2.2.2.2.2.2.2.1,(true,s1.2.2.2.2.2.2.2.2.2.2.2.2.2.2)))))))))))))),())))
def Zek(x0:Ze)(s1:Zh):Option ((Unit)×(Ze×Unit)):=(Zud x0 s1).bind fun t5=>(Qv t5.2.1.2.2.2.1 t5.2.2.1).bind fun t12=>some ((),((t5.2.1.1,(t5.2.1.2.1,(t5.2.1.2.2.1,(t12.1,t5.2.1.2.2.2.2)))),()))
abbrev Z5q:List PE:=[.box 8 37 (Zq) (.u true),.box 9 37 (Zq) (.p (.u true) (.p (.p (.u true) (.p (.u true) (.p (.u true) (.p (.u true) (.p (.u true) (.p (.u true) (.p (.u true) (.p (.u true) (.u true))))))))) (.p (.p (.u true) (.p (.u true) (.p (.u true) (.p (.u true) (.p (.u true) (.p (.u true) (.p (.u true) (.p (.u true) (.u true))))))))) (.p (.u false) (.p (.p (.u true) (.p (.u true) (.p (.u true) (.p (.u true) (.u true))))) (.p (.p (.u true) (.p (.u true) (.p (.u true) (.p (.u true) (.p (.u true) (.p (.u true) (.u true))))))) (.p (.p (.u true) (.p (.u true) (.p (.u true) (.u true)))) (.p (.p (.u true) (.p (.u true) (.p (.u true) (.u true)))) (.p (.p (.u true) (.p (.u true) (.p (.u true) (.p (.u true) (.u true))))) (.p (.p (.u true) (.p (.u true) (.p (.u true) (.p (.u true) (.u true))))) (.p (.u true) (.p (.u true) (.p (.u true) (.p (.u true) (.p (.u true) (.p (.u false) (.p (.u true) (.p (.u true) (.u true))))))))))))))))))),.box 10 75 (Zy) (.u false),.val 12 (.str) (.u false),.box 13 71 (Q2) (.u false)]
def Zfy(t8:Ze)(x9:Ze)(s10:Zh)(data12:List UInt8)(r13:Qe):Option ((List UInt8×Bool×Ze×Unit)×(Unit)):=(Zek x9 s10).bind fun t52=>some ((data12,((r13.1==3)|| (r13.1==5),(t52.2.1,()))),())
def Zo0(c0:Ze)(id1:Int)(most2:Int):Option ((List UInt8×Bool×Ze×Unit)×(Unit)):=(Z6 c0).bind fun t15=>(Qw c0 id1).bind fun t19=>(Ya c0).bind fun t23=>bif((!t23.1)|| (!t19.2.1))|| (!t19.1.2.2.2.2.2.2.2.1)then some ((([]:List UInt8),(false,(t15.1,()))),()) else (Zlv t19.1.2.2.2.1 most2).bind fun t39=>bif decide (t39.1.2.1.1< (4:Int))then (Zq2 t15.1 (t19.1.1,(t19.1.2.1,(t19.1.2.2.1,(t39.1.2.1,t19.1.2.2.2.2)))) t39.1.2.1.2.1.1).bind fun t50=>Zfy Ji t50.2.1 t50.2.2.1 t39.1.1 t39.1.2.1 else Zfy Ji t15.1 (t19.1.1,(t19.1.2.1,(t19.1.2.2.1,(t39.1.2.1,t19.1.2.2.2.2)))) t39.1.1 t39.1.2.1
abbrev Z2w:List PE:=[.val 1 (.int .i64) (.u false),.box 2 66 (Z0) (.u false),.box 4 66 (Z0) (.u true),.box 6 63 (W8) (.p (.u false) (.p (.u false) (.p (.u false) (.p (.u true) (.u false)))))]
def Zh0(code1_1:Int)(s2:Zo)(t4:Zo)(r6:Xz):Option (Zo×Bool×Unit):=some (((4:Int),(r6,(([]:List Zc),(([]:List Zc),(([]:List Zc),(s2.2.2.2.2.2.2.2.1,((0:Int),(s2.2.2.2.2.2.2.2.1,(code1_1,()))))))))),true,())
def Zbx(s0:Zo)(code1:Int):Option (Zo×Bool×Unit):=
 (Xv s0).bind fun t8=>
 let t14:Bool:=(!t8.1)|| (decide (s0.1>(2:Int)))
 (bif t14 then some (false,())else(Qi code1)).bind fun t17=>
 bif t14|| (!t17.1)then
  (Zc0 s0).bind fun t21=>
  some (t21.1,false,())
 else
  Qf (
   Zi (0<=s0.2.1.1/\s0.2.1.1<=s0.2.1.1/\s0.2.1.1<=Qg)<|
   Q3 1 (
    Zh0 code1 s0 We (s0.2.1.1,(s0.2.2.2.2.2.2.2.1,(s0.2.2.2.2.2.2.2.1,(List.replicate s0.2.1.1.toNat (0:Int),()))))
   )
  ) (
   Zi (0<=s0.2.1.1/\s0.2.1.1<=s0.2.1.1/\s0.2.1.1<=Qg)<|
   Zh0 code1 s0 We (s0.2.1.1,(s0.2.2.2.2.2.2.2.1,(s0.2.2.2.2.2.2.2.1,(List.replicate s0.2.1.1.toNat (0:Int),()))))
  )
def Zne(c0:Ze)(id1:Int)(code2:Int):Option ((Ze×Bool×Unit)×(Unit)):=(Z6 c0).bind fun t14=>(Qw c0 id1).bind fun t18=>(Ya c0).bind fun t22=>bif((!t22.1)|| (!t18.2.1))|| (!t18.1.2.2.2.2.2.2.1)then some ((t14.1,(false,())),()) else (Zbx t18.1.2.1 code2).bind fun t38=>bif !t38.2.1 then some ((t14.1,(false,())),()) else Option.bind (Zek t14.1 (t18.1.1,(t38.1,(t18.1.2.2.1,(t18.1.2.2.2.1,(t18.1.2.2.2.2.1,(t18.1.2.2.2.2.2.1,(t18.1.2.2.2.2.2.2.1,(t18.1.2.2.2.2.2.2.2.1,(true,t18.1.2.2.2.2.2.2.2.2.2)))))))))) fun t48=>some ((t48.2.1,(true,())),())
abbrev Qj1:List PE:=[.val 0 (.str) (.u false),.val 1 (.int .u8) (.u false),.val 5 (.slice 9 (.str)) (.u true),.val 6 (.str) (.u false),.val 7 (.int .i64) (.u false)]
def Zmo(K1: (List UInt8×Int×List (List UInt8)×List UInt8×Int×Unit)->Option (List (List UInt8)×Unit))(s0_2:List UInt8)(by1_2:Int)(out5_1:List (List UInt8))(part6_2:List UInt8)(i7_1:Int):Option (List (List UInt8)×Unit):=K1 (s0_2,by1_2,out5_1,part6_2,IntKind.i64.wrap (i7_1+1),())
abbrev Qj2:List PE:=[.val 0 (.str) (.u false),.val 1 (.int .u8) (.u false),.val 5 (.slice 9 (.str)) (.u true),.val 6 (.str) (.u false),.val 7 (.int .i64) (.u false)]
def Zns(s0_1:List UInt8)(by1_1:Int)(out5:List (List UInt8))(part6_1:List UInt8)(i7:Int):Nat:=((s0_1.length:Int)-i7).toNat+1
def Zi1:Nat->List UInt8->Int->List (List UInt8)->List UInt8->Int->Option (List (List UInt8)×Unit)
 |0,_,_,_,_,_=>none
 |N+1,s0_1,by1_1,out5,part6_1,i7=>
  bif decide (i7< (s0_1.length:Int))then
   Zi (0<=i7/\i7<s0_1.length)<|
   bif((s0_1.getD i7.toNat 0).toNat:Int)==by1_1 then
    Zi (out5.length+ ([part6_1]).length<=Qg)<|
    Zmo (fun v=>Zi1 N v.1 v.2.1 v.2.2.1 v.2.2.2.1 v.2.2.2.2.1) s0_1 by1_1 (out5++ ([part6_1])) ([]:List UInt8) i7
   else
    Zi (0<=i7/\i7<=(IntKind.i64.wrap (i7+1))/\(IntKind.i64.wrap (i7+1))<=s0_1.length)<|
    let t29:List UInt8:=(s0_1.drop i7.toNat).take ((IntKind.i64.wrap (i7+1)).toNat-i7.toNat)
    Zi (part6_1.length+t29.length<=Zf9)<|
    Zmo (fun v=>Zi1 N v.1 v.2.1 v.2.2.1 v.2.2.2.1 v.2.2.2.2.1) s0_1 by1_1 out5 (part6_1++t29) i7
  else
   Zi (out5.length+ ([part6_1]).length<=Qg)<|
   some (out5++ ([part6_1]),())
def Zww(s0:List UInt8)(by1:Int):Option (List (List UInt8)×Unit):=Zi1 (Zns s0 by1 ([]:List (List UInt8)) ([]:List UInt8) (0:Int)) s0 by1 ([]:List (List UInt8)) ([]:List UInt8) (0:Int)
abbrev Qf3:List PE:=[.val 0 (.str) (.u false)]
def Zmq(s0_2:List UInt8):Nat:=((s0_2.length:Int)- (0:Int)).toNat+1
def Zkg:Nat->List UInt8->Option (List UInt8×Unit)
 |0,_=>none
 |N+1,s0_2=>
  let t20:Int:=IntKind.i64.wrap ((s0_2.length:Int)- (1:Int))
  Zi (((decide ((s0_2.length:Int)>(0:Int)))=true->(0<=t20/\t20<s0_2.length)))<|
  bif(decide ((s0_2.length:Int)>(0:Int)))&& (((s0_2.getD t20.toNat 0).toNat:Int)==(32:Int))then
   let t27:Int:=IntKind.i64.wrap ((s0_2.length:Int)- (1:Int))
   Zi (0<=(0:Int)/\(0:Int)<=t27/\t27<=s0_2.length)<|
   Zkg N ((s0_2.drop (0:Int).toNat).take (t27.toNat- (0:Int).toNat))
  else
   some (s0_2,())
abbrev Qf2:List PE:=[.val 0 (.str) (.u false)]
def Zmp(s0_1:List UInt8):Nat:=((s0_1.length:Int)- (0:Int)).toNat+1
def Zkf:Nat->List UInt8->Option (List UInt8×Unit)|0,_=>none|N+1,s0_1=>Zi (((decide ((s0_1.length:Int)>(0:Int)))=true->(0<=(0:Int)/\(0:Int)<s0_1.length)))<|bif(decide ((s0_1.length:Int)>(0:Int)))&& (((s0_1.getD (0:Int).toNat 0).toNat:Int)==(32:Int))then Zi (0<=(1:Int)/\(1:Int)<=(s0_1.length:Int)/\(s0_1.length:Int)<=s0_1.length)<|Zkf N ((s0_1.drop (1:Int).toNat).take ((s0_1.length:Int).toNat- (1:Int).toNat)) else Zkg (Zmq s0_1) s0_1
def Zub(s0:List UInt8):Option (List UInt8×Unit):=Zkf (Zmp s0) s0
abbrev Zzh:List PE:=[.box 2 73 (Jv) (.u false),.box 4 73 (Jv) (.u false),.val 5 (.slice 9 (.str)) (.u true),.val 6 (.int .i64) (.u false)]
def X9(K1: (Q9×Q9×List (List UInt8)×Int×Unit)->Option (Q9×Unit))(base2_2:Q9)(t4_2:Q9)(l5_1:List (List UInt8))(i6_1:Int):Option (Q9×Unit):=K1 (base2_2,t4_2,l5_1,IntKind.i64.wrap (i6_1+1),())
abbrev Zzi:List PE:=[.box 2 73 (Jv) (.u false),.box 4 73 (Jv) (.u false),.val 5 (.slice 9 (.str)) (.u true),.val 6 (.int .i64) (.u false)]
def Zfw(base2_1:Q9)(t4_1:Q9)(l5:List (List UInt8))(i6:Int):Nat:=((l5.length:Int)-i6).toNat+1
def Q7:Nat->Q9->Q9->List (List UInt8)->Int->Option (Q9×Unit)
 |0,_,_,_,_=>none
 |N+1,base2_1,t4_1,l5,i6=>
  bif decide (i6< (l5.length:Int))then
   Zi (0<=i6/\i6<l5.length)<|
   (Zub (l5.getD i6.toNat ([]:List UInt8))).bind fun t24=>
   bif(t24.1==([105]:List UInt8))|| (t24.1==([105,61,63,49]:List UInt8))then
    X9 (fun v=>Q7 N v.1 v.2.1 v.2.2.1 v.2.2.2.1) (base2_1.1,(true,base2_1.2.2)) t4_1 l5 i6
   else
    bif t24.1==([105,61,63,48]:List UInt8)then
     X9 (fun v=>Q7 N v.1 v.2.1 v.2.2.1 v.2.2.2.1) (base2_1.1,(false,base2_1.2.2)) t4_1 l5 i6
    else
     Zi ((((t24.1.length:Int)==(3:Int))=true->(0<=(0:Int)/\(0:Int)<=(2:Int)/\(2:Int)<=t24.1.length)))<|
     let t45:Bool:=((t24.1.length:Int)==(3:Int))&& (((t24.1.drop (0:Int).toNat).take ((2:Int).toNat- (0:Int).toNat))==([117,61]:List UInt8))
     Zi ((t45=true->(0<=(2:Int)/\(2:Int)<t24.1.length)))<|
     let t50:Bool:=t45&& (decide (((t24.1.getD (2:Int).toNat 0).toNat:Int)>=(48:Int)))
     Zi ((t50=true->(0<=(2:Int)/\(2:Int)<t24.1.length)))<|
     bif t50&& (decide (((t24.1.getD (2:Int).toNat 0).toNat:Int)<=(55:Int)))then
      Zi (0<=(2:Int)/\(2:Int)<t24.1.length)<|
      X9 (fun v=>Q7 N v.1 v.2.1 v.2.2.1 v.2.2.2.1) (IntKind.i64.wrap (IntKind.u8.wrap (((t24.1.getD (2:Int).toNat 0).toNat:Int)- (48:Int))),base2_1.2) t4_1 l5 i6
     else
      X9 (fun v=>Q7 N v.1 v.2.1 v.2.2.1 v.2.2.2.1) base2_1 t4_1 l5 i6
  else
   some (base2_1,())
abbrev Zzg:List PE:=[.val 1 (.str) (.u false),.box 2 73 (Jv) (.u false),.box 4 73 (Jv) (.u false)]
def Jb(s1_1:List UInt8)(base2:Q9)(t4:Q9):Option (Q9×Unit):=(Zww s1_1 (44:Int)).bind fun t13=>Q7 (Zfw base2 t4 t13.1 (0:Int)) base2 t4 t13.1 (0:Int)
def Zbv(base0:Q9)(s1:List UInt8):Option (Q9×Unit):=(Vo base0).bind fun t9=>bif !t9.1 then Option.bind Zck fun t11=>Jb s1 t11.1 ((0:Int),(false,())) else Jb s1 base0 ((0:Int),(false,()))
def Znf(c0:Ze)(id1:Int)(text2:List UInt8):Option (Ze×Bool×Unit):=(Z6 c0).bind fun t12=>(Qw c0 id1).bind fun t16=>(Ya c0).bind fun t20=>bif((!t20.1)|| (!t16.2.1))|| (!t16.1.2.2.2.2.2.2.1)then some (t12.1,false,()) else (Zbv t16.1.2.2.2.2.2.1 text2).bind fun t35=>Option.bind (Qv t12.1.2.2.2.1 (t16.1.1,(t16.1.2.1,(t16.1.2.2.1,(t16.1.2.2.2.1,(t16.1.2.2.2.2.1,(t35.1,t16.1.2.2.2.2.2.2))))))) fun t40=>some ((t12.1.1,(t12.1.2.1,(t12.1.2.2.1,(t40.1,t12.1.2.2.2.2)))),true,())
def W2(w0:Qt):Option (Bool×Unit):=
 (Vl w0).bind fun t4=>
 let t9:Bool:=t4.1&& (decide (w0.2.2.1< (4611686018427387903:Int)))
 Zi ((t9=true->((2:Int)≠0)))<|
 some (t9&& (decide ((IntKind.i64.wrap ((IntKind.i64.wrap (w0.2.2.2.2.1+w0.1))-w0.2.2.1))>=(IntKind.i64.wrap (Int.tdiv (IntKind.i64.wrap (w0.1+1)) (2:Int))))),())
abbrev Z2q:List PE:=[.val 1 (.int .i64) (.u false),.box 3 30 (Ks) (.u false),.box 6 30 (Ks) (.u false)]
def Zhx(now1_1:Int)(w3:Qt)(t6:Qt):Option (Qt×Bool×Unit):=some ((w3.1,(w3.2.1,(min (IntKind.i64.wrap (w3.2.2.2.2.1+w3.1)) (4611686018427387903:Int),(w3.2.2.2.1,(w3.2.2.2.2.1,(now1_1,w3.2.2.2.2.2.2)))))),true,())
def Wb(w0:Qt)(now1:Int)(trip2:Int):Option (Qt×Bool×Unit):=(W2 w0).bind fun t9=>(bif(!t9.1)then some (false,())else(Z4 now1 w0.2.2.2.2.2.1 (1000000:Int))).bind fun t15=>(bif((!t9.1)|| (!t15.1))then some (false,())else(Z4 trip2 (1:Int) (1000:Int))).bind fun t20=>bif((!t9.1)|| (!t15.1))|| (!t20.1)then some (w0,false,()) else bif decide ((IntKind.i64.wrap (now1-w0.2.2.2.2.2.1))< (IntKind.i64.wrap ((2:Int)*trip2)))then Zhx now1 (min (IntKind.i64.wrap ((2:Int)*w0.1)) w0.2.1,w0.2) Qgs else Zhx now1 w0 Qgs
def Zk1(c0:Ze):Option (Qt×Bool×Unit):=(W2 c0.2.2.2.2.2.1).bind fun t8=>bif t8.1 then (Wb c0.2.2.2.2.2.1 c0.2.2.2.2.2.2.2.2.2.2.2.2.2.2.2.2.1 c0.2.1.2.2.2.2.2.2.2.1).bind fun t17=>some (t17.1,t17.2.1,()) else some (c0.2.2.2.2.2.1,c0.2.2.2.2.2.2.2.2.2.2.1,())
def Zcq(a0:Qr):Option (Bool×Unit):=(J4 a0).bind fun t4=>Zi ((t4.1=true->((2:Int)≠0)))<|some ((t4.1&& (decide ((IntKind.i64.wrap ((IntKind.i64.wrap (a0.2.2.2.1+a0.1))-a0.2.1))>=(IntKind.i64.wrap (Int.tdiv (IntKind.i64.wrap (a0.1+1)) (2:Int))))))&& (decide (a0.1>(0:Int))),())
def Zdv(a0:Qr):Option (Qr×Bool×Unit):=(Zcq a0).bind fun t5=>bif(!t5.1)|| (decide ((IntKind.i64.wrap (a0.2.2.2.1+a0.1))>1152921504606846976))then some (a0,false,()) else some ((a0.1,(IntKind.i64.wrap (a0.2.2.2.1+a0.1),a0.2.2)),true,())
def Zcc(a0:Qr)(tell1:Bool):Option (Qr×Bool×Unit):=(Zcq a0).bind fun t9=>bif t9.1 then (Zdv a0).bind fun t12=>some (t12.1,t12.2.1,()) else some (a0,tell1,())
def Zi5(c0:Ze)(s1:Zh):Option (Qt×Bool×Unit):=bif((!s1.2.2.2.2.2.2.2.1)|| (s1.2.2.2.1.1 !=0))||s1.2.2.2.2.2.2.2.2.2.2.2.1 then some (s1.2.2.2.2.1,false,()) else (W2 s1.2.2.2.2.1).bind fun t25=>bif t25.1 then (Wb s1.2.2.2.2.1 c0.2.2.2.2.2.2.2.2.2.2.2.2.2.2.2.2.1 c0.2.1.2.2.2.2.2.2.2.1).bind fun t34=>some (t34.1,t34.2.1,()) else some (s1.2.2.2.2.1,s1.2.2.2.2.2.2.2.2.2.2.1,())
def Zob(c0:Qr):Option (Bool×Unit):=(Yd c0).bind fun t4=>some (t4.1&& (c0.2.2.1==c0.1),())
abbrev Z8k:List PE:=[.box 3 75 (Zy) (.u false),.val 5 (.slice 87 (Zu)) (.u true)]
def Zhc(s3_2:Zh)(out5_2:List Zf):Option (List Zf×Unit):=
 (Zob s3_2.2.2.1).bind fun t56=>
 bif(t56.1&&s3_2.2.2.2.2.2.2.1)&& (decide ((s3_2.2.1.2.2.1.length:Int)>(0:Int)))then
  let t75:List Zf:=[((21:Int),(s3_2.1,((0:Int),(([]:List UInt8),(false,((0:Int),(s3_2.2.2.1.1,((0:Int),(false,())))))))))]
  Zi (out5_2.length+t75.length<=Qg)<|
  some (out5_2++t75,())
 else
  some (out5_2,())
abbrev Z8j:List PE:=[.box 2 37 (Zq) (.u false),.box 3 75 (Zy) (.u false),.val 5 (.slice 87 (Zu)) (.u true)]
def W7(c2_1:Ze)(s3_1:Zh)(out5_1:List Zf):Option (List Zf×Unit):=
 (Zi5 c2_1 s3_1).bind fun t42=>
 bif t42.2.1 then
  let t52:List Zf:=[((17:Int),(s3_1.1,((0:Int),(([]:List UInt8),(false,((0:Int),(t42.1.2.2.1,((0:Int),(false,())))))))))]
  Zi (out5_1.length+t52.length<=Qg)<|
  Zhc s3_1 (out5_1++t52)
 else
  Zhc s3_1 out5_1
abbrev Z8i:List PE:=[.box 2 37 (Zq) (.u false),.box 3 75 (Zy) (.u false),.val 5 (.slice 87 (Zu)) (.u true)]
def W6(c2:Ze)(s3:Zh)(out5:List Zf):Option (List Zf×Unit):=
 bif s3.2.2.2.2.2.2.2.2.2.1&& (decide (s3.2.2.2.1.1< (2:Int)))then
  let t37:List Zf:=[((5:Int),(s3.1,((0:Int),(([]:List UInt8),(false,(s3.2.2.2.2.2.2.2.2.2.2.2.2.1,((0:Int),((0:Int),(false,())))))))))]
  Zi (out5.length+t37.length<=Qg)<|
  W7 c2 s3 (out5++t37)
 else
  W7 c2 s3 out5
def Zi4(c0:Ze)(s1:Zh):Option (List Zf×Unit):=
 bif s1.2.2.2.2.2.2.2.2.1 then
  let t21:List Zf:=[((4:Int),(s1.1,((0:Int),(([]:List UInt8),(false,(s1.2.1.2.2.2.2.2.2.2.2.1,((0:Int),(s1.2.1.2.2.2.2.2.2.2.1,(false,())))))))))]
  Zi (([]:List Zf).length+t21.length<=Qg)<|
  W6 c0 s1 (([]:List Zf)++t21)
 else
  W6 c0 s1 ([]:List Zf)
abbrev Zy8:List PE:=[.box 1 37 (Zq) (.u false),.val 3 (.slice 87 (Zu)) (.u true)]
def Za5(c1_5:Ze)(out3_5:List Zf):Option (List Zf×Unit):=
 bif c1_5.2.2.2.2.2.2.2.1.2.2.1==c1_5.2.2.2.2.2.2.2.1.1 then
  let t110:List Zf:=[((22:Int),((0:Int),((0:Int),(([]:List UInt8),(false,((0:Int),(c1_5.2.2.2.2.2.2.2.1.1,((0:Int),(true,())))))))))]
  Zi (out3_5.length+t110.length<=Qg)<|
  some (out3_5++t110,())
 else
  some (out3_5,())
abbrev Zy7:List PE:=[.box 1 37 (Zq) (.u false),.val 3 (.slice 87 (Zu)) (.u true)]
def Za4(c1_4:Ze)(out3_4:List Zf):Option (List Zf×Unit):=
 bif c1_4.2.2.2.2.2.2.1.2.2.1==c1_4.2.2.2.2.2.2.1.1 then
  let t96:List Zf:=[((22:Int),((0:Int),((0:Int),(([]:List UInt8),(false,((0:Int),(c1_4.2.2.2.2.2.2.1.1,((0:Int),(false,())))))))))]
  Zi (out3_4.length+t96.length<=Qg)<|
  Za5 c1_4 (out3_4++t96)
 else
  Za5 c1_4 out3_4
abbrev Zy9:List PE:=[.box 1 37 (Zq) (.u false),.val 3 (.slice 87 (Zu)) (.u true),.val 10 (.int .i64) (.u false)]
def Wv(c1_3:Ze)(out3_3:List Zf)(i10:Int):Nat:=((c1_3.2.2.2.1.length:Int)-i10).toNat+1
def Ja:Nat->Ze->List Zf->Int->Option (List Zf×Unit)
 |0,_,_,_=>none
 |N+1,c1_3,out3_3,i10=>
  bif decide (i10< (c1_3.2.2.2.1.length:Int))then
   Zi (0<=i10/\i10<c1_3.2.2.2.1.length)<|
   (Zi4 c1_3 (c1_3.2.2.2.1.getD i10.toNat Zn)).bind fun t72=>
   Zi (out3_3.length+t72.1.length<=Qg)<|
   Ja N c1_3 (out3_3++t72.1) (IntKind.i64.wrap (i10+1))
  else
   (Zob c1_3.2.2.2.2.1).bind fun t76=>
   bif t76.1 then
    let t82:List Zf:=[((20:Int),((0:Int),((0:Int),(([]:List UInt8),(false,((0:Int),(c1_3.2.2.2.2.1.1,((0:Int),(false,())))))))))]
    Zi (out3_3.length+t82.length<=Qg)<|
    Za4 c1_3 (out3_3++t82)
   else
    Za4 c1_3 out3_3
abbrev Zy6:List PE:=[.box 1 37 (Zq) (.u false),.val 3 (.slice 87 (Zu)) (.u true)]
def K9(c1_2:Ze)(out3_2:List Zf):Option (List Zf×Unit):=Ja (Wv c1_2 out3_2 (0:Int)) c1_2 out3_2 (0:Int)
abbrev Zy5:List PE:=[.box 1 37 (Zq) (.u false),.val 3 (.slice 87 (Zu)) (.u true)]
def K8(c1_1:Ze)(out3_1:List Zf):Option (List Zf×Unit):=
 (Zcc c1_1.2.2.2.2.2.2.2.2.2.1 c1_1.2.2.2.2.2.2.2.2.2.2.2.2.1).bind fun t48=>
 bif t48.2.1 then
  let t56:List Zf:=[((18:Int),((0:Int),((0:Int),(([]:List UInt8),(false,((0:Int),(t48.1.2.1,((0:Int),(true,())))))))))]
  Zi (out3_1.length+t56.length<=Qg)<|
  K9 c1_1 (out3_1++t56)
 else
  K9 c1_1 out3_1
abbrev Zy4:List PE:=[.box 1 37 (Zq) (.u false),.val 3 (.slice 87 (Zu)) (.u true)]
def K7(c1:Ze)(out3:List Zf):Option (List Zf×Unit):=
 (Zcc c1.2.2.2.2.2.2.2.2.1 c1.2.2.2.2.2.2.2.2.2.2.2.1).bind fun t33=>
 bif t33.2.1 then
  let t41:List Zf:=[((18:Int),((0:Int),((0:Int),(([]:List UInt8),(false,((0:Int),(t33.1.2.1,((0:Int),(false,())))))))))]
  Zi (out3.length+t41.length<=Qg)<|
  K8 c1 (out3++t41)
 else
  K8 c1 out3
def Zbo(c0:Ze):Option (List Zf×Unit):=
 (Ya c0).bind fun t13=>
 bif !t13.1 then
  some (([]:List Zf),())
 else
  (Zk1 c0).bind fun t18=>
  bif t18.2.1 then
   let t26:List Zf:=[((16:Int),((0:Int),((0:Int),(([]:List UInt8),(false,((0:Int),(t18.1.2.2.1,((0:Int),(false,())))))))))]
   Zi (([]:List Zf).length+t26.length<=Qg)<|
   K7 c0 (([]:List Zf)++t26)
  else
   K7 c0 ([]:List Zf)
def Zer(n0:Int):Option (Int×Unit):=bif(decide (n0< (0:Int)))|| (decide (n0>(4611686018427387903:Int)))then some ((0:Int),()) else bif decide (n0< (64:Int))then some ((1:Int),()) else bif decide (n0< (16384:Int))then some ((2:Int),()) else bif decide (n0< (1073741824:Int))then some ((4:Int),()) else some ((8:Int),())
abbrev Z2f:List PE:=[.val 0 (.int .i64) (.u false),.val 1 (.int .i64) (.u false),.val 5 (.str) (.u false),.val 6 (.int .i64) (.u false)]
def Zn9(n0_1:Int)(width1_1:Int)(out5_1:List UInt8)(i6:Int):Nat:=(width1_1-i6).toNat+1
def Y1:Nat->Int->Int->List UInt8->Int->Option (List UInt8×Unit)
 |0,_,_,_,_=>none
 |N+1,n0_1,width1_1,out5_1,i6=>
  bif decide (i6<width1_1)then
   Zi ((256:Int)≠0)<|
   let t23:List UInt8:=Jd ([(IntKind.u8.wrap (Int.tmod n0_1 (256:Int)))])
   Zi (t23.length+out5_1.length<=Zf9)<|
   Zi ((256:Int)≠0)<|
   Y1 N (IntKind.i64.wrap (Int.tdiv n0_1 (256:Int))) width1_1 (t23++out5_1) (IntKind.i64.wrap (i6+1))
  else
   bif decide (n0_1>(0:Int))then
    some (([]:List UInt8),())
   else
    some (out5_1,())
def Zm7(n0:Int)(width1:Int):Option (List UInt8×Unit):=(Z4 width1 (1:Int) (7:Int)).bind fun t8=>bif(!t8.1)|| (decide (n0< (0:Int)))then some (([]:List UInt8),()) else Y1 (Zn9 n0 width1 ([]:List UInt8) (0:Int)) n0 width1 ([]:List UInt8) (0:Int)
def Zhd(n0:Int):Option (List UInt8×Unit):=(Zm7 (bits .and .i64 n0 (255:Int)) (1:Int)).bind fun t5=>some (t5.1,())
abbrev Z49:List PE:=[.val 0 (.int .i64) (.u false),.val 3 (.int .i64) (.u false),.val 4 (.str) (.u false),.val 5 (.int .i64) (.u false),.val 6 (.int .i64) (.u false)]
def Ys(K1: (Int×Int×List UInt8×Int×Unit)->Option (List UInt8×Unit))(n0_2:Int)(k3_1:Int)(s4_2:List UInt8)(i5_1:Int)(b6:Int):Option (List UInt8×Unit):=(Zhd b6).bind fun t39=>Zi (s4_2.length+t39.1.length<=Zf9)<|K1 (n0_2,k3_1,s4_2++t39.1,IntKind.i64.wrap (i5_1-1),())
abbrev Z5a:List PE:=[.val 0 (.int .i64) (.u false),.val 3 (.int .i64) (.u false),.val 4 (.str) (.u false),.val 5 (.int .i64) (.u false)]
def Zdk(n0_1:Int)(k3:Int)(s4_1:List UInt8)(i5:Int):Nat:=(i5-0).toNat+2
def Q1:Nat->Int->Int->List UInt8->Int->Option (List UInt8×Unit)
 |0,_,_,_,_=>none
 |N+1,n0_1,k3,s4_1,i5=>
  bif decide (i5>=(0:Int))then
   Zi (0<=(IntKind.i64.wrap ((8:Int)*i5)))<|
   let t19:Int:=bits .and .i64 (n0_1.fdiv (2^ (min (IntKind.i64.wrap ((8:Int)*i5)).toNat IntKind.i64.bits))) (255:Int)
   bif i5==(IntKind.i64.wrap (k3-1))then
    bif k3==2 then
     Ys (fun v=>Q1 N v.1 v.2.1 v.2.2.1 v.2.2.2.1) n0_1 k3 s4_1 i5 (bits .or .i64 t19 (64:Int))
    else
     bif k3==4 then
      Ys (fun v=>Q1 N v.1 v.2.1 v.2.2.1 v.2.2.2.1) n0_1 k3 s4_1 i5 (bits .or .i64 t19 (128:Int))
     else
      bif k3==8 then
       Ys (fun v=>Q1 N v.1 v.2.1 v.2.2.1 v.2.2.2.1) n0_1 k3 s4_1 i5 (bits .or .i64 t19 (192:Int))
      else
       Ys (fun v=>Q1 N v.1 v.2.1 v.2.2.1 v.2.2.2.1) n0_1 k3 s4_1 i5 t19
   else
    Ys (fun v=>Q1 N v.1 v.2.1 v.2.2.1 v.2.2.2.1) n0_1 k3 s4_1 i5 t19
  else
   some (s4_1,())
def Zgr(n0:Int):Option (List UInt8×Unit):=(Zer n0).bind fun t8=>Q1 (Zdk n0 t8.1 ([]:List UInt8) (IntKind.i64.wrap (t8.1-1))) n0 t8.1 ([]:List UInt8) (IntKind.i64.wrap (t8.1-1))
abbrev Z2k:List PE:=[.val 0 (.slice 3 (.int .i64)) (.u false),.val 3 (.str) (.u false),.val 4 (.int .i64) (.u false)]
def Zb6(l0_1:List Int)(s3_1:List UInt8)(i4:Int):Nat:=((l0_1.length:Int)-i4).toNat+1
def Va:Nat->List Int->List UInt8->Int->Option (List UInt8×Unit)|0,_,_,_=>none|N+1,l0_1,s3_1,i4=>bif decide (i4< (l0_1.length:Int))then Zi (0<=i4/\i4<l0_1.length)<|(Zer (l0_1.getD i4.toNat (0:Int))).bind fun t15=>bif t15.1==0 then some (([]:List UInt8),()) else Zi (0<=i4/\i4<l0_1.length)<|(Zgr (l0_1.getD i4.toNat (0:Int))).bind fun t22=>Zi (s3_1.length+t22.1.length<=Zf9)<|Va N l0_1 (s3_1++t22.1) (IntKind.i64.wrap (i4+1)) else some (s3_1,())
def Xg(l0:List Int):Option (List UInt8×Unit):=Va (Zb6 l0 ([]:List UInt8) (0:Int)) l0 ([]:List UInt8) (0:Int)
abbrev Z2g:List PE:=[.box 1 87 (Zu) (.u false),.val 3 (.int .i64) (.u false)]
def Zab(f1:Zf)(kind3:Int):Option (List UInt8×Unit):=bif f1.2.2.1==0 then (Xg ([kind3,f1.2.1,(f1.2.2.2.1.length:Int)])).bind fun t44=>Zi (t44.1.length+f1.2.2.2.1.length<=Zf9)<|some (t44.1++f1.2.2.2.1,()) else (Xg ([(IntKind.i64.wrap (kind3+4)),f1.2.1,f1.2.2.1,(f1.2.2.2.1.length:Int)])).bind fun t58=>Zi (t58.1.length+f1.2.2.2.1.length<=Zf9)<|some (t58.1++f1.2.2.2.1,())
abbrev Z2j:List PE:=[.box 1 87 (Zu) (.u false),.val 4 (.int .i64) (.u false)]
def Zac(f1_3:Zf)(kind4:Int):Option (List UInt8×Unit):=(Xg ([kind4,f1_3.2.2.2.2.2.2.1])).bind fun t92=>some (t92.1,())
abbrev Z2i:List PE:=[.box 1 87 (Zu) (.u false),.val 71 (.bool) (.u false)]
def Kw(f1_2:Zf)(t71:Bool):Option (List UInt8×Unit):=bif t71 then (Xg ([f1_2.1,f1_2.2.1,f1_2.2.2.2.2.2.2.1])).bind fun t81=>some (t81.1,()) else bif f1_2.2.2.2.2.2.2.2.2.1 then Zac f1_2 (IntKind.i64.wrap (f1_2.1+1)) else Zac f1_2 f1_2.1
abbrev Z2h:List PE:=[.box 1 87 (Zu) (.u false),.val 9 (.int .i64) (.u false),.val 62 (.bool) (.u false)]
def Yc(f1_1:Zf)(t9:Int)(t62:Bool):Option (List UInt8×Unit):=bif t62 then (Xg ([f1_1.1,f1_1.2.2.2.2.2.2.1])).bind fun t70=>some (t70.1,()) else bif t9==17 then Kw f1_1 (t9==17) else Kw f1_1 (t9==21)
def Zbp(f0:Zf):Option (List UInt8×Unit):=(Zb8 f0).bind fun t6=>bif !t6.1 then some (([]:List UInt8),()) else bif f0.1==4 then (Xg ([(4:Int),f0.2.1,f0.2.2.2.2.2.1,f0.2.2.2.2.2.2.2.1])).bind fun t19=>some (t19.1,()) else bif f0.1==5 then (Xg ([(5:Int),f0.2.1,f0.2.2.2.2.2.1])).bind fun t27=>some (t27.1,()) else bif f0.1==8 then bif f0.2.2.2.2.1 then Zab f0 (IntKind.i64.wrap ((10:Int)+ (1:Int))) else Zab f0 (10:Int) else bif f0.1==16 then Yc f0 f0.1 (f0.1==16) else Yc f0 f0.1 (f0.1==20)
def Zfp(f0:Zf):Option (Int×Unit):=(Zbp f0).bind fun t4=>some ((t4.1.length:Int),())
def Zdh(c0:Qr):Option (Qr×Unit):=(Yd c0).bind fun t4=>bif t4.1&& (c0.2.2.1 !=(-1:Int))then some ((c0.1,(c0.2.1,((-1:Int),(c0.2.2.1,c0.2.2.2.2)))),()) else some (c0,())
def Zuf(c0:Ze)(s1:Zh)(kind2:Int):Option ((Zh×Unit)×(Unit)):=bif kind2==4 then some (((s1.1,(s1.2.1,(s1.2.2.1,(s1.2.2.2.1,(s1.2.2.2.2.1,(s1.2.2.2.2.2.1,(s1.2.2.2.2.2.2.1,(s1.2.2.2.2.2.2.2.1,(false,s1.2.2.2.2.2.2.2.2.2))))))))),()),()) else bif kind2==5 then some (((s1.1,(s1.2.1,(s1.2.2.1,(s1.2.2.2.1,(s1.2.2.2.2.1,(s1.2.2.2.2.2.1,(s1.2.2.2.2.2.2.1,(s1.2.2.2.2.2.2.2.1,(s1.2.2.2.2.2.2.2.2.1,(false,s1.2.2.2.2.2.2.2.2.2.2)))))))))),()),()) else bif kind2==17 then (Zi5 c0 s1).bind fun t21=>bif t21.2.1 then some (((s1.1,(s1.2.1,(s1.2.2.1,(s1.2.2.2.1,(t21.1,(s1.2.2.2.2.2.1,(s1.2.2.2.2.2.2.1,(s1.2.2.2.2.2.2.2.1,(s1.2.2.2.2.2.2.2.2.1,(s1.2.2.2.2.2.2.2.2.2.1,(false,s1.2.2.2.2.2.2.2.2.2.2.2))))))))))),()),()) else some (((s1.1,(s1.2.1,(s1.2.2.1,(s1.2.2.2.1,(s1.2.2.2.2.1,(s1.2.2.2.2.2.1,(s1.2.2.2.2.2.2.1,(s1.2.2.2.2.2.2.2.1,(s1.2.2.2.2.2.2.2.2.1,(s1.2.2.2.2.2.2.2.2.2.1,(false,s1.2.2.2.2.2.2.2.2.2.2.2))))))))))),()),()) else bif kind2==21 then (Zdh s1.2.2.1).bind fun t32=>some (((s1.1,(s1.2.1,(t32.1,s1.2.2.2))),()),()) else some ((s1,()),())
def Znb(c0:Ze)(f1:Zf):Option (Ze×Unit):=(Z6 c0).bind fun t15=>(Yy c0).bind fun t17=>bif !t17.1 then some (t15.1,()) else bif f1.1==16 then (Zk1 c0).bind fun t43=>some ((t15.1.1,(t15.1.2.1,(t15.1.2.2.1,(t15.1.2.2.2.1,(t15.1.2.2.2.2.1,(t43.1,(t15.1.2.2.2.2.2.2.1,(t15.1.2.2.2.2.2.2.2.1,(t15.1.2.2.2.2.2.2.2.2.1,(t15.1.2.2.2.2.2.2.2.2.2.1,(false,t15.1.2.2.2.2.2.2.2.2.2.2.2))))))))))),()) else bif f1.1==18 then bif f1.2.2.2.2.2.2.2.2.1 then (Zcc c0.2.2.2.2.2.2.2.2.2.1 false).bind fun t56=>some ((t15.1.1,(t15.1.2.1,(t15.1.2.2.1,(t15.1.2.2.2.1,(t15.1.2.2.2.2.1,(t15.1.2.2.2.2.2.1,(t15.1.2.2.2.2.2.2.1,(t15.1.2.2.2.2.2.2.2.1,(t15.1.2.2.2.2.2.2.2.2.1,(t56.1,(t15.1.2.2.2.2.2.2.2.2.2.2.1,(t15.1.2.2.2.2.2.2.2.2.2.2.2.1,(false,t15.1.2.2.2.2.2.2.2.2.2.2.2.2.2))))))))))))),()) else (Zcc c0.2.2.2.2.2.2.2.2.1 false).bind fun t65=>some ((t15.1.1,(t15.1.2.1,(t15.1.2.2.1,(t15.1.2.2.2.1,(t15.1.2.2.2.2.1,(t15.1.2.2.2.2.2.1,(t15.1.2.2.2.2.2.2.1,(t15.1.2.2.2.2.2.2.2.1,(t65.1,(t15.1.2.2.2.2.2.2.2.2.2.1,(t15.1.2.2.2.2.2.2.2.2.2.2.1,(false,t15.1.2.2.2.2.2.2.2.2.2.2.2.2)))))))))))),()) else bif f1.1==20 then (Zdh c0.2.2.2.2.1).bind fun t75=>some ((t15.1.1,(t15.1.2.1,(t15.1.2.2.1,(t15.1.2.2.2.1,(t75.1,t15.1.2.2.2.2.2))))),()) else bif f1.1==22 then bif f1.2.2.2.2.2.2.2.2.1 then some ((t15.1.1,(t15.1.2.1,(t15.1.2.2.1,(t15.1.2.2.2.1,(t15.1.2.2.2.2.1,(t15.1.2.2.2.2.2.1,(t15.1.2.2.2.2.2.2.1,((t15.1.2.2.2.2.2.2.2.1.1,(t15.1.2.2.2.2.2.2.2.1.2.1,((-1:Int),t15.1.2.2.2.2.2.2.2.1.2.2.2))),t15.1.2.2.2.2.2.2.2.2)))))))),()) else some ((t15.1.1,(t15.1.2.1,(t15.1.2.2.1,(t15.1.2.2.2.1,(t15.1.2.2.2.2.1,(t15.1.2.2.2.2.2.1,((t15.1.2.2.2.2.2.2.1.1,(t15.1.2.2.2.2.2.2.1.2.1,((-1:Int),t15.1.2.2.2.2.2.2.1.2.2.2))),t15.1.2.2.2.2.2.2.2))))))),()) else (Qw c0 f1.2.1).bind fun t26=>bif t26.2.1 then (Zuf c0 t26.1 f1.1).bind fun t36=>(Qv t15.1.2.2.2.1 t36.1.1).bind fun t37=>some ((t15.1.1,(t15.1.2.1,(t15.1.2.2.1,(t37.1,t15.1.2.2.2.2)))),()) else some (t15.1,())
abbrev Z5t:List PE:=[.box 1 37 (Zq) (.u false),.val 3 (.slice 153 (Z7)) (.u true),.val 4 (.int .i64) (.u false)]
def Zjx(K1: (Ze×List Zk×Int×Unit)->Option (List Zk×Unit))(c1_1:Ze)(out3_1:List Zk)(i4_1:Int):Option (List Zk×Unit):=K1 (c1_1,out3_1,IntKind.i64.wrap (i4_1+1),())
abbrev Z5u:List PE:=[.box 1 37 (Zq) (.u false),.val 3 (.slice 153 (Z7)) (.u true),.val 4 (.int .i64) (.u false)]
def Zdq(c1:Ze)(out3:List Zk)(i4:Int):Nat:=((c1.2.2.2.1.length:Int)-i4).toNat+1
def Zby:Nat->Ze->List Zk->Int->Option (List Zk×Unit)
 |0,_,_,_=>none
 |N+1,c1,out3,i4=>
  bif decide (i4< (c1.2.2.2.1.length:Int))then
   Zi (0<=i4/\i4<c1.2.2.2.1.length)<|
   bif((c1.2.2.2.1.getD i4.toNat Zn).2.2.2.2.2.2.1&& (decide ((c1.2.2.2.1.getD i4.toNat Zn).2.1.1< (3:Int))))&& ((decide (((c1.2.2.2.1.getD i4.toNat Zn).2.1.2.2.1.length:Int)>(0:Int)))|| ((c1.2.2.2.1.getD i4.toNat Zn).2.1.2.2.2.2.2.2.1==1))then
    let t46:List Zk:=[((c1.2.2.2.1.getD i4.toNat Zn).1,((c1.2.2.2.1.getD i4.toNat Zn).2.2.2.2.2.1,()))]
    Zi (out3.length+t46.length<=Qg)<|
    Zjx (fun v=>Zby N v.1 v.2.1 v.2.2.1) c1 (out3++t46) i4
   else
    Zjx (fun v=>Zby N v.1 v.2.1 v.2.2.1) c1 out3 i4
  else
   some (out3,())
def Zo2(c0:Ze):Option (List Zk×Unit):=Zby (Zdq c0 ([]:List Zk) (0:Int)) c0 ([]:List Zk) (0:Int)
abbrev Z5v:List PE:=[.val 0 (.slice 153 (Z7)) (.u false),.val 1 (.int .i64) (.u false),.val 5 (.slice 153 (Z7)) (.u true),.val 6 (.int .i64) (.u false)]
def Zbz(K1: (List Zk×Int×List Zk×Int×Unit)->Option (List Zk×Unit))(l0_2:List Zk)(id1_2:Int)(out5_1:List Zk)(i6_1:Int):Option (List Zk×Unit):=K1 (l0_2,id1_2,out5_1,IntKind.i64.wrap (i6_1+1),())
abbrev Z5w:List PE:=[.val 0 (.slice 153 (Z7)) (.u false),.val 1 (.int .i64) (.u false),.val 5 (.slice 153 (Z7)) (.u true),.val 6 (.int .i64) (.u false)]
def Wd(l0_1:List Zk)(id1_1:Int)(out5:List Zk)(i6:Int):Nat:=((l0_1.length:Int)-i6).toNat+1
def Kj:Nat->List Zk->Int->List Zk->Int->Option (List Zk×Unit)|0,_,_,_,_=>none|N+1,l0_1,id1_1,out5,i6=>bif decide (i6< (l0_1.length:Int))then Zi (0<=i6/\i6<l0_1.length)<|bif(l0_1.getD i6.toNat Z5).1 !=id1_1 then Zi (0<=i6/\i6<l0_1.length)<|Zi (out5.length+ ([(l0_1.getD i6.toNat Z5)]).length<=Qg)<|Zbz (fun v=>Kj N v.1 v.2.1 v.2.2.1 v.2.2.2.1) l0_1 id1_1 (out5++ ([(l0_1.getD i6.toNat Z5)])) i6 else Zbz (fun v=>Kj N v.1 v.2.1 v.2.2.1 v.2.2.2.1) l0_1 id1_1 out5 i6 else some (out5,())
def Zgu(l0:List Zk)(id1:Int):Option (List Zk×Unit):=Kj (Wd l0 id1 ([]:List Zk) (0:Int)) l0 id1 ([]:List Zk) (0:Int)
abbrev Zy3:List PE:=[.val 0 (.slice 153 (Z7)) (.u false),.val 3 (.int .i64) (.u false)]
def Wt(l0_1:List Zk)(i3:Int):Nat:=((l0_1.length:Int)-i3).toNat+1
def Vf:Nat->List Zk->Int->Option (Bool×Unit)|0,_,_=>none|N+1,l0_1,i3=>bif decide (i3< (l0_1.length:Int))then Zi (0<=i3/\i3<l0_1.length)<|(Qi (l0_1.getD i3.toNat Z5).1).bind fun t15=>Zi (((!t15.1)=false->(0<=i3/\i3<l0_1.length)))<|(bif(!t15.1)then some (false,())else(Vo (l0_1.getD i3.toNat Z5).2.1)).bind fun t23=>Zi ((((!t15.1)|| (!t23.1))=false->((decide (i3>(0:Int)))=true->(0<=i3/\i3<l0_1.length))))<|Zi ((((!t15.1)|| (!t23.1))=false->((decide (i3>(0:Int)))=true->(0<=(IntKind.i64.wrap (i3-1))/\(IntKind.i64.wrap (i3-1))<l0_1.length))))<|bif((!t15.1)|| (!t23.1))|| ((decide (i3>(0:Int)))&& (decide ((l0_1.getD i3.toNat Z5).1<=(l0_1.getD (IntKind.i64.wrap (i3-1)).toNat Z5).1)))then some (false,()) else Vf N l0_1 (IntKind.i64.wrap (i3+1)) else some (true,())
def Zjm(l0:List Zk):Option (Bool×Unit):=Vf (Wt l0 (0:Int)) l0 (0:Int)
abbrev Z5i:List PE:=[.val 0 (.slice 153 (Z7)) (.u false),.val 3 (.slice 3 (.int .i64)) (.u true),.val 4 (.int .i64) (.u false),.val 5 (.int .i64) (.u false)]
def Zjt(K1: (List Zk×List Int×Int×Int×Unit)->Option (List Int×Unit))(l0_2:List Zk)(out3_1:List Int)(best4_1:Int)(i5_1:Int):Option (List Int×Unit):=K1 (l0_2,out3_1,best4_1,IntKind.i64.wrap (i5_1+1),())
abbrev Z5j:List PE:=[.val 0 (.slice 153 (Z7)) (.u false),.val 3 (.slice 3 (.int .i64)) (.u true),.val 4 (.int .i64) (.u false),.val 5 (.int .i64) (.u false)]
def Zju(K1: (List Zk×List Int×Int×Int×Unit)->Option (List Int×Unit))(l0_3:List Zk)(out3_2:List Int)(best4_2:Int)(i5_2:Int):Option (List Int×Unit):=Zi (0<=i5_2/\i5_2<l0_3.length)<|bif(l0_3.getD i5_2.toNat Z5).2.1.1==best4_2 then Zi (0<=i5_2/\i5_2<l0_3.length)<|Zi (out3_2.length+ ([(l0_3.getD i5_2.toNat Z5).1]).length<=Qg)<|Zjt K1 l0_3 (out3_2++ ([(l0_3.getD i5_2.toNat Z5).1])) best4_2 i5_2 else Zjt K1 l0_3 out3_2 best4_2 i5_2
abbrev Z5k:List PE:=[.val 0 (.slice 153 (Z7)) (.u false),.val 3 (.slice 3 (.int .i64)) (.u true),.val 4 (.int .i64) (.u false),.val 5 (.int .i64) (.u false)]
def Wa(l0_1:List Zk)(out3:List Int)(best4:Int)(i5:Int):Nat:=((l0_1.length:Int)-i5).toNat+1
def Js:Nat->List Zk->List Int->Int->Int->Option (List Int×Unit)|0,_,_,_,_=>none|N+1,l0_1,out3,best4,i5=>(bif(decide (i5< (l0_1.length:Int)))then(Zjm l0_1)else some (false,())).bind fun t13=>bif(decide (i5< (l0_1.length:Int)))&&t13.1 then Zi (0<=i5/\i5<l0_1.length)<|bif decide ((l0_1.getD i5.toNat Z5).2.1.1<best4)then Zi (0<=i5/\i5<l0_1.length)<|Zju (fun v=>Js N v.1 v.2.1 v.2.2.1 v.2.2.2.1) l0_1 ([]:List Int) (l0_1.getD i5.toNat Z5).2.1.1 i5 else Zju (fun v=>Js N v.1 v.2.1 v.2.2.1 v.2.2.2.1) l0_1 out3 best4 i5 else some (out3,())
def Zox(l0:List Zk):Option (List Int×Unit):=Js (Wa l0 ([]:List Int) (8:Int) (0:Int)) l0 ([]:List Int) (8:Int) (0:Int)
abbrev Qcm:List PE:=[.val 0 (.slice 3 (.int .i64)) (.u false),.val 1 (.int .i64) (.u false),.val 5 (.int .i64) (.u false)]
def Zf8(l0_1:List Int)(last1_1:Int)(i5:Int):Nat:=((l0_1.length:Int)-i5).toNat+1
def Ze7:Nat->List Int->Int->Int->Option (Int×Unit)|0,_,_,_=>none|N+1,l0_1,last1_1,i5=>bif decide (i5< (l0_1.length:Int))then Zi (0<=i5/\i5<l0_1.length)<|bif decide ((l0_1.getD i5.toNat (0:Int))>last1_1)then Zi (0<=i5/\i5<l0_1.length)<|some (l0_1.getD i5.toNat (0:Int),()) else Ze7 N l0_1 last1_1 (IntKind.i64.wrap (i5+1)) else bif(l0_1.length:Int)==(0:Int)then some ((-1:Int),()) else Zi (0<=(0:Int)/\(0:Int)<l0_1.length)<|some (l0_1.getD (0:Int).toNat (0:Int),())
def Zse(l0:List Int)(last1:Int):Option (Int×Unit):=Ze7 (Zf8 l0 last1 (0:Int)) l0 last1 (0:Int)
abbrev Z5l:List PE:=[.val 0 (.slice 153 (Z7)) (.u false),.val 1 (.int .i64) (.u false),.val 5 (.slice 3 (.int .i64)) (.u true),.val 6 (.slice 3 (.int .i64)) (.u true),.val 7 (.int .i64) (.u false),.val 8 (.int .i64) (.u false)]
def Zjv(K1: (List Zk×Int×List Int×List Int×Int×Unit)->Option (Int×Unit))(K2: (List Zk×Int×List Int×List Int×Int×Int×Unit)->Option (Int×Unit))(l0_3:List Zk)(last1_3:Int)(m5_2:List Int)(some6_2:List Int)(i7_2:Int)(k8_1:Int):Option (Int×Unit):=K2 (l0_3,last1_3,m5_2,some6_2,i7_2,IntKind.i64.wrap (k8_1+1),())
abbrev Z5n:List PE:=[.val 0 (.slice 153 (Z7)) (.u false),.val 1 (.int .i64) (.u false),.val 5 (.slice 3 (.int .i64)) (.u true),.val 6 (.slice 3 (.int .i64)) (.u true),.val 7 (.int .i64) (.u false),.val 8 (.int .i64) (.u false)]
def Zdo(l0_2:List Zk)(last1_2:Int)(m5_1:List Int)(some6_1:List Int)(i7_1:Int)(k8:Int):Nat:=((m5_1.length:Int)-k8).toNat+1
def Vw(K1: (List Zk×Int×List Int×List Int×Int×Unit)->Option (Int×Unit)):Nat->List Zk->Int->List Int->List Int->Int->Int->Option (Int×Unit)
 |0,_,_,_,_,_,_=>none
 |N+1,l0_2,last1_2,m5_1,some6_1,i7_1,k8=>
  bif decide (k8< (m5_1.length:Int))then
   Zi (0<=k8/\k8<m5_1.length)<|
   Zi (0<=i7_1/\i7_1<l0_2.length)<|
   let t33:Bool:=(m5_1.getD k8.toNat (0:Int))==(l0_2.getD i7_1.toNat Z5).1
   Zi ((t33=true->(0<=i7_1/\i7_1<l0_2.length)))<|
   bif t33&& (!(l0_2.getD i7_1.toNat Z5).2.1.2.1)then
    Zi (0<=i7_1/\i7_1<l0_2.length)<|
    some ((l0_2.getD i7_1.toNat Z5).1,())
   else
    Zi (0<=k8/\k8<m5_1.length)<|
    Zi (0<=i7_1/\i7_1<l0_2.length)<|
    bif(m5_1.getD k8.toNat (0:Int))==(l0_2.getD i7_1.toNat Z5).1 then
     Zi (0<=i7_1/\i7_1<l0_2.length)<|
     Zi (some6_1.length+ ([(l0_2.getD i7_1.toNat Z5).1]).length<=Qg)<|
     Zjv K1 (fun v=>Vw K1 N v.1 v.2.1 v.2.2.1 v.2.2.2.1 v.2.2.2.2.1 v.2.2.2.2.2.1) l0_2 last1_2 m5_1 (some6_1++ ([(l0_2.getD i7_1.toNat Z5).1])) i7_1 k8
    else
     Zjv K1 (fun v=>Vw K1 N v.1 v.2.1 v.2.2.1 v.2.2.2.1 v.2.2.2.2.1 v.2.2.2.2.2.1) l0_2 last1_2 m5_1 some6_1 i7_1 k8
  else
   K1 (l0_2,last1_2,m5_1,some6_1,IntKind.i64.wrap (i7_1+1),())
abbrev Z5m:List PE:=[.val 0 (.slice 153 (Z7)) (.u false),.val 1 (.int .i64) (.u false),.val 5 (.slice 3 (.int .i64)) (.u true),.val 6 (.slice 3 (.int .i64)) (.u true),.val 7 (.int .i64) (.u false)]
def Zdn(l0_1:List Zk)(last1_1:Int)(m5:List Int)(some6:List Int)(i7:Int):Nat:=((l0_1.length:Int)-i7).toNat+1
def Vv:Nat->List Zk->Int->List Int->List Int->Int->Option (Int×Unit)|0,_,_,_,_,_=>none|N+1,l0_1,last1_1,m5,some6,i7=>bif decide (i7< (l0_1.length:Int))then Vw (fun v=>Vv N v.1 v.2.1 v.2.2.1 v.2.2.2.1 v.2.2.2.2.1) (Zdo l0_1 last1_1 m5 some6 i7 (0:Int)) l0_1 last1_1 m5 some6 i7 (0:Int) else (Zse some6 last1_1).bind fun t68=>some (t68.1,())
def Zoy(l0:List Zk)(last1:Int):Option (Int×Unit):=(Zox l0).bind fun t10=>Vv (Zdn l0 last1 t10.1 ([]:List Int) (0:Int)) l0 last1 t10.1 ([]:List Int) (0:Int)
def Zkb(c0:Qr):Option (Int×Unit):=(Yd c0).bind fun t4=>bif !t4.1 then some ((0:Int),()) else some (IntKind.i64.wrap (c0.1-c0.2.1),())
abbrev Qci:List PE:=[.val 1 (.int .i64) (.u false),.val 2 (.int .i64) (.u false),.box 3 63 (W8) (.u false),.val 8 (.str) (.u false),.val 9 (.int .i64) (.u false)]
def Zlf(offset1_1:Int)(n2_1:Int)(r3:Xz)(s8_1:List UInt8)(i9:Int):Nat:=(n2_1-i9).toNat+1
def Ziy:Nat->Int->Int->Xz->List UInt8->Int->Option (List UInt8×Bool×Unit)
 |0,_,_,_,_,_=>none
 |N+1,offset1_1,n2_1,r3,s8_1,i9=>
  bif decide (i9<n2_1)then
   Zi (r3.1≠0)<|
   let t50:Int:=Int.tmod (IntKind.i64.wrap (offset1_1+i9)) r3.1
   Zi (0<=t50/\t50<r3.2.2.2.1.length)<|
   (Zhd (r3.2.2.2.1.getD t50.toNat (0:Int))).bind fun t53=>
   Zi (s8_1.length+t53.1.length<=Zf9)<|
   Ziy N offset1_1 n2_1 r3 (s8_1++t53.1) (IntKind.i64.wrap (i9+1))
  else
   some (s8_1,true,())
def Zk0(r0:Xz)(offset1:Int)(n2:Int):Option (List UInt8×Bool×Unit):=(Zcp r0).bind fun t11=>bif((((!t11.1)|| (decide (offset1<r0.2.1)))|| (decide (n2< (0:Int))))|| (decide (offset1>r0.2.2.1)))|| (decide (n2>(IntKind.i64.wrap (r0.2.2.1-offset1))))then some (([]:List UInt8),false,()) else Ziy (Zlf offset1 n2 r0 ([]:List UInt8) (0:Int)) offset1 n2 r0 ([]:List UInt8) (0:Int)
abbrev Z79:List PE:=[.box 3 66 (Z0) (.u false),.box 6 107 (Y9) (.u false),.box 8 107 (Y9) (.u false),.box 9 200 (Zt) (.u false),.val 10 (.int .i64) (.u false)]
def Zha(s3:Zo)(t6:Z9)(p8:Z9)(r9:Zc)(high10:Int):Option (Z9×Bool×Unit):=bif decide (high10<=r9.1)then some (Zc2,false,()) else (Zk0 s3.2.1 r9.1 (IntKind.i64.wrap (high10-r9.1))).bind fun t70=>some ((r9.1,(t70.1,(p8.2.2.1&& (high10==s3.2.2.2.2.2.1),()))),true,())
def Zqw(s0:Zo)(most1:Int)(limit2:Int):Option (Z9×Bool×Unit):=
 (Xv s0).bind fun t14=>
 bif(!t14.1)|| (decide (s0.1>(2:Int)))then
  some (Zc2,false,())
 else
  bif decide ((s0.2.2.1.length:Int)>(0:Int))then
   Zi (0<=(0:Int)/\(0:Int)<s0.2.2.1.length)<|
   let t39:Int:=min (s0.2.2.1.getD (0:Int).toNat Zw).2.1 limit2
   bif decide (t39<=(s0.2.2.1.getD (0:Int).toNat Zw).1)then
    some (Zc2,false,())
   else
    bif decide (most1< (IntKind.i64.wrap (t39- (s0.2.2.1.getD (0:Int).toNat Zw).1)))then
     Zha s0 Zc2 (s0.2.2.2.2.2.1,(([]:List UInt8),(s0.2.2.2.2.2.2.1==1,()))) (s0.2.2.1.getD (0:Int).toNat Zw) (IntKind.i64.wrap ((s0.2.2.1.getD (0:Int).toNat Zw).1+ (max most1 (0:Int))))
    else
     Zha s0 Zc2 (s0.2.2.2.2.2.1,(([]:List UInt8),(s0.2.2.2.2.2.2.1==1,()))) (s0.2.2.1.getD (0:Int).toNat Zw) t39
  else
   bif !(s0.2.2.2.2.2.2.1==1)then
    some (Zc2,false,())
   else
    some ((s0.2.2.2.2.2.1,(([]:List UInt8),(s0.2.2.2.2.2.2.1==1,()))),true,())
def Zkd(id0:Int)(p1:Z9):Option (Zf×Unit):=some (((8:Int),(id0,(p1.1,(p1.2.1,(p1.2.2.1,((0:Int),((0:Int),((0:Int),(false,()))))))))),())
abbrev Qcj:List PE:=[.val 1 (.int .i64) (.u false),.val 2 (.int .i64) (.u false),.box 6 107 (Y9) (.u false),.box 8 75 (Zy) (.u true),.val 10 (.int .i64) (.u false),.val 11 (.int .i64) (.u false)]
def Zlg(id1_1:Int)(room2_1:Int)(t6:Z9)(s8:Zh)(limit10:Int)(n11:Int):Nat:=(n11-0).toNat+1
def Ze4:Nat->Int->Int->Z9->Zh->Int->Int->Option (Z9×Bool×Unit)|0,_,_,_,_,_,_=>none|N+1,id1_1,room2_1,t6,s8,limit10,n11=>bif decide (n11>(0:Int))then (Zqw s8.2.1 n11 limit10).bind fun t59=>bif !t59.2.1 then some (Zc2,false,()) else (Zkd id1_1 t59.1).bind fun t67=>(Zfp t67.1).bind fun t68=>bif decide (t68.1<=room2_1)then some (t59.1,true,()) else Ze4 N id1_1 room2_1 t6 s8 limit10 (IntKind.i64.wrap (n11-1)) else some (Zc2,false,())
def Zsc(c0:Ze)(id1:Int)(room2:Int):Option (Z9×Bool×Unit):=
 (Qw c0 id1).bind fun t17=>
 (Yy c0).bind fun t21=>
 bif(((!t21.1)|| (!t17.2.1))|| (!t17.1.2.2.2.2.2.2.1))|| (decide (room2< (3:Int)))then
  some (Zc2,false,())
 else
  (Zkb c0.2.2.2.2.1).bind fun t45=>
  let t47:Int:=min t17.1.2.2.1.1 (IntKind.i64.wrap (t17.1.2.1.2.2.2.2.2.2.2.1+t45.1))
  Ze4 (Zlg id1 room2 Zc2 t17.1 t47 (min room2 (60:Int))) id1 room2 Zc2 t17.1 t47 (min room2 (60:Int))
def Ze3(c0:Qr):Option (Qr×Unit):=(Yd c0).bind fun t4=>bif((t4.1&& (c0.2.1==c0.1))&& (c0.2.2.1==(-1:Int)))&& (c0.2.2.2.1 !=c0.1)then some ((c0.1,(c0.2.1,(c0.1,c0.2.2.2))),()) else some (c0,())
def Zsg(x0:Ze)(id1:Int):Option ((Unit)×(Ze×Unit)):=(Qw x0 id1).bind fun t11=>(Ze3 t11.1.2.2.1).bind fun t16=>(Ze3 x0.2.2.2.2.1).bind fun t23=>(Qv x0.2.2.2.1 (t11.1.1,(t11.1.2.1,(t16.1,t11.1.2.2.2)))).bind fun t32=>some ((),((x0.1,(x0.2.1,(x0.2.2.1,(t32.1,(t23.1,x0.2.2.2.2.2))))),()))
def Zni(s0:Zo)(p1:Z9):Option (Bool×Unit):=some ((((decide (p1.1>=(0:Int)))&& (decide (p1.1<=s0.2.1.2.2.1)))&& (decide ((p1.2.1.length:Int)<=(IntKind.i64.wrap (s0.2.1.2.2.1-p1.1)))))&& ((!p1.2.2.1)|| ((s0.2.2.2.2.2.1 !=(-1:Int))&& ((IntKind.i64.wrap (p1.1+ (p1.2.1.length:Int)))==s0.2.2.2.2.2.1))),())
def Zjz(p0:Z9):Option (Zc×Unit):=some ((p0.1,(IntKind.i64.wrap (p0.1+ (p0.2.1.length:Int)),())),())
abbrev Z0s:List PE:=[.val 0 (.slice 200 (Zt)) (.u false),.val 1 (.slice 200 (Zt)) (.u false),.val 5 (.slice 200 (Zt)) (.u true),.val 6 (.int .i64) (.u false),.val 7 (.int .i64) (.u false)]
def Zg8(K1: (List Zc×List Zc×List Zc×Int×Unit)->Option (List Zc×Unit))(K2: (List Zc×List Zc×List Zc×Int×Int×Unit)->Option (List Zc×Unit))(a0_3:List Zc)(b1_3:List Zc)(out5_2:List Zc)(i6_2:Int)(k7_1:Int):Option (List Zc×Unit):=K2 (a0_3,b1_3,out5_2,i6_2,IntKind.i64.wrap (k7_1+1),())
abbrev Z0t:List PE:=[.val 0 (.slice 200 (Zt)) (.u false),.val 1 (.slice 200 (Zt)) (.u false),.val 5 (.slice 200 (Zt)) (.u true),.val 6 (.int .i64) (.u false),.val 7 (.int .i64) (.u false),.box 8 200 (Zt) (.u false)]
def Zml(K1: (List Zc×List Zc×List Zc×Int×Unit)->Option (List Zc×Unit))(K2: (List Zc×List Zc×List Zc×Int×Int×Unit)->Option (List Zc×Unit))(a0_4:List Zc)(b1_4:List Zc)(out5_3:List Zc)(i6_3:Int)(k7_2:Int)(r8:Zc):Option (List Zc×Unit):=bif decide (r8.1<r8.2.1)then Zi (out5_3.length+ ([r8]).length<=Qg)<|Zg8 K1 K2 a0_4 b1_4 (out5_3++ ([r8])) i6_3 k7_2 else Zg8 K1 K2 a0_4 b1_4 out5_3 i6_3 k7_2
abbrev Z0v:List PE:=[.val 0 (.slice 200 (Zt)) (.u false),.val 1 (.slice 200 (Zt)) (.u false),.val 5 (.slice 200 (Zt)) (.u true),.val 6 (.int .i64) (.u false),.val 7 (.int .i64) (.u false)]
def Zav(a0_2:List Zc)(b1_2:List Zc)(out5_1:List Zc)(i6_1:Int)(k7:Int):Nat:=((b1_2.length:Int)-k7).toNat+1
def V6(K1: (List Zc×List Zc×List Zc×Int×Unit)->Option (List Zc×Unit)):Nat->List Zc->List Zc->List Zc->Int->Int->Option (List Zc×Unit)
 |0,_,_,_,_,_=>none
 |N+1,a0_2,b1_2,out5_1,i6_1,k7=>
  bif decide (k7< (b1_2.length:Int))then
   Zi (0<=i6_1/\i6_1<a0_2.length)<|
   Zi (0<=k7/\k7<b1_2.length)<|
   let t40:Int:=max (a0_2.getD i6_1.toNat Zw).1 (b1_2.getD k7.toNat Zw).1
   Zi (0<=i6_1/\i6_1<a0_2.length)<|
   Zi (0<=k7/\k7<b1_2.length)<|
   let t51:Int:=min (a0_2.getD i6_1.toNat Zw).2.1 (b1_2.getD k7.toNat Zw).2.1
   Q3 1 (
    Zml K1 (fun v=>V6 K1 N v.1 v.2.1 v.2.2.1 v.2.2.2.1 v.2.2.2.2.1) a0_2 b1_2 out5_1 i6_1 k7 (t40,(t51,()))
   )
  else
   K1 (a0_2,b1_2,out5_1,IntKind.i64.wrap (i6_1+1),())
abbrev Z0u:List PE:=[.val 0 (.slice 200 (Zt)) (.u false),.val 1 (.slice 200 (Zt)) (.u false),.val 5 (.slice 200 (Zt)) (.u true),.val 6 (.int .i64) (.u false)]
def Zau(a0_1:List Zc)(b1_1:List Zc)(out5:List Zc)(i6:Int):Nat:=((a0_1.length:Int)-i6).toNat+1
def Jq:Nat->List Zc->List Zc->List Zc->Int->Option (List Zc×Unit)
 |0,_,_,_,_=>none
 |N+1,a0_1,b1_1,out5,i6=>
  (bif(decide (i6< (a0_1.length:Int)))then(Y5 a0_1)else some (false,())).bind fun t16=>
  let t17:Bool:=(decide (i6< (a0_1.length:Int)))&&t16.1
  (bif t17 then(Y5 b1_1)else some (false,())).bind fun t20=>
  bif t17&&t20.1 then
   V6 (fun v=>Jq N v.1 v.2.1 v.2.2.1 v.2.2.2.1) (Zav a0_1 b1_1 out5 i6 (0:Int)) a0_1 b1_1 out5 i6 (0:Int)
  else
   some (out5,())
def Wu(a0:List Zc)(b1:List Zc):Option (List Zc×Unit):=Jq (Zau a0 b1 ([]:List Zc) (0:Int)) a0 b1 ([]:List Zc) (0:Int)
abbrev Z2t:List PE:=[.val 0 (.slice 200 (Zt)) (.u false),.box 3 200 (Zt) (.u false),.val 5 (.slice 200 (Zt)) (.u true),.val 6 (.int .i64) (.u false)]
def Zhz(K1: (List Zc×Zc×List Zc×Int×Unit)->Option (List Zc×Unit))(l0_2:List Zc)(r3_1:Zc)(out5_1:List Zc)(i6_1:Int):Option (List Zc×Unit):=K1 (l0_2,r3_1,out5_1,IntKind.i64.wrap (i6_1+1),())
abbrev Z2u:List PE:=[.val 0 (.slice 200 (Zt)) (.u false),.box 3 200 (Zt) (.u false),.val 5 (.slice 200 (Zt)) (.u true),.val 6 (.int .i64) (.u false)]
def Zea(K1: (List Zc×Zc×List Zc×Int×Unit)->Option (List Zc×Unit))(l0_3:List Zc)(r3_2:Zc)(out5_2:List Zc)(i6_2:Int):Option (List Zc×Unit):=
 Zi (0<=i6_2/\i6_2<l0_3.length)<|
 Zi (0<=i6_2/\i6_2<l0_3.length)<|
 bif decide ((max (l0_3.getD i6_2.toNat Zw).1 r3_2.2.1)< (l0_3.getD i6_2.toNat Zw).2.1)then
  Zi (0<=i6_2/\i6_2<l0_3.length)<|
  Zi (0<=i6_2/\i6_2<l0_3.length)<|
  let t84:List Zc:=[(max (l0_3.getD i6_2.toNat Zw).1 r3_2.2.1,((l0_3.getD i6_2.toNat Zw).2.1,()))]
  Zi (out5_2.length+t84.length<=Qg)<|
  Zhz K1 l0_3 r3_2 (out5_2++t84) i6_2
 else
  Zhz K1 l0_3 r3_2 out5_2 i6_2
abbrev Z2v:List PE:=[.val 0 (.slice 200 (Zt)) (.u false),.box 3 200 (Zt) (.u false),.val 5 (.slice 200 (Zt)) (.u true),.val 6 (.int .i64) (.u false)]
def Zcb(l0_1:List Zc)(r3:Zc)(out5:List Zc)(i6:Int):Nat:=((l0_1.length:Int)-i6).toNat+1
def Ky:Nat->List Zc->Zc->List Zc->Int->Option (List Zc×Unit)
 |0,_,_,_,_=>none
 |N+1,l0_1,r3,out5,i6=>
  bif decide (i6< (l0_1.length:Int))then
   Zi (0<=i6/\i6<l0_1.length)<|
   Zi (0<=i6/\i6<l0_1.length)<|
   bif decide ((l0_1.getD i6.toNat Zw).1< (min (l0_1.getD i6.toNat Zw).2.1 r3.1))then
    Zi (0<=i6/\i6<l0_1.length)<|
    Zi (0<=i6/\i6<l0_1.length)<|
    let t53:List Zc:=[((l0_1.getD i6.toNat Zw).1,(min (l0_1.getD i6.toNat Zw).2.1 r3.1,()))]
    Zi (out5.length+t53.length<=Qg)<|
    Zea (fun v=>Ky N v.1 v.2.1 v.2.2.1 v.2.2.2.1) l0_1 r3 (out5++t53) i6
   else
    Zea (fun v=>Ky N v.1 v.2.1 v.2.2.1 v.2.2.2.1) l0_1 r3 out5 i6
  else
   some (out5,())
def Ze5(l0:List Zc)(r1:Zc):Option (List Zc×Unit):=(Y5 l0).bind fun t8=>(bif(!t8.1)then some (false,())else(Zs5 r1)).bind fun t12=>bif(!t8.1)|| (!t12.1)then (Zhe l0).bind fun t16=>some (t16.1,()) else Ky (Zcb l0 r1 ([]:List Zc) (0:Int)) l0 r1 ([]:List Zc) (0:Int)
abbrev Z8e:List PE:=[.box 4 66 (Z0) (.u true),.box 6 66 (Z0) (.p (.u false) (.p (.u true) (.p (.u true) (.p (.u true) (.p (.u true) (.u false))))))]
def Zdp(t4_1:Zo)(x6_1:Zo):Option (Zo×Bool×Unit):=(J5 x6_1).bind fun t86=>some ((t86.1,x6_1.2),true,())
abbrev Z8d:List PE:=[.box 3 107 (Y9) (.u false),.box 4 66 (Z0) (.u true),.box 6 66 (Z0) (.p (.u false) (.p (.u true) (.p (.u true) (.p (.u true) (.p (.u true) (.u false))))))]
def W4(p3:Z9)(t4:Zo)(x6:Zo):Option (Zo×Bool×Unit):=bif p3.2.2.1 then Zdp t4 (x6.1,(x6.2.1,(x6.2.2.1,(x6.2.2.2.1,(x6.2.2.2.2.1,(x6.2.2.2.2.2.1,((2:Int),x6.2.2.2.2.2.2.2))))))) else Zdp t4 x6
def Ziz(s0:Zo)(p1:Z9):Option (Zo×Bool×Unit):=
 (Zc0 s0).bind fun t10=>
 (Xv s0).bind fun t12=>
 let t18:Bool:=(!t12.1)|| (decide (s0.1>(2:Int)))
 (bif t18 then some (false,())else(Zni s0 p1)).bind fun t22=>
 bif((t18|| (!t22.1))|| ((p1.2.1==([]:List UInt8))&& (!p1.2.2.1)))|| (p1.2.2.1&& (s0.2.2.2.2.2.2.1 !=1))then
  some (t10.1,false,())
 else
  bif !(p1.2.1==([]:List UInt8))then
   (Zjz p1).bind fun t49=>
   (Wu s0.2.2.1 ([t49.1])).bind fun t54=>
   Zi ((((t54.1.length:Int) !=(1:Int))=false->(0<=(0:Int)/\(0:Int)<t54.1.length)))<|
   bif((t54.1.length:Int) !=(1:Int))|| (!(eqV (Zt) (t54.1.getD (0:Int).toNat Zw) t49.1))then
    some (t10.1,false,())
   else
    (Ze5 s0.2.2.1 t49.1).bind fun t69=>
    (Vk s0.2.2.2.1 t49.1).bind fun t74=>
    W4 p1 We (t10.1.1,(t10.1.2.1,(t69.1,(t74.1,(t10.1.2.2.2.2.1,(t10.1.2.2.2.2.2.1,(t10.1.2.2.2.2.2.2.1,(max s0.2.2.2.2.2.2.2.1 t49.1.2.1,t10.1.2.2.2.2.2.2.2.2))))))))
  else
   W4 p1 We t10.1
def Zfz(c0:Qr)(n1:Int):Option (Qr×Bool×Unit):=(Yd c0).bind fun t7=>bif((!t7.1)|| (decide (n1< (0:Int))))|| (decide (n1>(IntKind.i64.wrap (c0.1-c0.2.1))))then some (c0,false,()) else some ((c0.1,(IntKind.i64.wrap (c0.2.1+n1),c0.2.2)),true,())
def Zmm(c0:Ze)(id1:Int)(p2:Z9):Option (Ze×Bool×Unit):=(Z6 c0).bind fun t19=>(Qw c0 id1).bind fun t23=>(Yy c0).bind fun t27=>bif((!t27.1)|| (!t23.2.1))|| (!t23.1.2.2.2.2.2.2.1)then some (t19.1,false,()) else (Ziz t23.1.2.1 p2).bind fun t43=>(Zfz t23.1.2.2.1 (IntKind.i64.wrap (t43.1.2.2.2.2.2.2.2.1-t23.1.2.1.2.2.2.2.2.2.2.1))).bind fun t56=>(Zfz c0.2.2.2.2.1 (IntKind.i64.wrap (t43.1.2.2.2.2.2.2.2.1-t23.1.2.1.2.2.2.2.2.2.2.1))).bind fun t63=>bif((!t43.2.1)|| (!t56.2.1))|| (!t63.2.1)then some (t19.1,false,()) else (Qv t19.1.2.2.2.1 (t23.1.1,(t43.1,(t56.1,t23.1.2.2.2)))).bind fun t88=>some ((t19.1.1,(t19.1.2.1,(t19.1.2.2.1,(t88.1,(t63.1,(t19.1.2.2.2.2.2.1,(t19.1.2.2.2.2.2.2.1,(t19.1.2.2.2.2.2.2.2.1,(t19.1.2.2.2.2.2.2.2.2.1,(t19.1.2.2.2.2.2.2.2.2.2.1,(t19.1.2.2.2.2.2.2.2.2.2.2.1,(t19.1.2.2.2.2.2.2.2.2.2.2.2.1,(t19.1.2.2.2.2.2.2.2.2.2.2.2.2.1,(id1,t19.1.2.2.2.2.2.2.2.2.2.2.2.2.2.2)))))))))))))),true,())
abbrev Qf8:List PE:=[.box 0 37 (Zq) (.u true),.val 1 (.slice 87 (Zu)) (.u true),.val 2 (.int .i64) (.u false),.val 7 (.slice 3 (.int .i64)) (.u true),.val 8 (.int .i64) (.u false)]
def Zkj(K1: (Ze×List Zf×Int×List Int×Int×Unit)->Option ((List Zf×Unit)×(Ze×Unit)))(x0_2:Ze)(frames1_2:List Zf)(room2_2:Int)(skip7_1:List Int)(i8_1:Int):Option ((List Zf×Unit)×(Ze×Unit)):=K1 (x0_2,frames1_2,room2_2,skip7_1,IntKind.i64.wrap (i8_1+1),())
abbrev Qf9:List PE:=[.box 0 37 (Zq) (.u true),.val 1 (.slice 87 (Zu)) (.u true),.val 2 (.int .i64) (.u false),.val 7 (.slice 3 (.int .i64)) (.u true),.val 8 (.int .i64) (.u false),.val 11 (.int .i64) (.u false),.box 12 107 (Y9) (.u false),.box 14 37 (Zq) (.u true),.val 15 (.bool) (.u false)]
def Kq(K1: (Ze×List Zf×Int×List Int×Int×Unit)->Option ((List Zf×Unit)×(Ze×Unit)))(x0_4:Ze)(frames1_4:List Zf)(room2_4:Int)(skip7_3:List Int)(i8_3:Int)(id11:Int)(p12:Z9)(y14:Ze)(fine15:Bool):Option ((List Zf×Unit)×(Ze×Unit)):=bif !fine15 then some ((frames1_4,()),(x0_4,())) else (Zkd id11 p12).bind fun t82=>Zi (frames1_4.length+ ([t82.1]).length<=Qg)<|(Zfp t82.1).bind fun t89=>Zkj K1 y14 (frames1_4++ ([t82.1])) (IntKind.i64.wrap (room2_4-t89.1)) skip7_3 i8_3
abbrev Qgb:List PE:=[.box 0 37 (Zq) (.u true),.val 1 (.slice 87 (Zu)) (.u true),.val 2 (.int .i64) (.u false),.val 7 (.slice 3 (.int .i64)) (.u true),.val 8 (.int .i64) (.u false),.val 9 (.slice 153 (Z7)) (.u true),.val 10 (.int .i64) (.u false)]
def Zmv(x0_3:Ze)(frames1_3:List Zf)(room2_3:Int)(skip7_2:List Int)(i8_2:Int)(l9:List Zk)(k10:Int):Nat:=((skip7_2.length:Int)-k10).toNat+1
def Zkk(K1: (Ze×List Zf×Int×List Int×Int×Unit)->Option ((List Zf×Unit)×(Ze×Unit))):Nat->Ze->List Zf->Int->List Int->Int->List Zk->Int->Option ((List Zf×Unit)×(Ze×Unit))|0,_,_,_,_,_,_,_=>none|N+1,x0_3,frames1_3,room2_3,skip7_2,i8_2,l9,k10=>bif decide (k10< (skip7_2.length:Int))then Zi (0<=k10/\k10<skip7_2.length)<|(Zgu l9 (skip7_2.getD k10.toNat (0:Int))).bind fun t37=>Zkk K1 N x0_3 frames1_3 room2_3 skip7_2 i8_2 t37.1 (IntKind.i64.wrap (k10+1)) else (Zoy l9 x0_3.2.2.2.2.2.2.2.2.2.2.2.2.2.1).bind fun t43=>bif decide (t43.1< (0:Int))then some ((frames1_3,()),(x0_3,())) else (Zsc x0_3 t43.1 room2_3).bind fun t53=>bif !t53.2.1 then (Zsg x0_3 t43.1).bind fun t60=>Zi (skip7_2.length+ ([t43.1]).length<=Qg)<|Zkj K1 t60.2.1 frames1_3 room2_3 (skip7_2++ ([t43.1])) i8_2 else Qf ((Zmm x0_3 t43.1 t53.1).bind fun t71=>Qf (Qf (Qf (Kq K1 x0_3 frames1_3 room2_3 skip7_2 i8_2 t43.1 t53.1 t71.1 t71.2.1) (Q3 1 (Kq K1 x0_3 frames1_3 room2_3 skip7_2 i8_2 t43.1 t53.1 t71.1 t71.2.1))) (Qf (Q3 1 (Kq K1 x0_3 frames1_3 room2_3 skip7_2 i8_2 t43.1 t53.1 t71.1 t71.2.1)) (Qf (Q3 1 (Kq K1 x0_3 frames1_3 room2_3 skip7_2 i8_2 t43.1 t53.1 t71.1 t71.2.1)) (Kq K1 x0_3 frames1_3 room2_3 skip7_2 i8_2 t43.1 t53.1 t71.1 t71.2.1)))) (Qf (Q3 1 (Kq K1 x0_3 frames1_3 room2_3 skip7_2 i8_2 t43.1 t53.1 t71.1 t71.2.1)) (Kq K1 x0_3 frames1_3 room2_3 skip7_2 i8_2 t43.1 t53.1 t71.1 t71.2.1))) ((Zmm x0_3 t43.1 t53.1).bind fun t71=>Qf (Q3 1 (Kq K1 x0_3 frames1_3 room2_3 skip7_2 i8_2 t43.1 t53.1 t71.1 t71.2.1)) (Kq K1 x0_3 frames1_3 room2_3 skip7_2 i8_2 t43.1 t53.1 t71.1 t71.2.1))
abbrev Qga:List PE:=[.box 0 37 (Zq) (.u true),.val 1 (.slice 87 (Zu)) (.u true),.val 2 (.int .i64) (.u false),.val 7 (.slice 3 (.int .i64)) (.u true),.val 8 (.int .i64) (.u false)]
def Zmu(x0_1:Ze)(frames1_1:List Zf)(room2_1:Int)(skip7:List Int)(i8:Int):Nat:=((200:Int)-i8).toNat+1+0*frames1_1.length
def Zdy:Nat->Ze->List Zf->Int->List Int->Int->Option ((List Zf×Unit)×(Ze×Unit))|0,_,_,_,_,_=>none|N+1,x0_1,frames1_1,room2_1,skip7,i8=>bif decide (i8< (200:Int))then (Zo2 x0_1).bind fun t25=>Zkk (fun v=>Zdy N v.1 v.2.1 v.2.2.1 v.2.2.2.1 v.2.2.2.2.1) (Zmv x0_1 frames1_1 room2_1 skip7 i8 t25.1 (0:Int)) x0_1 frames1_1 room2_1 skip7 i8 t25.1 (0:Int) else some ((frames1_1,()),(x0_1,()))
def Zug(x0:Ze)(frames1:List Zf)(room2:Int):Option ((List Zf×Unit)×(Ze×Unit)):=Zdy (Zmu x0 frames1 room2 ([]:List Int) (0:Int)) x0 frames1 room2 ([]:List Int) (0:Int)
abbrev Zzb:List PE:=[.val 0 (.slice 87 (Zu)) (.u false),.val 3 (.str) (.u false),.val 4 (.int .i64) (.u false)]
def Zfo(l0_1:List Zf)(s3_1:List UInt8)(i4:Int):Nat:=((l0_1.length:Int)-i4).toNat+1
def Za6:Nat->List Zf->List UInt8->Int->Option (List UInt8×Unit)|0,_,_,_=>none|N+1,l0_1,s3_1,i4=>bif decide (i4< (l0_1.length:Int))then Zi (0<=i4/\i4<l0_1.length)<|(Zbp (l0_1.getD i4.toNat Qq)).bind fun t16=>bif t16.1==([]:List UInt8)then some (([]:List UInt8),()) else Zi (s3_1.length+t16.1.length<=Zf9)<|Za6 N l0_1 (s3_1++t16.1) (IntKind.i64.wrap (i4+1)) else bif decide ((s3_1.length:Int)>(400:Int))then some (([]:List UInt8),()) else some (s3_1,())
def Zjo(l0:List Zf):Option (List UInt8×Unit):=Za6 (Zfo l0 ([]:List UInt8) (0:Int)) l0 ([]:List UInt8) (0:Int)
abbrev Z47:List PE:=[.box 2 37 (Zq) (.u false),.box 6 37 (Zq) (.u true),.box 7 37 (Zq) (.u true),.val 8 (.slice 87 (Zu)) (.u true),.val 9 (.int .i64) (.u false),.val 10 (.slice 87 (Zu)) (.u true),.val 11 (.int .i64) (.u false)]
def Zjn(K1: (Ze×Ze×Ze×List Zf×Int×List Zf×Int×Unit)->Option ((List UInt8×Int×Ze×Unit)×(Unit)))(c2_1:Ze)(t6_1:Ze)(x7_1:Ze)(frames8_1:List Zf)(room9_1:Int)(l10_1:List Zf)(i11_1:Int):Option ((List UInt8×Int×Ze×Unit)×(Unit)):=K1 (c2_1,t6_1,x7_1,frames8_1,room9_1,l10_1,IntKind.i64.wrap (i11_1+1),())
abbrev Z48:List PE:=[.box 2 37 (Zq) (.u false),.box 6 37 (Zq) (.u true),.box 7 37 (Zq) (.u true),.val 8 (.slice 87 (Zu)) (.u true),.val 9 (.int .i64) (.u false),.val 10 (.slice 87 (Zu)) (.u true),.val 11 (.int .i64) (.u false)]
def Zdj(c2:Ze)(t6:Ze)(x7:Ze)(frames8:List Zf)(room9:Int)(l10:List Zf)(i11:Int):Nat:=((l10.length:Int)-i11).toNat+1
def Yr:Nat->Ze->Ze->Ze->List Zf->Int->List Zf->Int->Option ((List UInt8×Int×Ze×Unit)×(Unit))|0,_,_,_,_,_,_,_=>none|N+1,c2,t6,x7,frames8,room9,l10,i11=>bif decide (i11< (l10.length:Int))then Zi (0<=i11/\i11<l10.length)<|(Zfp (l10.getD i11.toNat Qq)).bind fun t42=>bif decide (t42.1<=room9)then Zi (0<=i11/\i11<l10.length)<|(Zfp (l10.getD i11.toNat Qq)).bind fun t50=>Zi (0<=i11/\i11<l10.length)<|(Znb x7 (l10.getD i11.toNat Qq)).bind fun t57=>Zi (0<=i11/\i11<l10.length)<|Zi (frames8.length+ ([(l10.getD i11.toNat Qq)]).length<=Qg)<|Zjn (fun v=>Yr N v.1 v.2.1 v.2.2.1 v.2.2.2.1 v.2.2.2.2.1 v.2.2.2.2.2.1 v.2.2.2.2.2.2.1) c2 t6 t57.1 (frames8++ ([(l10.getD i11.toNat Qq)])) (IntKind.i64.wrap (room9-t50.1)) l10 i11 else Zjn (fun v=>Yr N v.1 v.2.1 v.2.2.1 v.2.2.2.1 v.2.2.2.2.1 v.2.2.2.2.2.1 v.2.2.2.2.2.2.1) c2 t6 x7 frames8 room9 l10 i11 else (Zug x7 frames8 room9).bind fun t67=>bif(t67.1.1.length:Int)==(0:Int)then some ((([]:List UInt8),((-1:Int),(t67.2.1,()))),()) else Zi (t67.2.1.2.2.2.2.2.2.2.2.2.2.2.2.2.2.2.1.length+ ([(c2.2.2.2.2.2.2.2.2.2.2.2.2.2.2.1,(t67.1.1,()))]).length<=Qg)<|(Zjo t67.1.1).bind fun t86=>some ((t86.1,(c2.2.2.2.2.2.2.2.2.2.2.2.2.2.2.1,((t67.2.1.1,(t67.2.1.2.1,(t67.2.1.2.2.1,(t67.2.1.2.2.2.1,(t67.2.1.2.2.2.2.1,(t67.2.1.2.2.2.2.2.1,(t67.2.1.2.2.2.2.2.2.1,(t67.2.1.2.2.2.2.2.2.2.1,(t67.2.1.2.2.2.2.2.2.2.2.1,(t67.2.1.2.2.2.2.2.2.2.2.2.1,(t67.2.1.2.2.2.2.2.2.2.2.2.2.1,(t67.2.1.2.2.2.2.2.2.2.2.2.2.2.1,(t67.2.1.2.2.2.2.2.2.2.2.2.2.2.2.1,(t67.2.1.2.2.2.2.2.2.2.2.2.2.2.2.2.1,(IntKind.i64.wrap (c2.2.2.2.2.2.2.2.2.2.2.2.2.2.2.1+1),(t67.2.1.2.2.2.2.2.2.2.2.2.2.2.2.2.2.2.1++ ([(c2.2.2.2.2.2.2.2.2.2.2.2.2.2.2.1,(t67.1.1,()))]),t67.2.1.2.2.2.2.2.2.2.2.2.2.2.2.2.2.2.2)))))))))))))))),()))),())
def Zak(c0:Ze)(budget1:Int):Option ((List UInt8×Int×Ze×Unit)×(Unit)):=(Z6 c0).bind fun t13=>(Ya c0).bind fun t15=>(bif(!t15.1)then some (false,())else(Z4 budget1 (1:Int) (400:Int))).bind fun t19=>bif((!t15.1)|| (!t19.1))|| (decide (c0.2.2.2.2.2.2.2.2.2.2.2.2.2.2.1>=(1000000:Int)))then some ((([]:List UInt8),((-1:Int),(t13.1,()))),()) else (Zbo c0).bind fun t31=>Yr (Zdj c0 Ji t13.1 ([]:List Zf) budget1 t31.1 (0:Int)) c0 Ji t13.1 ([]:List Zf) budget1 t31.1 (0:Int)
def Jt(c0:Qp)(list1:List Int):Option ((Int×Unit)×(Qp×Unit)):=(Qm c0 (list1.length:Int)).bind fun t9=>Zi (0<=t9.1.1/\t9.1.1<list1.length)<|some ((list1.getD t9.1.1.toNat (0:Int),()),(t9.2.1,()))
def Zjy(c0:Qp):Option ((Zf×Unit)×(Qp×Unit)):=(Jt c0 ([(4:Int),(5:Int),(8:Int),(8:Int),(8:Int),(8:Int),(16:Int),(17:Int),(18:Int),(20:Int),(21:Int),(22:Int)])).bind fun t6=>(Qm t6.2.1 (8:Int)).bind fun t9=>(Qm t9.2.1 (12:Int)).bind fun t12=>(Zpr t12.2.1 (6:Int)).bind fun t15=>(Zam t15.2.1 (4:Int)).bind fun t18=>(Qm t18.2.1 (5:Int)).bind fun t21=>(Qm t21.2.1 (40:Int)).bind fun t24=>(Qm t24.2.1 (14:Int)).bind fun t27=>(Zam t27.2.1 (2:Int)).bind fun t30=>Option.bind (Zes (t6.1.1,(t9.1.1,(t12.1.1,(t15.1.1,(t18.1.1,(t21.1.1,(t24.1.1,(t27.1.1,(t30.1.1,())))))))))) fun t33=>some ((t33.1,()),(t30.2.1,()))
def Zjp(id0:Int):Option (Int×Unit):=(Qi id0).bind fun t4=>bif !t4.1 then some ((-1:Int),()) else Zi (0<=(2:Int))<|some (id0.fdiv (2^ (min (2:Int).toNat IntKind.i64.bits)),())
def Zeq(a0:Qr)(index1:Int):Option (Qr×Int×Bool×Unit):=
 (J4 a0).bind fun t9=>
 bif((!t9.1)|| (decide (index1< (0:Int))))|| (decide (index1>=a0.2.1))then
  some (a0,(0:Int),false,())
 else
  let t27:Int:=max (0:Int) (IntKind.i64.wrap ((IntKind.i64.wrap (index1+1))-a0.2.2.1))
  some ((a0.1,(a0.2.1,(IntKind.i64.wrap (a0.2.2.1+t27),a0.2.2.2))),t27,true,())
abbrev Qf5:List PE:=[.box 0 37 (Zq) (.u true),.val 1 (.int .i64) (.u false),.val 6 (.int .i64) (.u false),.box 7 75 (Zy) (.u true)]
def Kp(K1: (Ze×Int×Int×Unit)->Option ((Unit)×(Ze×Unit)))(x0_2:Ze)(id1_2:Int)(i6_1:Int)(s7:Zh):Option ((Unit)×(Ze×Unit)):=(Qv x0_2.2.2.2.1 s7).bind fun t41=>K1 ((x0_2.1,(x0_2.2.1,(x0_2.2.2.1,(t41.1,x0_2.2.2.2.2)))),id1_2,IntKind.i64.wrap (i6_1-1),())
abbrev Qf6:List PE:=[.box 0 37 (Zq) (.u true),.val 1 (.int .i64) (.u false),.val 6 (.int .i64) (.u false)]
def Zms(x0_1:Ze)(id1_1:Int)(i6:Int):Nat:=(i6-0).toNat+2
def X5:Nat->Ze->Int->Int->Option ((Unit)×(Ze×Unit))
 |0,_,_,_=>none
 |N+1,x0_1,id1_1,i6=>
  bif decide (i6>=(0:Int))then
   let t23:Int:=IntKind.i64.wrap (id1_1- (IntKind.i64.wrap ((4:Int)*i6)))
   Qf (
    (Zcs x0_1.1 t23 x0_1.2.1 x0_1.2.2.1).bind fun t32=>
    Qf (
     Qf (
      Qf (
       Kp (fun v=>X5 N v.1 v.2.1 v.2.2.1) x0_1 id1_1 i6 t32.1
      ) (
       Q3 1 (
        Kp (fun v=>X5 N v.1 v.2.1 v.2.2.1) x0_1 id1_1 i6 t32.1
       )
      )
     ) (
     Qf (
      Q3 1 (
       Kp (fun v=>X5 N v.1 v.2.1 v.2.2.1) x0_1 id1_1 i6 t32.1
      )
     ) (
      Qf (
       Q3 1 (
        Kp (fun v=>X5 N v.1 v.2.1 v.2.2.1) x0_1 id1_1 i6 t32.1
       )
      ) (
       Kp (fun v=>X5 N v.1 v.2.1 v.2.2.1) x0_1 id1_1 i6 t32.1
      )
     )
     )
    ) (
     Qf (
      Q3 1 (
       Kp (fun v=>X5 N v.1 v.2.1 v.2.2.1) x0_1 id1_1 i6 t32.1
      )
     ) (
      Kp (fun v=>X5 N v.1 v.2.1 v.2.2.1) x0_1 id1_1 i6 t32.1
     )
    )
   ) (
    (Zcs x0_1.1 t23 x0_1.2.1 x0_1.2.2.1).bind fun t32=>
    Qf (
     Q3 1 (
      Kp (fun v=>X5 N v.1 v.2.1 v.2.2.1) x0_1 id1_1 i6 t32.1
     )
    ) (
     Kp (fun v=>X5 N v.1 v.2.1 v.2.2.1) x0_1 id1_1 i6 t32.1
    )
   )
  else
   some ((),(x0_1,()))
def Zuc(x0:Ze)(id1:Int)(n2:Int):Option ((Unit)×(Ze×Unit)):=X5 (Zms x0 id1 (IntKind.i64.wrap (n2-1))) x0 id1 (IntKind.i64.wrap (n2-1))
abbrev Z01:List PE:=[.val 1 (.int .i64) (.u false),.box 4 37 (Zq) (.u true),.box 6 37 (Zq) (.p (.u false) (.p (.u false) (.p (.u false) (.p (.u true) (.p (.u false) (.p (.u false) (.p (.u false) (.p (.u false) (.p (.u false) (.p (.u false) (.u true))))))))))),.val 9 (.int .i64) (.u false)]
def Zco(id1_3:Int)(t4_2:Ze)(x6_2:Ze)(n9_1:Int):Option (Ze×Int×Unit):=(Zuc x6_2 id1_3 n9_1).bind fun t70=>some (t70.2.1,(0:Int),())
abbrev Z00:List PE:=[.val 1 (.int .i64) (.u false),.box 2 37 (Zq) (.u false),.box 4 37 (Zq) (.u true),.box 6 37 (Zq) (.u true),.box 8 34 (Q5) (.u false),.val 9 (.int .i64) (.u false),.val 10 (.bool) (.u false)]
def Zs(id1_2:Int)(c2_1:Ze)(t4_1:Ze)(x6_1:Ze)(b8:Qr)(n9:Int)(is10:Bool):Option (Ze×Int×Unit):=bif((!is10)|| (n9==0))|| (decide ((IntKind.i64.wrap ((c2_1.2.2.2.1.length:Int)+n9))>24))then some (x6_1,(4:Int),()) else (Zca id1_2).bind fun t63=>bif t63.1 then Zco id1_2 t4_1 (x6_1.1,(x6_1.2.1,(x6_1.2.2.1,(x6_1.2.2.2.1,(x6_1.2.2.2.2.1,(x6_1.2.2.2.2.2.1,(x6_1.2.2.2.2.2.2.1,(x6_1.2.2.2.2.2.2.2.1,(x6_1.2.2.2.2.2.2.2.2.1,(b8,x6_1.2.2.2.2.2.2.2.2.2.2)))))))))) n9 else Zco id1_2 t4_1 (x6_1.1,(x6_1.2.1,(x6_1.2.2.1,(x6_1.2.2.2.1,(x6_1.2.2.2.2.1,(x6_1.2.2.2.2.2.1,(x6_1.2.2.2.2.2.2.1,(x6_1.2.2.2.2.2.2.2.1,(b8,x6_1.2.2.2.2.2.2.2.2.2))))))))) n9
abbrev Z0z:List PE:=[.val 1 (.int .i64) (.u false),.box 2 37 (Zq) (.u false),.box 4 37 (Zq) (.u true),.box 6 37 (Zq) (.u true),.box 7 34 (Q5) (.u false)]
def Zcn(id1_1:Int)(c2:Ze)(t4:Ze)(x6:Ze)(a7:Qr):Option (Ze×Int×Unit):=Qf ((Zjp id1_1).bind fun t42=>Qf ((Zeq a7 t42.1).bind fun t43=>Qf (Qf (Qf (Qf (Zs id1_1 c2 t4 x6 t43.1 t43.2.1 t43.2.2.1) (Q3 1 (Zs id1_1 c2 t4 x6 t43.1 t43.2.1 t43.2.2.1))) (Qf (Qf (Zs id1_1 c2 t4 x6 t43.1 t43.2.1 t43.2.2.1) (Q3 1 (Zs id1_1 c2 t4 x6 t43.1 t43.2.1 t43.2.2.1))) (Q3 2 (Q3 1 (Zs id1_1 c2 t4 x6 t43.1 t43.2.1 t43.2.2.1))))) (Qf (Qf (Qf (Zs id1_1 c2 t4 x6 t43.1 t43.2.1 t43.2.2.1) (Q3 1 (Zs id1_1 c2 t4 x6 t43.1 t43.2.1 t43.2.2.1))) (Qf (Q3 1 (Zs id1_1 c2 t4 x6 t43.1 t43.2.1 t43.2.2.1)) (Qf (Q3 1 (Zs id1_1 c2 t4 x6 t43.1 t43.2.1 t43.2.2.1)) (Zs id1_1 c2 t4 x6 t43.1 t43.2.1 t43.2.2.1)))) (Qf (Qf (Qf (Zs id1_1 c2 t4 x6 t43.1 t43.2.1 t43.2.2.1) (Q3 1 (Zs id1_1 c2 t4 x6 t43.1 t43.2.1 t43.2.2.1))) (Qf (Q3 1 (Zs id1_1 c2 t4 x6 t43.1 t43.2.1 t43.2.2.1)) (Qf (Q3 1 (Zs id1_1 c2 t4 x6 t43.1 t43.2.1 t43.2.2.1)) (Zs id1_1 c2 t4 x6 t43.1 t43.2.1 t43.2.2.1)))) (Qf (Q3 2 (Q3 1 (Zs id1_1 c2 t4 x6 t43.1 t43.2.1 t43.2.2.1))) (Qf (Qf (Q3 1 (Zs id1_1 c2 t4 x6 t43.1 t43.2.1 t43.2.2.1)) (Zs id1_1 c2 t4 x6 t43.1 t43.2.1 t43.2.2.1)) (Qf (Q3 1 (Zs id1_1 c2 t4 x6 t43.1 t43.2.1 t43.2.2.1)) (Zs id1_1 c2 t4 x6 t43.1 t43.2.1 t43.2.2.1))))))) (Qf (Q3 2 (Q3 1 (Zs id1_1 c2 t4 x6 t43.1 t43.2.1 t43.2.2.1))) (Qf (Qf (Q3 1 (Zs id1_1 c2 t4 x6 t43.1 t43.2.1 t43.2.2.1)) (Zs id1_1 c2 t4 x6 t43.1 t43.2.1 t43.2.2.1)) (Qf (Q3 1 (Zs id1_1 c2 t4 x6 t43.1 t43.2.1 t43.2.2.1)) (Zs id1_1 c2 t4 x6 t43.1 t43.2.1 t43.2.2.1))))) ((Zeq a7 t42.1).bind fun t43=>Qf (Q3 2 (Q3 1 (Zs id1_1 c2 t4 x6 t43.1 t43.2.1 t43.2.2.1))) (Qf (Qf (Q3 1 (Zs id1_1 c2 t4 x6 t43.1 t43.2.1 t43.2.2.1)) (Zs id1_1 c2 t4 x6 t43.1 t43.2.1 t43.2.2.1)) (Qf (Q3 1 (Zs id1_1 c2 t4 x6 t43.1 t43.2.1 t43.2.2.1)) (Zs id1_1 c2 t4 x6 t43.1 t43.2.1 t43.2.2.1))))) ((Zjp id1_1).bind fun t42=>(Zeq a7 t42.1).bind fun t43=>Qf (Q3 2 (Q3 1 (Zs id1_1 c2 t4 x6 t43.1 t43.2.1 t43.2.2.1))) (Qf (Qf (Q3 1 (Zs id1_1 c2 t4 x6 t43.1 t43.2.1 t43.2.2.1)) (Zs id1_1 c2 t4 x6 t43.1 t43.2.1 t43.2.2.1)) (Qf (Q3 1 (Zs id1_1 c2 t4 x6 t43.1 t43.2.1 t43.2.2.1)) (Zs id1_1 c2 t4 x6 t43.1 t43.2.1 t43.2.2.1))))
def Ww(c0:Ze)(id1:Int):Option (Ze×Int×Unit):=(Z6 c0).bind fun t12=>(Yy c0).bind fun t14=>(bif(!t14.1)then some (false,())else(Qi id1)).bind fun t18=>bif(!t14.1)|| (!t18.1)then some (t12.1,(7:Int),()) else (Ko c0.2.2.2.1 id1).bind fun t25=>bif decide (t25.1>=(0:Int))then some (t12.1,(0:Int),()) else (Zjq c0.1 id1).bind fun t31=>bif t31.1 then some (t12.1,(5:Int),()) else (Zca id1).bind fun t36=>bif t36.1 then Zcn id1 c0 Ji t12.1 c0.2.2.2.2.2.2.2.2.2.1 else Zcn id1 c0 Ji t12.1 c0.2.2.2.2.2.2.2.2.1
def Zq4(r0:Qe)(end1:Int)(final2:Bool):Option (Int×Unit):=bif((r0.2.2.1 !=(-1:Int))&& ((decide (end1>r0.2.2.1))|| (final2&& (end1 !=r0.2.2.1))))|| (final2&& (decide (end1<r0.2.2.2.1)))then some ((6:Int),()) else some ((0:Int),())
abbrev Z0r:List PE:=[.box 1 69 (Xw) (.u false),.val 3 (.slice 200 (Zt)) (.u true),.val 4 (.int .i64) (.u false)]
def Zat(b1:Z3)(out3:List Zc)(i4:Int):Nat:=((b1.2.1.length:Int)-i4).toNat+1
def Kc:Nat->Z3->List Zc->Int->Option (List Zc×Unit)
 |0,_,_,_=>none
 |N+1,b1,out3,i4=>
  (bif(decide (i4< (b1.2.1.length:Int)))then(Zep b1)else some (false,())).bind fun t13=>
  bif(decide (i4< (b1.2.1.length:Int)))&&t13.1 then
   Zi (0<=i4/\i4<b1.2.1.length)<|
   Zi (0<=i4/\i4<b1.2.1.length)<|
   Zi (0<=i4/\i4<b1.2.1.length)<|
   let t39:List Zc:=[((b1.2.1.getD i4.toNat Yb).1,(IntKind.i64.wrap ((b1.2.1.getD i4.toNat Yb).1+ ((b1.2.1.getD i4.toNat Yb).2.1.length:Int)),()))]
   Zi (out3.length+t39.length<=Qg)<|
   Kc N b1 (out3++t39) (IntKind.i64.wrap (i4+1))
  else
   some (out3,())
def Zls(b0:Z3):Option (List Zc×Unit):=Kc (Zat b0 ([]:List Zc) (0:Int)) b0 ([]:List Zc) (0:Int)
abbrev Qjx:List PE:=[.val 1 (.int .i64) (.u false),.box 2 69 (Xw) (.u false),.val 5 (.int .i64) (.u false)]
def Znr(offset1_1:Int)(b2:Z3)(i5:Int):Nat:=((b2.2.1.length:Int)-i5).toNat+1
def Zis:Nat->Int->Z3->Int->Option (Int×Unit)
 |0,_,_,_=>none
 |N+1,offset1_1,b2,i5=>
  bif decide (i5< (b2.2.1.length:Int))then
   Zi (0<=i5/\i5<b2.2.1.length)<|
   let t21:Int:=IntKind.i64.wrap (offset1_1- (b2.2.1.getD i5.toNat Yb).1)
   Zi (((decide (offset1_1>=(0:Int)))=true->(0<=i5/\i5<b2.2.1.length)))<|
   let t36:Bool:=((decide (offset1_1>=(0:Int)))&& (decide ((b2.2.1.getD i5.toNat Yb).1>=(0:Int))))&& (decide (t21>=(0:Int)))
   Zi ((t36=true->(0<=i5/\i5<b2.2.1.length)))<|
   bif t36&& (decide (t21< ((b2.2.1.getD i5.toNat Yb).2.1.length:Int)))then
    Zi (0<=i5/\i5<b2.2.1.length)<|
    Zi (0<=t21/\t21< (b2.2.1.getD i5.toNat Yb).2.1.length)<|
    some (IntKind.i64.wrap (((b2.2.1.getD i5.toNat Yb).2.1.getD t21.toNat 0).toNat:Int),())
   else
    Zis N offset1_1 b2 (IntKind.i64.wrap (i5+1))
  else
   some ((-1:Int),())
def Zwu(b0:Z3)(offset1:Int):Option (Int×Unit):=Zis (Znr offset1 b0 (0:Int)) offset1 b0 (0:Int)
abbrev Z5d:List PE:=[.val 1 (.int .i64) (.u false),.val 2 (.str) (.u false),.box 3 69 (Xw) (.u false),.box 6 69 (Xw) (.u true),.box 9 69 (Xw) (.p (.u false) (.u true)),.val 10 (.slice 200 (Zt)) (.u true),.val 11 (.int .i64) (.u false),.val 12 (.str) (.u false),.val 13 (.int .i64) (.u false),.val 14 (.int .i64) (.u false)]
def Zfr(K1: (Int×List UInt8×Z3×Z3×Z3×List Zc×Int×Unit)->Option (Z3×Unit))(K2: (Int×List UInt8×Z3×Z3×Z3×List Zc×Int×List UInt8×Int×Unit)->Option (Z3×Unit))(offset1_3:Int)(data2_3:List UInt8)(b3_2:Z3)(t6_2:Z3)(x9_2:Z3)(l10_2:List Zc)(i11_2:Int)(s12_2:List UInt8)(at13_1:Int)(v14:Int):Option (Z3×Unit):=(Zhd v14).bind fun t90=>Zi (s12_2.length+t90.1.length<=Zf9)<|K2 (offset1_3,data2_3,b3_2,t6_2,x9_2,l10_2,i11_2,s12_2++t90.1,IntKind.i64.wrap (at13_1+1),())
abbrev Z5f:List PE:=[.val 1 (.int .i64) (.u false),.val 2 (.str) (.u false),.box 3 69 (Xw) (.u false),.box 6 69 (Xw) (.u true),.box 9 69 (Xw) (.p (.u false) (.u true)),.val 10 (.slice 200 (Zt)) (.u true),.val 11 (.int .i64) (.u false),.val 12 (.str) (.u false),.val 13 (.int .i64) (.u false)]
def Zdm(offset1_2:Int)(data2_2:List UInt8)(b3_1:Z3)(t6_1:Z3)(x9_1:Z3)(l10_1:List Zc)(i11_1:Int)(s12_1:List UInt8)(at13:Int):Nat:=((l10_1.getD i11_1.toNat Zw).2.1-at13).toNat+1
def Jr(K1: (Int×List UInt8×Z3×Z3×Z3×List Zc×Int×Unit)->Option (Z3×Unit)):Nat->Int->List UInt8->Z3->Z3->Z3->List Zc->Int->List UInt8->Int->Option (Z3×Unit)
 |0,_,_,_,_,_,_,_,_,_=>none
 |N+1,offset1_2,data2_2,b3_1,t6_1,x9_1,l10_1,i11_1,s12_1,at13=>
  Zi (0<=i11_1/\i11_1<l10_1.length)<|
  bif decide (at13< (l10_1.getD i11_1.toNat Zw).2.1)then
   (Zwu b3_1 at13).bind fun t79=>
   bif decide (t79.1< (0:Int))then
    Zi (0<=(IntKind.i64.wrap (at13-offset1_2))/\(IntKind.i64.wrap (at13-offset1_2))<data2_2.length)<|
    Zfr K1 (fun v=>Jr K1 N v.1 v.2.1 v.2.2.1 v.2.2.2.1 v.2.2.2.2.1 v.2.2.2.2.2.1 v.2.2.2.2.2.2.1 v.2.2.2.2.2.2.2.1 v.2.2.2.2.2.2.2.2.1) offset1_2 data2_2 b3_1 t6_1 x9_1 l10_1 i11_1 s12_1 at13 (IntKind.i64.wrap ((data2_2.getD (IntKind.i64.wrap (at13-offset1_2)).toNat 0).toNat:Int))
   else
    Zfr K1 (fun v=>Jr K1 N v.1 v.2.1 v.2.2.1 v.2.2.2.1 v.2.2.2.2.1 v.2.2.2.2.2.1 v.2.2.2.2.2.2.1 v.2.2.2.2.2.2.2.1 v.2.2.2.2.2.2.2.2.1) offset1_2 data2_2 b3_1 t6_1 x9_1 l10_1 i11_1 s12_1 at13 t79.1
  else
   Zi (0<=i11_1/\i11_1<l10_1.length)<|
   let t101:List Vg:=[((l10_1.getD i11_1.toNat Zw).1,(s12_1,()))]
   Zi (x9_1.2.1.length+t101.length<=Qg)<|
   K1 (offset1_2,data2_2,b3_1,t6_1,(x9_1.1,(x9_1.2.1++t101,x9_1.2.2)),l10_1,IntKind.i64.wrap (i11_1+1),())
abbrev Z5e:List PE:=[.val 1 (.int .i64) (.u false),.val 2 (.str) (.u false),.box 3 69 (Xw) (.u false),.box 6 69 (Xw) (.u true),.box 9 69 (Xw) (.p (.u false) (.u true)),.val 10 (.slice 200 (Zt)) (.u true),.val 11 (.int .i64) (.u false)]
def Zdl(offset1_1:Int)(data2_1:List UInt8)(b3:Z3)(t6:Z3)(x9:Z3)(l10:List Zc)(i11:Int):Nat:=((l10.length:Int)-i11).toNat+1
def Zbq:Nat->Int->List UInt8->Z3->Z3->Z3->List Zc->Int->Option (Z3×Unit)|0,_,_,_,_,_,_,_=>none|N+1,offset1_1,data2_1,b3,t6,x9,l10,i11=>bif decide (i11< (l10.length:Int))then Zi (0<=i11/\i11<l10.length)<|Jr (fun v=>Zbq N v.1 v.2.1 v.2.2.1 v.2.2.2.1 v.2.2.2.2.1 v.2.2.2.2.2.1 v.2.2.2.2.2.2.1) (Zdm offset1_1 data2_1 b3 t6 x9 l10 i11 ([]:List UInt8) (l10.getD i11.toNat Zw).1) offset1_1 data2_1 b3 t6 x9 l10 i11 ([]:List UInt8) (l10.getD i11.toNat Zw).1 else some (x9,())
def Zot(b0:Z3)(offset1:Int)(data2:List UInt8):Option (Z3×Unit):=
 (Zep b0).bind fun t16=>
 bif(((!t16.1)|| (data2==([]:List UInt8)))|| (decide (offset1< (0:Int))))|| (decide (offset1>(IntKind.i64.wrap ((4611686018427387903:Int)- (data2.length:Int)))))then
  (Zjc b0).bind fun t34=>
  some (t34.1,())
 else
  let t42:Int:=IntKind.i64.wrap (offset1+ (data2.length:Int))
  bif decide ((max offset1 b0.1)>=t42)then
   (Zjc b0).bind fun t47=>
   some (t47.1,())
  else
   (Zls b0).bind fun t52=>
   (Vk t52.1 (max offset1 b0.1,(t42,()))).bind fun t56=>
   Zbq (Zdl offset1 data2 b0 ((0:Int),(([]:List Vg),())) (b0.1,(([]:List Vg),())) t56.1 (0:Int)) offset1 data2 b0 ((0:Int),(([]:List Vg),())) (b0.1,(([]:List Vg),())) t56.1 (0:Int)
abbrev Z2s:List PE:=[.box 8 71 (Q2) (.u true),.box 10 71 (Q2) (.p (.u false) (.p (.u true) (.u false)))]
def Zhy(t8_1:Qe)(x10_1:Qe):Option (Qe×Int×Unit):=some (x10_1,(0:Int),())
abbrev Z2r:List PE:=[.val 1 (.int .i64) (.u false),.val 2 (.str) (.u false),.box 4 71 (Q2) (.u false),.box 8 71 (Q2) (.u true),.box 10 71 (Q2) (.p (.u false) (.p (.u true) (.u false)))]
def Zd9(offset1_1:Int)(data2_1:List UInt8)(r4:Qe)(t8:Qe)(x10:Qe):Option (Qe×Int×Unit):=(Zot r4.2.1 offset1_1 data2_1).bind fun t60=>(bif(x10.2.2.1 !=(-1:Int))then(Zal t60.1)else some ((0:Int),())).bind fun t71=>bif(x10.2.2.1 !=(-1:Int))&& ((IntKind.i64.wrap (t60.1.1+t71.1))==x10.2.2.1)then Zhy t8 ((2:Int),(t60.1,x10.2.2)) else Zhy t8 (x10.1,(t60.1,x10.2.2))
def Znd(r0:Qe)(offset1:Int)(data2:List UInt8)(fin3:Bool):Option (Qe×Int×Unit):=
 (Zmx r0).bind fun t14=>
 (X4 r0).bind fun t16=>
 bif((!t16.1)|| (decide (offset1< (0:Int))))|| (decide (offset1>(IntKind.i64.wrap ((4611686018427387903:Int)- (data2.length:Int)))))then
  some (t14.1,(7:Int),())
 else
  let t33:Int:=IntKind.i64.wrap (offset1+ (data2.length:Int))
  (Zq4 r0 t33 fin3).bind fun t37=>
  bif(t37.1 !=0)|| (decide (r0.1>(1:Int)))then
   some (t14.1,t37.1,())
  else
   bif fin3 then
    Zd9 offset1 data2 r0 Z6m ((1:Int),(t14.1.2.1,(t33,(max r0.2.2.2.1 t33,t14.1.2.2.2.2))))
   else
    Zd9 offset1 data2 r0 Z6m (t14.1.1,(t14.1.2.1,(t14.1.2.2.1,(max r0.2.2.2.1 t33,t14.1.2.2.2.2))))
def Zsb(r0:Qe)(end1:Int):Option (Int×Unit):=(X4 r0).bind fun t6=>(bif(!t6.1)then some (false,())else(Qi end1)).bind fun t10=>bif(!t6.1)|| (!t10.1)then some ((0:Int),()) else some (max (0:Int) (IntKind.i64.wrap (end1-r0.2.2.2.1)),())
def Zhm(w0:Qt)(n1:Int):Option (Qt×Bool×Unit):=(Vl w0).bind fun t7=>bif((!t7.1)|| (decide (n1< (0:Int))))|| (decide (n1>(IntKind.i64.wrap (w0.2.2.1-w0.2.2.2.1))))then some (w0,false,()) else some ((w0.1,(w0.2.1,(w0.2.2.1,(IntKind.i64.wrap (w0.2.2.2.1+n1),w0.2.2.2.2)))),true,())
def Zq1(x0:Ze)(s1:Zh)(end2:Int):Option ((Int×Unit)×(Ze×Zh×Unit)):=(Zsb s1.2.2.2.1 end2).bind fun t17=>bif t17.1==0 then some (((0:Int),()),(x0,(s1,()))) else (Zhm s1.2.2.2.2.1 t17.1).bind fun t26=>(Zhm x0.2.2.2.2.2.1 t17.1).bind fun t35=>bif(!t26.2.1)|| (!t35.2.1)then some (((3:Int),()),(x0,(s1,()))) else some (((0:Int),()),((x0.1,(x0.2.1,(x0.2.2.1,(x0.2.2.2.1,(x0.2.2.2.2.1,(t35.1,x0.2.2.2.2.2.2)))))),((s1.1,(s1.2.1,(s1.2.2.1,(s1.2.2.2.1,(t26.1,s1.2.2.2.2.2))))),())))
def Zor(c0:Ze)(f1:Zf):Option ((Ze×Int×Unit)×(Unit)):=(Yy c0).bind fun t13=>(bif(!t13.1)then some (false,())else(Zb8 f1)).bind fun t17=>bif((!t13.1)|| (!t17.1))|| (f1.1 !=8)then (Z6 c0).bind fun t26=>some ((t26.1,((7:Int),())),()) else (Vb c0.1 f1.2.1).bind fun t31=>bif !t31.1 then (Z6 c0).bind fun t34=>some ((t34.1,((5:Int),())),()) else (Ww c0 f1.2.1).bind fun t39=>bif t39.2.1 !=0 then (Z6 c0).bind fun t45=>some ((t45.1,(t39.2.1,())),()) else (Qw t39.1 f1.2.1).bind fun t51=>(Znd t51.1.2.2.2.1 f1.2.2.1 f1.2.2.2.1 f1.2.2.2.2.1).bind fun t63=>(Zq1 t39.1 t51.1 (IntKind.i64.wrap (f1.2.2.1+ (f1.2.2.2.1.length:Int)))).bind fun t72=>bif t72.1.1 !=0 then (Z6 c0).bind fun t76=>some ((t76.1,(t72.1.1,())),()) else bif t63.2.1 !=0 then (Z6 c0).bind fun t81=>some ((t81.1,(t63.2.1,())),()) else (Zek t72.2.1 (t72.2.2.1.1,(t72.2.2.1.2.1,(t72.2.2.1.2.2.1,(t63.1,t72.2.2.1.2.2.2.2))))).bind fun t86=>some ((t86.2.1,((0:Int),())),())
def Zlw(r0:Qe)(code1:Int)(final2:Int):Option (Qe×Int×Unit):=(Zmx r0).bind fun t11=>(X4 r0).bind fun t13=>(bif(!t13.1)then some (false,())else(Qi code1)).bind fun t17=>(bif((!t13.1)|| (!t17.1))then some (false,())else(Qi final2)).bind fun t22=>bif((!t13.1)|| (!t17.1))|| (!t22.1)then some (t11.1,(7:Int),()) else (Zq4 r0 final2 true).bind fun t28=>bif(t28.1 !=0)|| (decide (r0.1>(1:Int)))then some (t11.1,t28.1,()) else some (((4:Int),((r0.2.1.1,(([]:List Vg),())),(final2,(final2,(code1,()))))),(0:Int),())
abbrev Z2p:List PE:=[.box 4 37 (Zq) (.u true),.box 6 37 (Zq) (.u false),.box 8 75 (Zy) (.u false),.box 10 71 (Q2) (.u true)]
def Zd8(t4:Ze)(x6:Ze)(s8:Zh)(r10:Qe):Option ((Ze×Int×Unit)×(Unit)):=(Zek x6 (s8.1,(s8.2.1,(s8.2.2.1,(r10,s8.2.2.2.2))))).bind fun t92=>some ((t92.2.1,((0:Int),())),())
def Zna(c0:Ze)(f1:Zf):Option ((Ze×Int×Unit)×(Unit)):=(Yy c0).bind fun t13=>(bif(!t13.1)then some (false,())else(Zb8 f1)).bind fun t17=>bif((!t13.1)|| (!t17.1))|| (f1.1 !=4)then (Z6 c0).bind fun t26=>some ((t26.1,((7:Int),())),()) else (Vb c0.1 f1.2.1).bind fun t31=>bif !t31.1 then (Z6 c0).bind fun t34=>some ((t34.1,((5:Int),())),()) else (Ww c0 f1.2.1).bind fun t39=>bif t39.2.1 !=0 then (Z6 c0).bind fun t45=>some ((t45.1,(t39.2.1,())),()) else (Qw t39.1 f1.2.1).bind fun t51=>(Zlw t51.1.2.2.2.1 f1.2.2.2.2.2.1 f1.2.2.2.2.2.2.2.1).bind fun t61=>(Zq1 t39.1 t51.1 f1.2.2.2.2.2.2.2.1).bind fun t66=>bif t66.1.1 !=0 then (Z6 c0).bind fun t70=>some ((t70.1,(t66.1.1,())),()) else bif t61.2.1 !=0 then (Z6 c0).bind fun t75=>some ((t75.1,(t61.2.1,())),()) else bif(t61.1.1==4)&& (t66.2.2.1.2.2.2.1.1 !=4)then (Zq2 t66.2.1 t66.2.2.1 f1.2.2.2.2.2.2.2.1).bind fun t88=>Zd8 Ji t88.2.1 t88.2.2.1 t61.1 else Zd8 Ji t66.2.1 t66.2.2.1 t61.1
abbrev Z5c:List PE:=[.box 4 37 (Zq) (.u true),.box 6 37 (Zq) (.u true),.box 8 75 (Zy) (.p (.u false) (.p (.u true) (.p (.u false) (.p (.u true) (.u false)))))]
def Zfq(t4:Ze)(x6:Ze)(s8:Zh):Option ((Ze×Int×Unit)×(Unit)):=(Zek x6 s8).bind fun t67=>some ((t67.2.1,((0:Int),())),())
def Zos(c0:Ze)(f1:Zf):Option ((Ze×Int×Unit)×(Unit)):=(Yy c0).bind fun t13=>(bif(!t13.1)then some (false,())else(Zb8 f1)).bind fun t17=>bif((!t13.1)|| (!t17.1))|| (f1.1 !=5)then (Z6 c0).bind fun t26=>some ((t26.1,((7:Int),())),()) else (Zfm c0.1 f1.2.1).bind fun t31=>bif !t31.1 then (Z6 c0).bind fun t34=>some ((t34.1,((5:Int),())),()) else (Ww c0 f1.2.1).bind fun t39=>bif t39.2.1 !=0 then (Z6 c0).bind fun t45=>some ((t45.1,(t39.2.1,())),()) else (Qw t39.1 f1.2.1).bind fun t51=>(Zbx t51.1.2.1 f1.2.2.2.2.2.1).bind fun t59=>bif t59.2.1 then Zfq Ji t39.1 (t51.1.1,(t59.1,(t51.1.2.2.1,(t51.1.2.2.2.1,(t51.1.2.2.2.2.1,(t51.1.2.2.2.2.2.1,(t51.1.2.2.2.2.2.2.1,(t51.1.2.2.2.2.2.2.2.1,(true,t51.1.2.2.2.2.2.2.2.2.2))))))))) else Zfq Ji t39.1 t51.1
def Zdx(c0:Qr)(limit1:Int):Option (Qr×Unit):=(Yd c0).bind fun t6=>(bif(!t6.1)then some (false,())else(Qi limit1)).bind fun t10=>bif((!t6.1)|| (!t10.1))|| (decide (limit1<=c0.1))then some (c0,()) else some ((limit1,(c0.2.1,((-1:Int),c0.2.2.2))),())
def Zdw(c0:Ze8)(limit1:Int):Option (Ze8×Unit):=(Zb7 c0).bind fun t6=>bif((!t6.1)|| (decide (limit1<=c0.1)))|| (decide (limit1>(1152921504606846976:Int)))then some (c0,()) else some ((limit1,(c0.2.1,((-1:Int),c0.2.2.2))),())
abbrev Qco:List PE:=[.box 4 37 (Zq) (.u true),.box 7 37 (Zq) (.p (.u false) (.p (.u false) (.p (.u false) (.u true))))]
def Znh(t4_1:Ze)(x7:Ze):Option (Ze×Int×Unit):=some (x7,(0:Int),())
abbrev Qcn:List PE:=[.box 2 37 (Zq) (.u false),.box 3 87 (Zu) (.u false),.box 4 37 (Zq) (.u true),.val 6 (.bool) (.u false)]
def Zi3(c2:Ze)(f3:Zf)(t4:Ze)(fine6:Bool):Option (Ze×Int×Unit):=bif !fine6 then (Z6 c2).bind fun t27=>some (t27.1,(5:Int),()) else (Ww c2 f3.2.1).bind fun t32=>bif t32.2.1 !=0 then (Z6 c2).bind fun t38=>some (t38.1,t32.2.1,()) else bif f3.1==17 then (Qw t32.1 f3.2.1).bind fun t47=>(Zdx t47.1.2.2.1 f3.2.2.2.2.2.2.1).bind fun t54=>(Qv t32.1.2.2.2.1 (t47.1.1,(t47.1.2.1,(t54.1,t47.1.2.2.2)))).bind fun t59=>Znh t4 (t32.1.1,(t32.1.2.1,(t32.1.2.2.1,(t59.1,t32.1.2.2.2.2)))) else Znh t4 t32.1
def Zsf(c0:Ze)(f1:Zf):Option (Ze×Int×Unit):=(Zfm c0.1 f1.2.1).bind fun t15=>bif f1.1==21 then (Vb c0.1 f1.2.1).bind fun t23=>Zi3 c0 f1 Ji t23.1 else Zi3 c0 f1 Ji t15.1
abbrev Z2m:List PE:=[.box 4 37 (Zq) (.u true),.box 6 37 (Zq) (.p (.u false) (.p (.u false) (.p (.u false) (.p (.u true) (.p (.u false) (.p (.u false) (.p (.u false) (.p (.u false) (.u true)))))))))]
def Zhw(t4:Ze)(x6:Ze):Option (Ze×Int×Unit):=some (x6,(0:Int),())
abbrev Z2o:List PE:=[.box 2 37 (Zq) (.u false),.box 3 87 (Zu) (.u false),.box 4 37 (Zq) (.u true),.box 6 37 (Zq) (.u true),.val 52 (.bool) (.u false)]
def Zd7(c2_1:Ze)(f3_1:Zf)(t4_2:Ze)(x6_2:Ze)(t52:Bool):Option (Ze×Int×Unit):=bif t52 then (Zsf c2_1 f3_1).bind fun t58=>some (t58.1,t58.2.1,()) else some (x6_2,(7:Int),())
abbrev Z2n:List PE:=[.box 2 37 (Zq) (.u false),.box 3 87 (Zu) (.u false),.box 4 37 (Zq) (.u true),.box 6 37 (Zq) (.u true),.val 21 (.int .i64) (.u false),.val 48 (.bool) (.u false)]
def Zd6(c2:Ze)(f3:Zf)(t4_1:Ze)(x6_1:Ze)(t21:Int)(t48:Bool):Option (Ze×Int×Unit):=bif t48 then some (x6_1,(0:Int),()) else bif t21==17 then Zd7 c2 f3 t4_1 x6_1 (t21==17) else Zd7 c2 f3 t4_1 x6_1 (t21==21)
def Zm9(c0:Ze)(f1:Zf):Option (Ze×Int×Unit):=(Z6 c0).bind fun t10=>(Yy c0).bind fun t12=>(bif(!t12.1)then some (false,())else(Zb8 f1)).bind fun t16=>bif(!t12.1)|| (!t16.1)then some (t10.1,(7:Int),()) else bif f1.1==16 then (Zdx c0.2.2.2.2.1 f1.2.2.2.2.2.2.1).bind fun t28=>some ((t10.1.1,(t10.1.2.1,(t10.1.2.2.1,(t10.1.2.2.2.1,(t28.1,t10.1.2.2.2.2.2))))),(0:Int),()) else bif f1.1==18 then bif f1.2.2.2.2.2.2.2.2.1 then (Zdw c0.2.2.2.2.2.2.2.1 f1.2.2.2.2.2.2.1).bind fun t39=>Zhw Ji (t10.1.1,(t10.1.2.1,(t10.1.2.2.1,(t10.1.2.2.2.1,(t10.1.2.2.2.2.1,(t10.1.2.2.2.2.2.1,(t10.1.2.2.2.2.2.2.1,(t39.1,t10.1.2.2.2.2.2.2.2.2)))))))) else (Zdw c0.2.2.2.2.2.2.1 f1.2.2.2.2.2.2.1).bind fun t45=>Zhw Ji (t10.1.1,(t10.1.2.1,(t10.1.2.2.1,(t10.1.2.2.2.1,(t10.1.2.2.2.2.1,(t10.1.2.2.2.2.2.1,(t45.1,t10.1.2.2.2.2.2.2.2))))))) else bif f1.1==20 then Zd6 c0 f1 Ji t10.1 f1.1 (f1.1==20) else Zd6 c0 f1 Ji t10.1 f1.1 (f1.1==22)
abbrev Z2l:List PE:=[.box 4 37 (Zq) (.u true),.box 6 37 (Zq) (.p (.u true) (.p (.p (.u true) (.p (.u true) (.p (.u true) (.p (.u true) (.p (.u true) (.p (.u true) (.p (.u true) (.p (.u true) (.u true))))))))) (.p (.p (.u true) (.p (.u true) (.p (.u true) (.p (.u true) (.p (.u true) (.p (.u true) (.p (.u true) (.p (.u true) (.u true))))))))) (.p (.u false) (.p (.p (.u true) (.p (.u true) (.p (.u true) (.p (.u true) (.u true))))) (.p (.p (.u true) (.p (.u true) (.p (.u true) (.p (.u true) (.p (.u true) (.p (.u true) (.u true))))))) (.p (.p (.u true) (.p (.u true) (.p (.u true) (.u true)))) (.p (.p (.u true) (.p (.u true) (.p (.u true) (.u true)))) (.p (.p (.u true) (.p (.u true) (.p (.u true) (.p (.u true) (.u true))))) (.p (.p (.u true) (.p (.u true) (.p (.u true) (.p (.u true) (.u true))))) (.p (.u true) (.p (.u true) (.p (.u true) (.p (.u true) (.p (.u true) (.p (.u false) (.p (.u true) (.p (.u true) (.u true))))))))))))))))))),.val 7 (.int .i64) (.u false)]
def Zad(t4:Ze)(x6:Ze)(e7:Int):Option ((Ze×Int×Unit)×(Unit)):=some ((x6,(e7,())),())
def Zm8(c0:Ze)(f1:Zf):Option ((Ze×Int×Unit)×(Unit)):=(Z6 c0).bind fun t9=>bif f1.1==8 then (Zor c0 f1).bind fun t23=>Zad Ji t23.1.1 t23.1.2.1 else bif f1.1==4 then (Zna c0 f1).bind fun t31=>Zad Ji t31.1.1 t31.1.2.1 else bif f1.1==5 then (Zos c0 f1).bind fun t39=>Zad Ji t39.1.1 t39.1.2.1 else (Zm9 c0 f1).bind fun t15=>Zad Ji t15.1 t15.2.1
abbrev Qch:List PE:=[.val 1 (.int .i64) (.u false),.box 2 37 (Zq) (.u false),.box 4 59 (Yx) (.u true),.val 6 (.int .i64) (.u false)]
def Zf7(number1_1:Int)(c2:Ze)(t4:Z8)(i6:Int):Nat:=((c2.2.2.2.2.2.2.2.2.2.2.2.2.2.2.2.1.length:Int)-i6).toNat+1
def Zbw:Nat->Int->Ze->Z8->Int->Option (Z8×Bool×Unit)|0,_,_,_,_=>none|N+1,number1_1,c2,t4,i6=>bif decide (i6< (c2.2.2.2.2.2.2.2.2.2.2.2.2.2.2.2.1.length:Int))then Zi (0<=i6/\i6<c2.2.2.2.2.2.2.2.2.2.2.2.2.2.2.2.1.length)<|bif(c2.2.2.2.2.2.2.2.2.2.2.2.2.2.2.2.1.getD i6.toNat Qj).1==number1_1 then Zi (0<=i6/\i6<c2.2.2.2.2.2.2.2.2.2.2.2.2.2.2.2.1.length)<|Zi (([]:List Zf).length+ (c2.2.2.2.2.2.2.2.2.2.2.2.2.2.2.2.1.getD i6.toNat Qj).2.1.length<=Qg)<|some ((number1_1,(([]:List Zf)++ (c2.2.2.2.2.2.2.2.2.2.2.2.2.2.2.2.1.getD i6.toNat Qj).2.1,())),true,()) else Zbw N number1_1 c2 t4 (IntKind.i64.wrap (i6+1)) else some (((0:Int),(([]:List Zf),())),false,())
def Wi(c0:Ze)(number1:Int):Option (Z8×Bool×Unit):=Zbw (Zf7 number1 c0 ((0:Int),(([]:List Zf),())) (0:Int)) number1 c0 ((0:Int),(([]:List Zf),())) (0:Int)
abbrev Qgf:List PE:=[.box 0 37 (Zq) (.u false),.val 1 (.int .i64) (.u false),.val 4 (.slice 59 (Yx)) (.p (.u true) (.u false)),.val 5 (.int .i64) (.u false)]
def Zko(K1: (Ze×Int×List Z8×Int×Unit)->Option ((Unit)×(Ze×Unit)))(x0_2:Ze)(number1_2:Int)(out4_1:List Z8)(i5_1:Int):Option ((Unit)×(Ze×Unit)):=K1 (x0_2,number1_2,out4_1,IntKind.i64.wrap (i5_1+1),())
abbrev Qgg:List PE:=[.box 0 37 (Zq) (.u false),.val 1 (.int .i64) (.u false),.val 4 (.slice 59 (Yx)) (.p (.u true) (.u false)),.val 5 (.int .i64) (.u false)]
def Zmw(x0_1:Ze)(number1_1:Int)(out4:List Z8)(i5:Int):Nat:=((x0_1.2.2.2.2.2.2.2.2.2.2.2.2.2.2.2.1.length:Int)-i5).toNat+1
def Zdz:Nat->Ze->Int->List Z8->Int->Option ((Unit)×(Ze×Unit))|0,_,_,_,_=>none|N+1,x0_1,number1_1,out4,i5=>bif decide (i5< (x0_1.2.2.2.2.2.2.2.2.2.2.2.2.2.2.2.1.length:Int))then Zi (0<=i5/\i5<x0_1.2.2.2.2.2.2.2.2.2.2.2.2.2.2.2.1.length)<|bif(x0_1.2.2.2.2.2.2.2.2.2.2.2.2.2.2.2.1.getD i5.toNat Qj).1 !=number1_1 then Zi (0<=i5/\i5<x0_1.2.2.2.2.2.2.2.2.2.2.2.2.2.2.2.1.length)<|Zi (out4.length+ ([(x0_1.2.2.2.2.2.2.2.2.2.2.2.2.2.2.2.1.getD i5.toNat Qj)]).length<=Qg)<|Zko (fun v=>Zdz N v.1 v.2.1 v.2.2.1 v.2.2.2.1) x0_1 number1_1 (out4++ ([(x0_1.2.2.2.2.2.2.2.2.2.2.2.2.2.2.2.1.getD i5.toNat Qj)])) i5 else Zko (fun v=>Zdz N v.1 v.2.1 v.2.2.1 v.2.2.2.1) x0_1 number1_1 out4 i5 else some ((),((x0_1.1,(x0_1.2.1,(x0_1.2.2.1,(x0_1.2.2.2.1,(x0_1.2.2.2.2.1,(x0_1.2.2.2.2.2.1,(x0_1.2.2.2.2.2.2.1,(x0_1.2.2.2.2.2.2.2.1,(x0_1.2.2.2.2.2.2.2.2.1,(x0_1.2.2.2.2.2.2.2.2.2.1,(x0_1.2.2.2.2.2.2.2.2.2.2.1,(x0_1.2.2.2.2.2.2.2.2.2.2.2.1,(x0_1.2.2.2.2.2.2.2.2.2.2.2.2.1,(x0_1.2.2.2.2.2.2.2.2.2.2.2.2.2.1,(x0_1.2.2.2.2.2.2.2.2.2.2.2.2.2.2.1,(out4,x0_1.2.2.2.2.2.2.2.2.2.2.2.2.2.2.2.2)))))))))))))))),()))
def Zq3(x0:Ze)(number1:Int):Option ((Unit)×(Ze×Unit)):=Zdz (Zmw x0 number1 ([]:List Z8) (0:Int)) x0 number1 ([]:List Z8) (0:Int)
def Zxk(f0:Zf):Option (Z9×Unit):=some ((f0.2.2.1,(f0.2.2.2.1,(f0.2.2.2.2.1,()))),())
abbrev Z77:List PE:=[.box 4 66 (Z0) (.u true),.box 5 66 (Z0) (.p (.u false) (.p (.u true) (.p (.u true) (.p (.u true) (.p (.u true) (.u false))))))]
def Wz(t4_1:Zo)(x5_1:Zo):Option (Zo×Unit):=(J5 x5_1).bind fun t65=>some ((t65.1,x5_1.2),())
abbrev Z76:List PE:=[.box 2 66 (Z0) (.u false),.box 3 107 (Y9) (.u false),.box 4 66 (Z0) (.u true),.box 5 66 (Z0) (.u true)]
def Wy(s2:Zo)(p3:Z9)(t4:Zo)(x5:Zo):Option (Zo×Unit):=bif p3.2.2.1&& (s2.2.2.2.2.2.2.1==2)then Wz t4 (x5.1,(x5.2.1,(x5.2.2.1,(x5.2.2.2.1,(x5.2.2.2.2.1,(x5.2.2.2.2.2.1,((1:Int),x5.2.2.2.2.2.2.2))))))) else Wz t4 x5
abbrev Z78:List PE:=[.box 2 66 (Z0) (.u false),.box 3 107 (Y9) (.u false),.box 4 66 (Z0) (.u true),.box 5 66 (Z0) (.u true),.val 6 (.slice 200 (Zt)) (.u true),.val 7 (.int .i64) (.u false)]
def Zjs(s2_1:Zo)(p3_1:Z9)(t4_2:Zo)(x5_2:Zo)(c6:List Zc)(i7:Int):Nat:=((c6.length:Int)-i7).toNat+1
def W1:Nat->Zo->Z9->Zo->Zo->List Zc->Int->Option (Zo×Unit)|0,_,_,_,_,_,_=>none|N+1,s2_1,p3_1,t4_2,x5_2,c6,i7=>bif decide (i7< (c6.length:Int))then Zi (0<=i7/\i7<c6.length)<|(Ze5 x5_2.2.2.2.1 (c6.getD i7.toNat Zw)).bind fun t46=>Zi (0<=i7/\i7<c6.length)<|(Vk x5_2.2.2.1 (c6.getD i7.toNat Zw)).bind fun t54=>W1 N s2_1 p3_1 t4_2 (x5_2.1,(x5_2.2.1,(t54.1,(t46.1,x5_2.2.2.2.2)))) c6 (IntKind.i64.wrap (i7+1)) else Wy s2_1 p3_1 t4_2 x5_2
def Ziw(s0:Zo)(p1:Z9):Option (Zo×Unit):=
 (Zc0 s0).bind fun t9=>
 (Xv s0).bind fun t11=>
 let t17:Bool:=(!t11.1)|| (decide (s0.1>(2:Int)))
 (bif t17 then some (false,())else(Zni s0 p1)).bind fun t21=>
 bif t17|| (!t21.1)then
  some (t9.1,())
 else
  bif !(p1.2.1==([]:List UInt8))then
   (Zjz p1).bind fun t31=>
   (Wu s0.2.2.2.1 ([t31.1])).bind fun t33=>
   W1 (Zjs s0 p1 We t9.1 t33.1 (0:Int)) s0 p1 We t9.1 t33.1 (0:Int)
  else
   Wy s0 p1 We t9.1
abbrev Qgi:List PE:=[.box 0 37 (Zq) (.u false),.box 4 75 (Zy) (.p (.u false) (.p (.u true) (.p (.u false) (.p (.u true) (.u false)))))]
def Zan(x0_2:Ze)(s4_1:Zh):Option ((Unit)×(Ze×Unit)):=(Qv x0_2.2.2.2.1 s4_1).bind fun t72=>some ((),((x0_2.1,(x0_2.2.1,(x0_2.2.2.1,(t72.1,x0_2.2.2.2.2)))),()))
abbrev Qgh:List PE:=[.box 0 37 (Zq) (.u false),.box 3 87 (Zu) (.u false),.box 4 75 (Zy) (.u true),.val 5 (.bool) (.u false)]
def Kr(x0_1:Ze)(f3:Zf)(s4:Zh)(is5:Bool):Option ((Unit)×(Ze×Unit)):=(bif(!is5)then some (false,())else(Vu f3)).bind fun t36=>bif(!is5)|| (!t36.1)then some ((),(x0_1,())) else bif f3.1==8 then (Zxk f3).bind fun t46=>(Ziw s4.2.1 t46.1).bind fun t47=>Zan x0_1 (s4.1,(t47.1,s4.2.2)) else bif f3.1==4 then Zan x0_1 (s4.1,(s4.2.1,(s4.2.2.1,(s4.2.2.2.1,(s4.2.2.2.2.1,(s4.2.2.2.2.2.1,(s4.2.2.2.2.2.2.1,(s4.2.2.2.2.2.2.2.1,(s4.2.1.1==4,s4.2.2.2.2.2.2.2.2.2))))))))) else bif f3.1==5 then Zan x0_1 (s4.1,(s4.2.1,(s4.2.2.1,(s4.2.2.2.1,(s4.2.2.2.2.1,(s4.2.2.2.2.2.1,(s4.2.2.2.2.2.2.1,(s4.2.2.2.2.2.2.2.1,(s4.2.2.2.2.2.2.2.2.1,(decide (s4.2.2.2.1.1< (2:Int)),s4.2.2.2.2.2.2.2.2.2.2)))))))))) else bif f3.1==17 then Zan x0_1 (s4.1,(s4.2.1,(s4.2.2.1,(s4.2.2.2.1,(s4.2.2.2.2.1,(s4.2.2.2.2.2.1,(s4.2.2.2.2.2.2.1,(s4.2.2.2.2.2.2.2.1,(s4.2.2.2.2.2.2.2.2.1,(s4.2.2.2.2.2.2.2.2.2.1,(true,s4.2.2.2.2.2.2.2.2.2.2.2))))))))))) else Zan x0_1 s4
def Zui(x0:Ze)(f1:Zf):Option ((Unit)×(Ze×Unit)):=bif f1.1==16 then some ((),((x0.1,(x0.2.1,(x0.2.2.1,(x0.2.2.2.1,(x0.2.2.2.2.1,(x0.2.2.2.2.2.1,(x0.2.2.2.2.2.2.1,(x0.2.2.2.2.2.2.2.1,(x0.2.2.2.2.2.2.2.2.1,(x0.2.2.2.2.2.2.2.2.2.1,(true,x0.2.2.2.2.2.2.2.2.2.2.2))))))))))),())) else bif f1.1==18 then bif f1.2.2.2.2.2.2.2.2.1 then some ((),((x0.1,(x0.2.1,(x0.2.2.1,(x0.2.2.2.1,(x0.2.2.2.2.1,(x0.2.2.2.2.2.1,(x0.2.2.2.2.2.2.1,(x0.2.2.2.2.2.2.2.1,(x0.2.2.2.2.2.2.2.2.1,(x0.2.2.2.2.2.2.2.2.2.1,(x0.2.2.2.2.2.2.2.2.2.2.1,(x0.2.2.2.2.2.2.2.2.2.2.2.1,(true,x0.2.2.2.2.2.2.2.2.2.2.2.2.2))))))))))))),())) else some ((),((x0.1,(x0.2.1,(x0.2.2.1,(x0.2.2.2.1,(x0.2.2.2.2.1,(x0.2.2.2.2.2.1,(x0.2.2.2.2.2.2.1,(x0.2.2.2.2.2.2.2.1,(x0.2.2.2.2.2.2.2.2.1,(x0.2.2.2.2.2.2.2.2.2.1,(x0.2.2.2.2.2.2.2.2.2.2.1,(true,x0.2.2.2.2.2.2.2.2.2.2.2.2)))))))))))),())) else Qf ((Qw x0 f1.2.1).bind fun t29=>Qf (Qf (Qf (Kr x0 f1 t29.1 t29.2.1) (Q3 1 (Kr x0 f1 t29.1 t29.2.1))) (Qf (Q3 1 (Kr x0 f1 t29.1 t29.2.1)) (Qf (Q3 1 (Kr x0 f1 t29.1 t29.2.1)) (Kr x0 f1 t29.1 t29.2.1)))) (Qf (Q3 1 (Kr x0 f1 t29.1 t29.2.1)) (Kr x0 f1 t29.1 t29.2.1))) ((Qw x0 f1.2.1).bind fun t29=>Qf (Q3 1 (Kr x0 f1 t29.1 t29.2.1)) (Kr x0 f1 t29.1 t29.2.1))
abbrev Z5h:List PE:=[.box 4 37 (Zq) (.u true),.box 6 37 (Zq) (.u false),.box 7 59 (Yx) (.u true),.val 9 (.int .i64) (.u false)]
def Ziv(t4:Ze)(x6:Ze)(p7:Z8)(i9:Int):Nat:=((p7.2.1.length:Int)-i9).toNat+1
def Zfu:Nat->Ze->Ze->Z8->Int->Option ((Ze×Bool×Unit)×(Unit))|0,_,_,_,_=>none|N+1,t4,x6,p7,i9=>bif decide (i9< (p7.2.1.length:Int))then Zi (0<=i9/\i9<p7.2.1.length)<|(Zui x6 (p7.2.1.getD i9.toNat Qq)).bind fun t40=>Zfu N t4 t40.2.1 p7 (IntKind.i64.wrap (i9+1)) else some ((x6,(true,())),())
def Zow(c0:Ze)(number1:Int):Option ((Ze×Bool×Unit)×(Unit)):=(Z6 c0).bind fun t11=>(Wi c0 number1).bind fun t15=>(Ya c0).bind fun t19=>bif(!t19.1)|| (!t15.2.1)then some ((t11.1,(false,())),()) else (Zq3 t11.1 number1).bind fun t27=>Zfu (Ziv Ji t27.2.1 t15.1 (0:Int)) Ji t27.2.1 t15.1 (0:Int)
abbrev Qb8:List PE:=[.val 1 (.int .i64) (.u false),.box 2 63 (W8) (.u false),.box 4 63 (W8) (.u true),.box 6 63 (W8) (.u true),.val 7 (.int .i64) (.u false)]
def Zf5(to1_1:Int)(r2:Xz)(t4:Xz)(x6:Xz)(at7:Int):Nat:=(to1_1-at7).toNat+1
def Zit:Nat->Int->Xz->Xz->Xz->Int->Option (Xz×Bool×Unit)|0,_,_,_,_,_=>none|N+1,to1_1,r2,t4,x6,at7=>bif decide (at7<to1_1)then Zi (r2.1≠0)<|Zi (0<=(Int.tmod at7 r2.1)/\(Int.tmod at7 r2.1)<x6.2.2.2.1.length)<|Zit N to1_1 r2 t4 (x6.1,(x6.2.1,(x6.2.2.1,(x6.2.2.2.1.set (Int.tmod at7 r2.1).toNat (0:Int),x6.2.2.2.2)))) (IntKind.i64.wrap (at7+1)) else some ((x6.1,(to1_1,x6.2.2)),true,())
def Zkw(r0:Xz)(to1:Int):Option (Xz×Bool×Unit):=(Zps r0).bind fun t9=>(Zcp r0).bind fun t11=>bif((!t11.1)|| (decide (to1<r0.2.1)))|| (decide (to1>r0.2.2.1))then some (t9.1,false,()) else Zit (Zf5 to1 r0 Qz5 t9.1 r0.2.1) to1 r0 Qz5 t9.1 r0.2.1
abbrev Qb3:List PE:=[.box 4 66 (Z0) (.u true),.box 5 66 (Z0) (.p (.u false) (.p (.u true) (.p (.u true) (.p (.u true) (.p (.u true) (.u false)))))),.box 8 63 (W8) (.u true)]
def Xl(t4_2:Zo)(x5_2:Zo)(r8:Xz):Option (Zo×Unit):=(J5 (x5_2.1,(r8,x5_2.2.2))).bind fun t78=>some ((t78.1,(r8,x5_2.2.2)),())
abbrev Qb2:List PE:=[.box 2 66 (Z0) (.u false),.box 4 66 (Z0) (.u true),.box 5 66 (Z0) (.p (.u false) (.p (.u true) (.p (.u true) (.p (.u true) (.p (.u true) (.u false))))))]
def Zbm(s2_1:Zo)(t4_1:Zo)(x5_1:Zo):Option (Zo×Unit):=Qf ((Zhl x5_1.2.2.2.2.1 (0:Int)).bind fun t71=>Qf ((Zkw s2_1.2.1 t71.1).bind fun t72=>Qf (Qf (Qf (Xl t4_1 x5_1 t72.1) (Q3 1 (Xl t4_1 x5_1 t72.1))) (Qf (Q3 1 (Xl t4_1 x5_1 t72.1)) (Qf (Q3 1 (Xl t4_1 x5_1 t72.1)) (Xl t4_1 x5_1 t72.1)))) (Qf (Q3 1 (Xl t4_1 x5_1 t72.1)) (Xl t4_1 x5_1 t72.1))) ((Zkw s2_1.2.1 t71.1).bind fun t72=>Qf (Q3 1 (Xl t4_1 x5_1 t72.1)) (Xl t4_1 x5_1 t72.1))) ((Zhl x5_1.2.2.2.2.1 (0:Int)).bind fun t71=>(Zkw s2_1.2.1 t71.1).bind fun t72=>Qf (Q3 1 (Xl t4_1 x5_1 t72.1)) (Xl t4_1 x5_1 t72.1))
abbrev Qb1:List PE:=[.box 2 66 (Z0) (.u false),.box 3 107 (Y9) (.u false),.box 4 66 (Z0) (.u true),.box 5 66 (Z0) (.u true)]
def Zbl(s2:Zo)(p3:Z9)(t4:Zo)(x5:Zo):Option (Zo×Unit):=bif p3.2.2.1&& (s2.2.2.2.2.2.2.1==2)then Zbm s2 t4 (x5.1,(x5.2.1,(x5.2.2.1,(x5.2.2.2.1,(x5.2.2.2.2.1,(x5.2.2.2.2.2.1,((3:Int),x5.2.2.2.2.2.2.2))))))) else Zbm s2 t4 x5
abbrev Qb4:List PE:=[.box 2 66 (Z0) (.u false),.box 3 107 (Y9) (.u false),.box 4 66 (Z0) (.u true),.box 5 66 (Z0) (.u true),.val 6 (.slice 200 (Zt)) (.u true),.val 7 (.int .i64) (.u false)]
def Zlc(s2_2:Zo)(p3_1:Z9)(t4_3:Zo)(x5_3:Zo)(c6:List Zc)(i7:Int):Nat:=((c6.length:Int)-i7).toNat+1
def Zbn:Nat->Zo->Z9->Zo->Zo->List Zc->Int->Option (Zo×Unit)|0,_,_,_,_,_,_=>none|N+1,s2_2,p3_1,t4_3,x5_3,c6,i7=>bif decide (i7< (c6.length:Int))then Zi (0<=i7/\i7<c6.length)<|(Ze5 x5_3.2.2.2.1 (c6.getD i7.toNat Zw)).bind fun t48=>Zi (0<=i7/\i7<c6.length)<|(Vk x5_3.2.2.2.2.1 (c6.getD i7.toNat Zw)).bind fun t56=>Zbn N s2_2 p3_1 t4_3 (x5_3.1,(x5_3.2.1,(x5_3.2.2.1,(t48.1,(t56.1,x5_3.2.2.2.2.2))))) c6 (IntKind.i64.wrap (i7+1)) else Zbl s2_2 p3_1 t4_3 x5_3
def Zku(s0:Zo)(p1:Z9):Option (Zo×Unit):=
 (Zc0 s0).bind fun t11=>
 (Xv s0).bind fun t13=>
 let t19:Bool:=(!t13.1)|| (decide (s0.1>(2:Int)))
 (bif t19 then some (false,())else(Zni s0 p1)).bind fun t23=>
 bif t19|| (!t23.1)then
  some (t11.1,())
 else
  bif !(p1.2.1==([]:List UInt8))then
   (Zjz p1).bind fun t33=>
   (Wu s0.2.2.2.1 ([t33.1])).bind fun t35=>
   Zbn (Zlc s0 p1 We t11.1 t35.1 (0:Int)) s0 p1 We t11.1 t35.1 (0:Int)
  else
   Zbl s0 p1 We t11.1
def Zkv(s0:Zo):Option (Zo×Bool×Unit):=(Zc0 s0).bind fun t6=>(Xv s0).bind fun t8=>bif(!t8.1)|| (s0.1 !=4)then some (t6.1,false,()) else some (((5:Int),t6.1.2),true,())
abbrev Qj4:List PE:=[.box 0 37 (Zq) (.u false),.box 4 75 (Zy) (.p (.u false) (.p (.u true) (.p (.u false) (.p (.u true) (.u false)))))]
def Zcx(x0_2:Ze)(s4_1:Zh):Option ((Unit)×(Ze×Unit)):=(Zek x0_2 s4_1).bind fun t51=>some ((),(t51.2.1,()))
abbrev Qj3:List PE:=[.box 0 37 (Zq) (.u false),.box 3 87 (Zu) (.u false),.box 4 75 (Zy) (.u true),.val 5 (.bool) (.u false)]
def Ju(x0_1:Ze)(f3:Zf)(s4:Zh)(is5:Bool):Option ((Unit)×(Ze×Unit)):=(bif(!is5)then some (false,())else(Vu f3)).bind fun t21=>bif(!is5)|| (!t21.1)then some ((),(x0_1,())) else bif f3.1==8 then (Zxk f3).bind fun t31=>(Zku s4.2.1 t31.1).bind fun t32=>Zcx x0_1 (s4.1,(t32.1,s4.2.2)) else bif f3.1==4 then (Zkv s4.2.1).bind fun t39=>bif t39.2.1 then Zcx x0_1 (s4.1,(t39.1,(s4.2.2.1,(s4.2.2.2.1,(s4.2.2.2.2.1,(s4.2.2.2.2.2.1,(s4.2.2.2.2.2.2.1,(s4.2.2.2.2.2.2.2.1,(false,s4.2.2.2.2.2.2.2.2.2))))))))) else Zcx x0_1 (s4.1,(t39.1,s4.2.2)) else bif f3.1==5 then Zcx x0_1 (s4.1,(s4.2.1,(s4.2.2.1,(s4.2.2.2.1,(s4.2.2.2.2.1,(s4.2.2.2.2.2.1,(s4.2.2.2.2.2.2.1,(s4.2.2.2.2.2.2.2.1,(s4.2.2.2.2.2.2.2.2.1,(false,s4.2.2.2.2.2.2.2.2.2.2)))))))))) else Zcx x0_1 s4
def Zwx(x0:Ze)(f1:Zf):Option ((Unit)×(Ze×Unit)):=Qf ((Qw x0 f1.2.1).bind fun t14=>Qf (Qf (Qf (Ju x0 f1 t14.1 t14.2.1) (Q3 1 (Ju x0 f1 t14.1 t14.2.1))) (Qf (Q3 1 (Ju x0 f1 t14.1 t14.2.1)) (Qf (Q3 1 (Ju x0 f1 t14.1 t14.2.1)) (Ju x0 f1 t14.1 t14.2.1)))) (Qf (Q3 1 (Ju x0 f1 t14.1 t14.2.1)) (Ju x0 f1 t14.1 t14.2.1))) ((Qw x0 f1.2.1).bind fun t14=>Qf (Q3 1 (Ju x0 f1 t14.1 t14.2.1)) (Ju x0 f1 t14.1 t14.2.1))
abbrev Z75:List PE:=[.box 4 37 (Zq) (.u true),.box 6 37 (Zq) (.u false),.box 7 59 (Yx) (.u true),.val 9 (.int .i64) (.u false)]
def Zjl(t4:Ze)(x6:Ze)(p7:Z8)(i9:Int):Nat:=((p7.2.1.length:Int)-i9).toNat+1
def Zg7:Nat->Ze->Ze->Z8->Int->Option ((Ze×Bool×Unit)×(Unit))|0,_,_,_,_=>none|N+1,t4,x6,p7,i9=>bif decide (i9< (p7.2.1.length:Int))then Zi (0<=i9/\i9<p7.2.1.length)<|(Zwx x6 (p7.2.1.getD i9.toNat Qq)).bind fun t40=>Zg7 N t4 t40.2.1 p7 (IntKind.i64.wrap (i9+1)) else some ((x6,(true,())),())
def Zqv(c0:Ze)(number1:Int):Option ((Ze×Bool×Unit)×(Unit)):=(Z6 c0).bind fun t11=>(Wi c0 number1).bind fun t15=>(Ya c0).bind fun t19=>bif(!t19.1)|| (!t15.2.1)then some ((t11.1,(false,())),()) else (Zq3 t11.1 number1).bind fun t27=>Zg7 (Zjl Ji t27.2.1 t15.1 (0:Int)) Ji t27.2.1 t15.1 (0:Int)
abbrev Qge:List PE:=[.box 0 100 (W9) (.u false),.box 3 37 (Zq) (.u false),.box 4 37 (Zq) (.u true),.box 6 37 (Zq) (.u false),.val 27 (.int .i64) (.u false),.val 91 (.bool) (.u false)]
def Zkn(c0_3:Qp)(x3_2:Ze)(t4_2:Ze)(y6_1:Ze)(t27_2:Int)(t91:Bool):Option ((Ze×Unit)×(Qp×Unit)):=bif t91 then (Qm c0_3 (20:Int)).bind fun t97=>(Zak x3_2 (IntKind.i64.wrap ((8:Int)+t97.1.1))).bind fun t99=>Q3 2 (Q3 1 (some ((t99.1.2.2.1,()),(t97.2.1,())))) else bif t27_2==8 then (Zjy c0_3).bind fun t106=>(Zm8 x3_2 t106.1.1).bind fun t110=>bif t110.1.2.1==0 then some ((t110.1.1,()),(t106.2.1,())) else some ((y6_1,()),(t106.2.1,())) else bif t27_2==9 then bif decide ((x3_2.2.2.2.2.2.2.2.2.2.2.2.2.2.2.2.1.length:Int)>(0:Int))then (Qm c0_3 (x3_2.2.2.2.2.2.2.2.2.2.2.2.2.2.2.2.1.length:Int)).bind fun t128=>Zi (0<=t128.1.1/\t128.1.1<x3_2.2.2.2.2.2.2.2.2.2.2.2.2.2.2.2.1.length)<|(Zam t128.2.1 (3:Int)).bind fun t133=>bif t133.1.1 then (Zow x3_2 (x3_2.2.2.2.2.2.2.2.2.2.2.2.2.2.2.2.1.getD t128.1.1.toNat Qj).1).bind fun t137=>some ((t137.1.1,()),(t133.2.1,())) else (Zqv x3_2 (x3_2.2.2.2.2.2.2.2.2.2.2.2.2.2.2.2.1.getD t128.1.1.toNat Qj).1).bind fun t143=>some ((t143.1.1,()),(t133.2.1,())) else some ((y6_1,()),(c0_3,())) else some ((y6_1,()),(c0_3,()))
abbrev Qgd:List PE:=[.box 0 100 (W9) (.u false),.box 3 37 (Zq) (.u false),.box 4 37 (Zq) (.u true),.val 5 (.int .i64) (.u false),.box 6 37 (Zq) (.u false),.val 27 (.int .i64) (.u false),.val 38 (.bool) (.u false)]
def Zkm(c0_2:Qp)(x3_1:Ze)(t4_1:Ze)(id5_1:Int)(y6:Ze)(t27_1:Int)(t38:Bool):Option ((Ze×Unit)×(Qp×Unit)):=bif t38 then (Zpr c0_2 (8:Int)).bind fun t45=>(Zng x3_1 id5_1 t45.1.1).bind fun t46=>Q3 1 (some ((t46.2.1,()),(t45.2.1,()))) else bif t27_1==3 then (Zam c0_2 (2:Int)).bind fun t52=>bif t52.1.1 then (Zlu x3_1 id5_1).bind fun t56=>some ((t56.1,()),(t52.2.1,())) else some ((y6,()),(t52.2.1,())) else bif t27_1==4 then (Qm c0_2 (6:Int)).bind fun t65=>(Zo0 x3_1 id5_1 t65.1.1).bind fun t66=>Q3 2 (Q3 1 (some ((t66.1.2.2.1,()),(t65.2.1,())))) else bif t27_1==5 then (Zam c0_2 (3:Int)).bind fun t73=>bif t73.1.1 then (Qm t73.2.1 (3:Int)).bind fun t78=>(Zne x3_1 id5_1 t78.1.1).bind fun t79=>Qf (Q3 1 (some ((t79.1.1,()),(t78.2.1,())))) (some ((t79.1.1,()),(t78.2.1,()))) else (Zpp t73.2.1 ([([117,61,49]:List UInt8),([105]:List UInt8),([117,61,53,44,32,105]:List UInt8)])).bind fun t87=>(Znf x3_1 id5_1 t87.1.1).bind fun t88=>Qf (Q3 1 (some ((t88.1,()),(t87.2.1,())))) (some ((t88.1,()),(t87.2.1,()))) else bif t27_1==6 then Zkn c0_2 x3_1 t4_1 y6 t27_1 (t27_1==6) else Zkn c0_2 x3_1 t4_1 y6 t27_1 (t27_1==7)
abbrev Qgc:List PE:=[.box 0 100 (W9) (.u false),.box 3 37 (Zq) (.u false),.box 4 37 (Zq) (.u true),.val 5 (.int .i64) (.u false)]
def Zkl(c0_1:Qp)(x3:Ze)(t4:Ze)(id5:Int):Option ((Ze×Unit)×(Qp×Unit)):=(Qm c0_1 (10:Int)).bind fun t27=>bif t27.1.1==0 then (Zam t27.2.1 (2:Int)).bind fun t33=>(Zgs x3 t33.1.1).bind fun t34=>Qf (Qf (Q3 1 (some ((t34.2.1,()),(t33.2.1,())))) (some ((t34.2.1,()),(t33.2.1,())))) (Qf (Qf (Q3 1 (some ((t34.2.1,()),(t33.2.1,())))) (some ((t34.2.1,()),(t33.2.1,())))) (Q3 1 (some ((t34.2.1,()),(t33.2.1,()))))) else bif t27.1.1==1 then Zkm t27.2.1 x3 t4 id5 x3 t27.1.1 (t27.1.1==1) else Zkm t27.2.1 x3 t4 id5 x3 t27.1.1 (t27.1.1==2)
def Zuh(c0:Qp)(x1:Ze):Option ((Ze×Unit)×(Qp×Unit)):=bif decide ((x1.2.2.2.1.length:Int)>(0:Int))then (Qm c0 (x1.2.2.2.1.length:Int)).bind fun t21=>Zi (0<=t21.1.1/\t21.1.1<x1.2.2.2.1.length)<|Zkl t21.2.1 x1 Ji (x1.2.2.2.1.getD t21.1.1.toNat Zn).1 else Zkl c0 x1 Ji (0:Int)
abbrev Qf7:List PE:=[.box 0 100 (W9) (.u false),.box 2 37 (Zq) (.u true),.box 3 37 (Zq) (.u false),.val 5 (.int .i64) (.u false)]
def Zmt(c0_1:Qp)(t2:Ze)(x3:Ze)(n5:Int):Nat:=(n5-0).toNat+1
def Zki:Nat->Qp->Ze->Ze->Int->Option ((Ze×Unit)×(Qp×Unit))|0,_,_,_,_=>none|N+1,c0_1,t2,x3,n5=>bif decide (n5>(0:Int))then (Zuh c0_1 x3).bind fun t25=>Zki N t25.2.1 t2 t25.1.1 (IntKind.i64.wrap (n5-1)) else some ((x3,()),(c0_1,()))
def Zue(c0:Qp):Option ((Ze×Unit)×(Qp×Unit)):=(Zam c0 (2:Int)).bind fun t8=>(Zq0 t8.2.1).bind fun t10=>(Zq0 t10.2.1).bind fun t12=>(Znc t8.1.1 t10.1.1 t12.1.1).bind fun t13=>(Qm t12.2.1 (12:Int)).bind fun t17=>Zki (Zmt t17.2.1 Ji t13.1 (IntKind.i64.wrap ((2:Int)+t17.1.1))) t17.2.1 Ji t13.1 (IntKind.i64.wrap ((2:Int)+t17.1.1))
def Zpq(c0:Qp):Option ((Ze×Unit)×(Qp×Unit)):=(Zue c0).bind fun t5=>(Qm t5.2.1 (20:Int)).bind fun t7=>bif t7.1.1==0 then (Jt t7.2.1 ([(-1:Int),(3:Int),(7:Int),(256:Int)])).bind fun t12=>some (((t5.1.1.1,(t5.1.1.2.1,(t5.1.1.2.2.1,(t5.1.1.2.2.2.1,(t5.1.1.2.2.2.2.1,(t5.1.1.2.2.2.2.2.1,(t5.1.1.2.2.2.2.2.2.1,(t5.1.1.2.2.2.2.2.2.2.1,(t5.1.1.2.2.2.2.2.2.2.2.1,(t5.1.1.2.2.2.2.2.2.2.2.2.1,(t5.1.1.2.2.2.2.2.2.2.2.2.2.1,(t5.1.1.2.2.2.2.2.2.2.2.2.2.2.1,(t5.1.1.2.2.2.2.2.2.2.2.2.2.2.2.1,(t5.1.1.2.2.2.2.2.2.2.2.2.2.2.2.2.1,(t5.1.1.2.2.2.2.2.2.2.2.2.2.2.2.2.2.1,(t5.1.1.2.2.2.2.2.2.2.2.2.2.2.2.2.2.2.1,(t5.1.1.2.2.2.2.2.2.2.2.2.2.2.2.2.2.2.2.1,(t12.1.1,t5.1.1.2.2.2.2.2.2.2.2.2.2.2.2.2.2.2.2.2.2)))))))))))))))))),()),(t12.2.1,())) else bif t7.1.1==1 then (Jt t7.2.1 ([(-1:Int),(1000000:Int),(1000001:Int)])).bind fun t18=>some (((t5.1.1.1,(t5.1.1.2.1,(t5.1.1.2.2.1,(t5.1.1.2.2.2.1,(t5.1.1.2.2.2.2.1,(t5.1.1.2.2.2.2.2.1,(t5.1.1.2.2.2.2.2.2.1,(t5.1.1.2.2.2.2.2.2.2.1,(t5.1.1.2.2.2.2.2.2.2.2.1,(t5.1.1.2.2.2.2.2.2.2.2.2.1,(t5.1.1.2.2.2.2.2.2.2.2.2.2.1,(t5.1.1.2.2.2.2.2.2.2.2.2.2.2.1,(t5.1.1.2.2.2.2.2.2.2.2.2.2.2.2.1,(t5.1.1.2.2.2.2.2.2.2.2.2.2.2.2.2.1,(t5.1.1.2.2.2.2.2.2.2.2.2.2.2.2.2.2.1,(t5.1.1.2.2.2.2.2.2.2.2.2.2.2.2.2.2.2.1,(t18.1.1,t5.1.1.2.2.2.2.2.2.2.2.2.2.2.2.2.2.2.2.2))))))))))))))))),()),(t18.2.1,())) else bif t7.1.1==2 then (Jt t7.2.1 ([(-1:Int),(0:Int)])).bind fun t24=>some (((t5.1.1.1,(t5.1.1.2.1,(t5.1.1.2.2.1,(t5.1.1.2.2.2.1,((t5.1.1.2.2.2.2.1.1,(t24.1.1,t5.1.1.2.2.2.2.1.2.2)),t5.1.1.2.2.2.2.2))))),()),(t24.2.1,())) else bif t7.1.1==3 then (Jt t7.2.1 ([(0:Int),(1000000:Int),(1000001:Int)])).bind fun t31=>some (((t5.1.1.1,(t5.1.1.2.1,(t5.1.1.2.2.1,(t5.1.1.2.2.2.1,(t5.1.1.2.2.2.2.1,(t5.1.1.2.2.2.2.2.1,(t5.1.1.2.2.2.2.2.2.1,(t5.1.1.2.2.2.2.2.2.2.1,(t5.1.1.2.2.2.2.2.2.2.2.1,(t5.1.1.2.2.2.2.2.2.2.2.2.1,(t5.1.1.2.2.2.2.2.2.2.2.2.2.1,(t5.1.1.2.2.2.2.2.2.2.2.2.2.2.1,(t5.1.1.2.2.2.2.2.2.2.2.2.2.2.2.1,(t5.1.1.2.2.2.2.2.2.2.2.2.2.2.2.2.1,(t31.1.1,t5.1.1.2.2.2.2.2.2.2.2.2.2.2.2.2.2.2))))))))))))))),()),(t31.2.1,())) else some ((t5.1.1,()),(t7.2.1,()))
abbrev Qcp:List PE:=[.box 0 100 (W9) (.u false),.val 3 (.slice 87 (Zu)) (.u true),.val 4 (.int .i64) (.u false)]
def Zli(c0_1:Qp)(l3:List Zf)(n4:Int):Nat:=(n4-0).toNat+1
def Zi7:Nat->Qp->List Zf->Int->Option ((List Zf×Unit)×(Qp×Unit))|0,_,_,_=>none|N+1,c0_1,l3,n4=>bif decide (n4>(0:Int))then (Zjy c0_1).bind fun t14=>Zi (l3.length+ ([t14.1.1]).length<=Qg)<|Zi7 N t14.2.1 (l3++ ([t14.1.1])) (IntKind.i64.wrap (n4-1)) else some ((l3,()),(c0_1,()))
def Zoe(c0:Qp):Option ((List Zf×Unit)×(Qp×Unit)):=(Qm c0 (5:Int)).bind fun t7=>Zi7 (Zli t7.2.1 ([]:List Zf) t7.1.1) t7.2.1 ([]:List Zf) t7.1.1
def Zeh(code0:List Int):Option ((Ze×List Zf×Unit)×(Unit)):=(Zjw code0).bind fun t12=>(Zpq t12.1).bind fun t14=>(Zak t14.1.1 (40:Int)).bind fun t17=>(Wi t17.1.2.2.1 t17.1.2.1).bind fun t24=>(Zam t14.2.1 (3:Int)).bind fun t28=>bif t28.1.1 then (Zoe t28.2.1).bind fun t31=>some ((t14.1.1,(t31.1.1,())),()) else some ((t14.1.1,(t24.1.2.1,())),())
def Zg9(code0:List Int):Option (List Zf×Int×Unit):=(Zjw code0).bind fun t7=>(Zoe t7.1).bind fun t9=>(Qm t9.2.1 (8:Int)).bind fun t12=>some (t9.1.1,t12.1.1,())
abbrev Z0y:List PE:=[.ptr 4 10 [],.val 5 (.slice 3 (.int .i64)) (.u true),.val 7 (.slice 3 (.int .i64)) (.u true),.val 8 (.int .i64) (.u false),.box 10 100 (W9) (.u false)]
def Zgg(a5_1:List Int)(b7:List Int)(n8:Int)(t10_2:Qp):Nat:=(n8-0).toNat+1
def Zcm:Nat->List Int->List Int->Int->Qp->Option (List Int×List Int×Unit)|0,_,_,_,_=>none|N+1,a5_1,b7,n8,t10_2=>bif decide (n8>(0:Int))then (Qm t10_2 (4:Int)).bind fun t32=>Zi (b7.length+ ([t32.1.1]).length<=Qg)<|Zcm N a5_1 (b7++ ([t32.1.1])) (IntKind.i64.wrap (n8-1)) t32.2.1 else some (a5_1,b7,())
abbrev Z0x:List PE:=[.ptr 4 10 [],.val 5 (.slice 3 (.int .i64)) (.u true),.val 6 (.int .i64) (.u false),.box 10 100 (W9) (.u false)]
def Zgf(a5:List Int)(n6:Int)(t10_1:Qp):Nat:=(n6-0).toNat+1
def Zcl:Nat->List Int->Int->Qp->Option (List Int×List Int×Unit)|0,_,_,_=>none|N+1,a5,n6,t10_1=>bif decide (n6>(0:Int))then (Qm t10_1 (4:Int)).bind fun t20=>Zi (a5.length+ ([t20.1.1]).length<=Qg)<|Zcl N (a5++ ([t20.1.1])) (IntKind.i64.wrap (n6-1)) t20.2.1 else (Qm t10_1 (4:Int)).bind fun t25=>Zcm (Zgg a5 ([]:List Int) t25.1.1 t25.2.1) a5 ([]:List Int) t25.1.1 t25.2.1
def Zlt(code0:List Int):Option (List Int×List Int×Unit):=(Zjw code0).bind fun t10=>(Qm t10.1 (9:Int)).bind fun t13=>Zcl (Zgf ([]:List Int) t13.1.1 t13.2.1) ([]:List Int) t13.1.1 t13.2.1
def Zhu(code0:List Int):Option ((Ze×Int×Int×Unit)×(Unit)):=(Zjw code0).bind fun t9=>(Zpq t9.1).bind fun t11=>(Jt t11.2.1 ([(0:Int),(6:Int),(10:Int),(40:Int)])).bind fun t14=>(Qm t14.2.1 (6:Int)).bind fun t18=>some ((t11.1.1,(t14.1.1,(IntKind.i64.wrap (t18.1.1-1),()))),())
def Zxc(r0:Xz):Option (Xz×Unit):=Zi (([]:List Int).length+r0.2.2.2.1.length<=Qg)<|some ((r0.1,(r0.2.1,(r0.2.2.1,(([]:List Int)++r0.2.2.2.1,r0.2.2.2.2)))),())
def Km(l0:List Zc):Option (List Zc×Unit):=Zi (([]:List Zc).length+l0.length<=Qg)<|some (([]:List Zc)++l0,())
def Zj4(s0:Zo):Option (Zo×Unit):=(Zxc s0.2.1).bind fun t5=>(Km s0.2.2.1).bind fun t9=>(Km s0.2.2.2.1).bind fun t12=>(Km s0.2.2.2.2.1).bind fun t15=>some ((s0.1,(t5.1,(t9.1,(t12.1,(t15.1,s0.2.2.2.2.2))))),())
def Ztb(b0:Z3):Option (Z3×Unit):=Zi (([]:List Vg).length+b0.2.1.length<=Qg)<|some ((b0.1,(([]:List Vg)++b0.2.1,())),())
def Zp8(r0:Qe):Option (Qe×Unit):=(Ztb r0.2.1).bind fun t5=>some ((r0.1,(t5.1,r0.2.2)),())
def Zj5(s0:Zh):Option (Zh×Unit):=(Zj4 s0.2.1).bind fun t5=>(Zp8 s0.2.2.2.1).bind fun t8=>some ((s0.1,(t5.1,(s0.2.2.1,(t8.1,s0.2.2.2.2)))),())
abbrev Z13:List PE:=[.val 3 (.slice 75 (Zy)) (.u true),.val 7 (.slice 75 (Zy)) (.u false),.val 8 (.int .i64) (.u false),.val 9 (.int .i64) (.u false)]
def Zb3(out3:List Zh)(t7:List Zh)(t8_1:Int)(t9:Int):Nat:=(t8_1-t9).toNat+1
def Zd4:Nat->List Zh->List Zh->Int->Int->Option (List Zh×Unit)|0,_,_,_,_=>none|N+1,out3,t7,t8_1,t9=>bif decide (t9<t8_1)then Zi (0<=t9/\t9<t7.length)<|(Zj5 (t7.getD t9.toNat Zn)).bind fun t15=>Zi (out3.length+ ([t15.1]).length<=Qg)<|Zd4 N (out3++ ([t15.1])) t7 t8_1 (IntKind.i64.wrap (t9+1)) else some (out3,())
def Zrg(l0:List Zh):Option (List Zh×Unit):=Zd4 (Zb3 ([]:List Zh) l0 (l0.length:Int) (0:Int)) ([]:List Zh) l0 (l0.length:Int) (0:Int)
abbrev Z12:List PE:=[.val 3 (.slice 59 (Yx)) (.u true),.val 7 (.slice 59 (Yx)) (.u false),.val 8 (.int .i64) (.u false),.val 9 (.int .i64) (.u false)]
def Ku(out3:List Z8)(t7:List Z8)(t8_1:Int)(t9:Int):Nat:=(t8_1-t9).toNat+1
def Zd3:Nat->List Z8->List Z8->Int->Int->Option (List Z8×Unit)
 |0,_,_,_,_=>none
 |N+1,out3,t7,t8_1,t9=>
  bif decide (t9<t8_1)then
   Zi (0<=t9/\t9<t7.length)<|
   Zi (([]:List Zf).length+ (t7.getD t9.toNat Qj).2.1.length<=Qg)<|
   let t21:List Z8:=[((t7.getD t9.toNat Qj).1,(([]:List Zf)++ (t7.getD t9.toNat Qj).2.1,()))]
   Zi (out3.length+t21.length<=Qg)<|
   Zd3 N (out3++t21) t7 t8_1 (IntKind.i64.wrap (t9+1))
  else
   some (out3,())
def Zii(l0:List Z8):Option (List Z8×Unit):=Zd3 (Ku ([]:List Z8) l0 (l0.length:Int) (0:Int)) ([]:List Z8) l0 (l0.length:Int) (0:Int)
def Zb2(c0:Ze):Option (Ze×Unit):=(Zrg c0.2.2.2.1).bind fun t5=>(Zii c0.2.2.2.2.2.2.2.2.2.2.2.2.2.2.2.1).bind fun t8=>some ((c0.1,(c0.2.1,(c0.2.2.1,(t5.1,(c0.2.2.2.2.1,(c0.2.2.2.2.2.1,(c0.2.2.2.2.2.2.1,(c0.2.2.2.2.2.2.2.1,(c0.2.2.2.2.2.2.2.2.1,(c0.2.2.2.2.2.2.2.2.2.1,(c0.2.2.2.2.2.2.2.2.2.2.1,(c0.2.2.2.2.2.2.2.2.2.2.2.1,(c0.2.2.2.2.2.2.2.2.2.2.2.2.1,(c0.2.2.2.2.2.2.2.2.2.2.2.2.2.1,(c0.2.2.2.2.2.2.2.2.2.2.2.2.2.2.1,(t8.1,c0.2.2.2.2.2.2.2.2.2.2.2.2.2.2.2.2)))))))))))))))),())
def Zz(n0:Int)(low1:Int)(high2:Int):Option (Bool×Unit):=some ((decide (low1<=n0))&& (decide (n0<=high2)),())
def Zj6(size0:Int):Option (Bool×Unit):=(Zz size0 (1:Int) (64:Int)).bind fun t4=>some (t4.1&& ((bits .and .i64 size0 (IntKind.i64.wrap (size0-1)))==0),())
def Zsu(c0:Zq7):Option (Bool×Unit):=
 (Zj6 c0.1).bind fun t5=>
 (bif t5.1 then(Zz c0.2.2.1 (1:Int) (4096:Int))else some (false,())).bind fun t9=>
 (bif(t5.1&&t9.1)then(Zz c0.2.2.2.2.1 (1:Int) (4096:Int))else some (false,())).bind fun t14=>
 (bif((t5.1&&t9.1)&&t14.1)then(Zz c0.2.1 (1:Int) c0.2.2.1)else some (false,())).bind fun t21=>
 let t22:Bool:=((t5.1&&t9.1)&&t14.1)&&t21.1
 (bif t22 then(Zz c0.2.2.2.1 (1:Int) c0.2.2.2.2.1)else some (false,())).bind fun t28=>
 (bif(t22&&t28.1)then(Zz c0.2.2.2.2.2.1 (0:Int) (1000:Int))else some (false,())).bind fun t33=>
 (bif((t22&&t28.1)&&t33.1)then(Zz c0.2.2.2.2.2.2.1 (0:Int) (1000:Int))else some (false,())).bind fun t38=>
 let t39:Bool:=((t22&&t28.1)&&t33.1)&&t38.1
 (bif t39 then(Zz c0.2.2.2.2.2.2.2.1 (1:Int) (1000:Int))else some (false,())).bind fun t43=>
 some (t39&&t43.1,())
def Xo(n0:Int):Option (Bool×Unit):=(Zz n0 (0:Int) (4611686018427387903:Int)).bind fun t4=>some (t4.1,())
def Zw9(n0:Int):Option (Bool×Unit):=(Zz n0 (0:Int) (255:Int)).bind fun t4=>some (!t4.1,())
abbrev Zja:List PE:=[.val 0 (.slice 3 (.int .i64)) (.u false),.val 1 (.fnc 275) (.u false),.val 7 (.int .i64) (.u false),.val 8 (.int .i64) (.u false)]
def Xi(s0_1:List Int)(f1:Unit)(t7_1:Int)(t8:Int):Nat:=(t7_1-t8).toNat+1
def Xb:Nat->List Int->Unit->Int->Int->Option (Int×Unit)|0,_,_,_,_=>none|N+1,s0_1,f1,t7_1,t8=>bif decide (t8<t7_1)then Zi (0<=t8/\t8<s0_1.length)<|(Zw9 (s0_1.getD t8.toNat (0:Int))).bind fun t16=>bif t16.1 then some (t8,()) else Xb N s0_1 () t7_1 (IntKind.i64.wrap (t8+1)) else some ((-1:Int),())
def Jp(s0:List Int):Option (Int×Unit):=Xb (Xi s0 () (s0.length:Int) (0:Int)) s0 () (s0.length:Int) (0:Int)
def Kn(s0:List Int):Option (Bool×Unit):=(Jp s0).bind fun t7=>some (decide (t7.1>=(0:Int)),())
def Zph(r0:Xz):Option (Bool×Unit):=
 (Zj6 r0.1).bind fun t5=>
 let t14:Bool:=(!t5.1)|| ((r0.2.2.2.1.length:Int) !=r0.1)
 (bif t14 then some (false,())else(Kn r0.2.2.2.1)).bind fun t18=>
 bif t14||t18.1 then
  some (false,())
 else
  (Xo r0.2.1).bind fun t22=>
  (bif t22.1 then(Zz r0.2.2.1 r0.2.1 (min (IntKind.i64.wrap (r0.2.1+r0.1)) (4611686018427387903:Int)))else some (false,())).bind fun t34=>
  some (t22.1&&t34.1,())
def Zp9(r0:Zc):Option (Bool×Unit):=some (((decide (r0.1>=(0:Int)))&& (decide (r0.1<r0.2.1)))&& (decide (r0.2.1<=(4611686018427387903:Int))),())
abbrev Qak:List PE:=[.val 0 (.slice 200 (Zt)) (.u false),.val 5 (.slice 200 (Zt)) (.u false),.val 6 (.int .i64) (.u false),.val 7 (.int .i64) (.u false)]
def Zk6(l0_1:List Zc)(t5:List Zc)(t6_1:Int)(t7:Int):Nat:=(t6_1-t7).toNat+1
def Zic:Nat->List Zc->List Zc->Int->Int->Option (Bool×Unit)|0,_,_,_,_=>none|N+1,l0_1,t5,t6_1,t7=>bif decide (t7<t6_1)then Zi (0<=t7/\t7<t5.length)<|(Zp9 (t5.getD t7.toNat Zw)).bind fun t13=>Zi (((!t13.1)=false->((decide (t7>(0:Int)))=true->(0<=(IntKind.i64.wrap (t7-1))/\(IntKind.i64.wrap (t7-1))<l0_1.length))))<|bif(!t13.1)|| ((decide (t7>(0:Int)))&& (decide ((t5.getD t7.toNat Zw).1<=(l0_1.getD (IntKind.i64.wrap (t7-1)).toNat Zw).2.1)))then some (false,()) else Zic N l0_1 t5 t6_1 (IntKind.i64.wrap (t7+1)) else some (true,())
def Kt(l0:List Zc):Option (Bool×Unit):=Zic (Zk6 l0 l0 (l0.length:Int) (0:Int)) l0 l0 (l0.length:Int) (0:Int)
abbrev Zz2:List PE:=[.val 3 (.int .i64) (.u false),.val 9 (.slice 200 (Zt)) (.u false),.val 10 (.int .i64) (.u false),.val 11 (.int .i64) (.u false)]
def Zge(count3:Int)(t9:List Zc)(t10_1:Int)(t11:Int):Nat:=(t10_1-t11).toNat+1
def Zcg:Nat->Int->List Zc->Int->Int->Option (Int×Unit)|0,_,_,_,_=>none|N+1,count3,t9,t10_1,t11=>bif decide (t11<t10_1)then Zi (0<=t11/\t11<t9.length)<|Zcg N (IntKind.i64.wrap (count3+ (IntKind.i64.wrap ((t9.getD t11.toNat Zw).2.1- (t9.getD t11.toNat Zw).1)))) t9 t10_1 (IntKind.i64.wrap (t11+1)) else some (count3,())
def Wn(l0:List Zc):Option (Int×Unit):=(Kt l0).bind fun t7=>bif !t7.1 then some ((-1:Int),()) else Zcg (Zge (0:Int) l0 (l0.length:Int) (0:Int)) (0:Int) l0 (l0.length:Int) (0:Int)
abbrev Qag:List PE:=[.box 3 200 (Zt) (.u false),.val 5 (.slice 200 (Zt)) (.u true),.val 6 (.bool) (.u false),.box 8 200 (Zt) (.u false),.val 20 (.slice 200 (Zt)) (.u false),.val 21 (.int .i64) (.u false),.val 22 (.int .i64) (.u false)]
def Zh6(K1: (Zc×List Zc×Bool×List Zc×Int×Int×Unit)->Option (List Zc×Unit))(r3_1:Zc)(out5_1:List Zc)(placed6_1:Bool)(x8:Zc)(t20_1:List Zc)(t21_2:Int)(t22_1:Int):Option (List Zc×Unit):=Zi (out5_1.length+ ([x8]).length<=Qg)<|K1 (r3_1,out5_1++ ([x8]),placed6_1,t20_1,t21_2,IntKind.i64.wrap (t22_1+1),())
abbrev Qah:List PE:=[.box 3 200 (Zt) (.u false),.val 5 (.slice 200 (Zt)) (.u true),.val 6 (.bool) (.u false),.val 20 (.slice 200 (Zt)) (.u false),.val 21 (.int .i64) (.u false),.val 22 (.int .i64) (.u false)]
def Zf1(r3:Zc)(out5:List Zc)(placed6:Bool)(t20:List Zc)(t21_1:Int)(t22:Int):Nat:=(t21_1-t22).toNat+1
def Yh:Nat->Zc->List Zc->Bool->List Zc->Int->Int->Option (List Zc×Unit)|0,_,_,_,_,_,_=>none|N+1,r3,out5,placed6,t20,t21_1,t22=>bif decide (t22<t21_1)then Zi (0<=t22/\t22<t20.length)<|bif decide ((t20.getD t22.toNat Zw).2.1<r3.1)then Zi (out5.length+ ([(t20.getD t22.toNat Zw)]).length<=Qg)<|Yh N r3 (out5++ ([(t20.getD t22.toNat Zw)])) placed6 t20 t21_1 (IntKind.i64.wrap (t22+1)) else bif decide ((t20.getD t22.toNat Zw).1>r3.2.1)then bif !placed6 then Zi (out5.length+ ([r3]).length<=Qg)<|Zh6 (fun v=>Yh N v.1 v.2.1 v.2.2.1 v.2.2.2.1 v.2.2.2.2.1 v.2.2.2.2.2.1) r3 (out5++ ([r3])) true (t20.getD t22.toNat Zw) t20 t21_1 t22 else Zh6 (fun v=>Yh N v.1 v.2.1 v.2.2.1 v.2.2.2.1 v.2.2.2.2.1 v.2.2.2.2.2.1) r3 out5 placed6 (t20.getD t22.toNat Zw) t20 t21_1 t22 else Yh N (min r3.1 (t20.getD t22.toNat Zw).1,(max r3.2.1 (t20.getD t22.toNat Zw).2.1,())) out5 placed6 t20 t21_1 (IntKind.i64.wrap (t22+1)) else bif !placed6 then Zi (out5.length+ ([r3]).length<=Qg)<|some (out5++ ([r3]),()) else some (out5,())
def Zkq(l0:List Zc)(r1:Zc):Option (List Zc×Unit):=(Kt l0).bind fun t10=>(bif(!t10.1)then some (false,())else(Zp9 r1)).bind fun t14=>bif(!t10.1)|| (!t14.1)then (Km l0).bind fun t18=>some (t18.1,()) else Yh (Zf1 r1 ([]:List Zc) false l0 (l0.length:Int) (0:Int)) r1 ([]:List Zc) false l0 (l0.length:Int) (0:Int)
def Zdt(l0:List Zc)(place1:Int):Option (Bool×Unit):=
 let t12:Int:=IntKind.i64.wrap ((l0.length:Int)- (1:Int))
 Zi (((decide ((l0.length:Int)>(0:Int)))=true->(0<=t12/\t12<l0.length)))<|
 some ((decide ((l0.length:Int)>(0:Int)))&& (decide ((l0.getD t12.toNat Zw).2.1>place1)),())
abbrev Qap:List PE:=[.val 3 (.int .i64) (.u false),.val 9 (.slice 200 (Zt)) (.u true),.val 27 (.slice 200 (Zt)) (.u true),.val 28 (.int .i64) (.u false),.val 29 (.int .i64) (.u false)]
def Zf3(end3_1:Int)(all9:List Zc)(t27_1:List Zc)(t28_1:Int)(t29:Int):Nat:=(t28_1-t29).toNat+1
def Zih:Nat->Int->List Zc->List Zc->Int->Int->Option (Bool×Unit)|0,_,_,_,_,_=>none|N+1,end3_1,all9,t27_1,t28_1,t29=>bif decide (t29<t28_1)then Zi (0<=t29/\t29<t27_1.length)<|(Zkq all9 (t27_1.getD t29.toNat Zw)).bind fun t35=>Zih N end3_1 t35.1 t27_1 t28_1 (IntKind.i64.wrap (t29+1)) else (Wn all9).bind fun t38=>(bif(t38.1==end3_1)then(Zdt all9 end3_1)else some (false,())).bind fun t44=>some ((t38.1==end3_1)&& (!t44.1),())
def Zr5(a0:List Zc)(b1:List Zc)(c2:List Zc)(end3:Int):Option (Bool×Unit):=(Wn a0).bind fun t13=>(Wn b1).bind fun t15=>(Wn c2).bind fun t18=>bif(IntKind.i64.wrap ((IntKind.i64.wrap (t13.1+t15.1))+t18.1)) !=end3 then some (false,()) else (Km a0).bind fun t23=>(Km b1).bind fun t25=>Zi (t25.1.length+c2.length<=Qg)<|Zih (Zf3 end3 t23.1 (t25.1++c2) ((t25.1++c2).length:Int) (0:Int)) end3 t23.1 (t25.1++c2) ((t25.1++c2).length:Int) (0:Int)
abbrev Qai:List PE:=[.val 1 (.int .i64) (.u false),.val 14 (.slice 200 (Zt)) (.u false),.val 15 (.int .i64) (.u false),.val 16 (.int .i64) (.u false)]
def Zk5(from1_1:Int)(t14:List Zc)(t15_1:Int)(t16:Int):Nat:=(t15_1-t16).toNat+1
def Zeu:Nat->Int->List Zc->Int->Int->Option (Int×Unit)|0,_,_,_,_=>none|N+1,from1_1,t14,t15_1,t16=>bif decide (t16<t15_1)then Zi (0<=t16/\t16<t14.length)<|bif(decide ((t14.getD t16.toNat Zw).1<=from1_1))&& (decide (from1_1< (t14.getD t16.toNat Zw).2.1))then Zeu N (t14.getD t16.toNat Zw).2.1 t14 t15_1 (IntKind.i64.wrap (t16+1)) else Zeu N from1_1 t14 t15_1 (IntKind.i64.wrap (t16+1)) else some (from1_1,())
def Zry(l0:List Zc)(from1:Int):Option (Int×Unit):=(Kt l0).bind fun t8=>bif(!t8.1)|| (decide (from1< (0:Int)))then some ((-1:Int),()) else Zeu (Zk5 from1 l0 (l0.length:Int) (0:Int)) from1 l0 (l0.length:Int) (0:Int)
def Zma(s0:Zo):Option (Int×Unit):=bif(s0.2.2.2.2.2.2.1==3)&& (s0.2.1.2.1==s0.2.1.2.2.1)then some ((3:Int),()) else bif((s0.2.2.2.2.2.2.1==2)|| (s0.2.2.2.2.2.2.1==3))|| ((s0.2.2.2.2.2.2.1==1)&& (s0.1==2))then some ((2:Int),()) else bif(decide (s0.2.2.2.2.2.2.2.1>(0:Int)))|| ((s0.2.2.2.2.2.2.1==1)&& (s0.1==1))then some ((1:Int),()) else some ((0:Int),())
abbrev Qal:List PE:=[.box 1 66 (Z0) (.u false),.val 4 (.int .i64) (.u false)]
def Zid(s1:Zo)(final4:Int):Option (Bool×Unit):=
 (Zr5 s1.2.2.1 s1.2.2.2.1 s1.2.2.2.2.1 s1.2.1.2.2.1).bind fun t117=>
 (bif t117.1 then(Zry s1.2.2.2.2.1 (0:Int))else some ((0:Int),())).bind fun t121=>
 (bif(t117.1&& (t121.1==s1.2.1.2.1))then(Zdt s1.2.2.2.1 s1.2.2.2.2.2.2.2.1)else some (false,())).bind fun t132=>
 let t134:Bool:=(t117.1&& (t121.1==s1.2.1.2.1))&& (!t132.1)
 (bif t134 then(Zdt s1.2.2.2.2.1 s1.2.2.2.2.2.2.2.1)else some (false,())).bind fun t140=>
 let t153:Bool:=((t134&& (!t140.1))&& (s1.2.2.2.2.2.2.2.2.1==0))&& (s1.2.2.2.2.2.1==final4)
 (bif t153 then(Zma s1)else some ((0:Int),())).bind fun t158=>
 some (t153&& (s1.1==t158.1),())
def Znx(s0:Zo):Option (Bool×Unit):=
 (Zph s0.2.1).bind fun t7=>
 (bif(!t7.1)then some (false,())else(Kt s0.2.2.1)).bind fun t12=>
 (bif((!t7.1)|| (!t12.1))then some (false,())else(Kt s0.2.2.2.1)).bind fun t18=>
 let t20:Bool:=((!t7.1)|| (!t12.1))|| (!t18.1)
 (bif t20 then some (false,())else(Kt s0.2.2.2.2.1)).bind fun t24=>
 (bif(t20|| (!t24.1))then some (false,())else(Zz s0.2.2.2.2.2.2.2.1 (0:Int) s0.2.1.2.2.1)).bind fun t33=>
 let t35:Bool:=(t20|| (!t24.1))|| (!t33.1)
 (bif t35 then some (false,())else(Xo s0.2.2.2.2.2.2.2.2.1)).bind fun t39=>
 (bif(t35|| (!t39.1))then some (false,())else(Zz s0.2.2.2.2.2.2.1 (0:Int) (3:Int))).bind fun t45=>
 bif(t35|| (!t39.1))|| (!t45.1)then
  some (false,())
 else
  bif(s0.1==4)|| (s0.1==5)then
   some ((((((((s0.2.2.1.length:Int)==(0:Int))&& ((s0.2.2.2.1.length:Int)==(0:Int)))&& ((s0.2.2.2.2.1.length:Int)==(0:Int)))&& (s0.2.1.2.1==s0.2.1.2.2.1))&& (s0.2.2.2.2.2.1==s0.2.2.2.2.2.2.2.1))&& (s0.2.2.2.2.2.2.2.1==s0.2.1.2.2.1))&& (s0.2.2.2.2.2.2.1==0),())
  else
   bif s0.2.2.2.2.2.2.1==0 then
    Zid s0 (-1:Int)
   else
    Zid s0 s0.2.1.2.2.1
def Zb0(c0:Qr):Option (Bool×Unit):=(Xo c0.1).bind fun t5=>(bif t5.1 then(Zz c0.2.1 (0:Int) c0.1)else some (false,())).bind fun t11=>(bif(t5.1&&t11.1)then(Zz c0.2.2.1 (-1:Int) c0.1)else some (false,())).bind fun t18=>(bif((t5.1&&t11.1)&&t18.1)then(Zz c0.2.2.2.1 (-1:Int) c0.1)else some (false,())).bind fun t25=>some (((t5.1&&t11.1)&&t18.1)&&t25.1,())
def Zpz(c0:Vg):Option (Int×Unit):=some (IntKind.i64.wrap (c0.1+ (c0.2.1.length:Int)),())
abbrev Qaj:List PE:=[.val 3 (.int .i64) (.u false),.val 13 (.slice 267 (Z06)) (.u false),.val 14 (.int .i64) (.u false),.val 15 (.int .i64) (.u false)]
def Zf2(least3:Int)(t13:List Vg)(t14_1:Int)(t15:Int):Nat:=(t14_1-t15).toNat+1
def Zib:Nat->Int->List Vg->Int->Int->Option (Bool×Unit)|0,_,_,_,_=>none|N+1,least3,t13,t14_1,t15=>bif decide (t15<t14_1)then Zi (0<=t15/\t15<t13.length)<|bif((((t13.getD t15.toNat Yb).2.1.length:Int)==(0:Int))|| (decide ((t13.getD t15.toNat Yb).1<least3)))|| (decide ((t13.getD t15.toNat Yb).1>(IntKind.i64.wrap ((4611686018427387903:Int)- ((t13.getD t15.toNat Yb).2.1.length:Int)))))then some (false,()) else (Zpz (t13.getD t15.toNat Yb)).bind fun t39=>Zib N (IntKind.i64.wrap (t39.1+1)) t13 t14_1 (IntKind.i64.wrap (t15+1)) else some (true,())
def Zkr(b0:Z3):Option (Bool×Unit):=(Xo b0.1).bind fun t8=>bif !t8.1 then some (false,()) else Zib (Zf2 b0.1 b0.2.1 (b0.2.1.length:Int) (0:Int)) b0.1 b0.2.1 (b0.2.1.length:Int) (0:Int)
def Zz3(b0:Z3):Option (Int×Unit):=
 (Zkr b0).bind fun t4=>
 bif(!t4.1)|| ((b0.2.1.length:Int)==(0:Int))then
  some (b0.1,())
 else
  let t19:Int:=IntKind.i64.wrap ((b0.2.1.length:Int)- (1:Int))
  Zi (0<=t19/\t19<b0.2.1.length)<|
  (Zpz (b0.2.1.getD t19.toNat Yb)).bind fun t22=>
  some (t22.1,())
def Zol(b0:Z3):Option (Int×Unit):=
 (Zkr b0).bind fun t4=>
 let t11:Bool:=(!t4.1)|| ((b0.2.1.length:Int)==(0:Int))
 Zi ((t11=false->(0<=(0:Int)/\(0:Int)<b0.2.1.length)))<|
 bif t11|| ((b0.2.1.getD (0:Int).toNat Yb).1 !=b0.1)then
  some ((0:Int),())
 else
  Zi (0<=(0:Int)/\(0:Int)<b0.2.1.length)<|
  some (((b0.2.1.getD (0:Int).toNat Yb).2.1.length:Int),())
def Zxd(b0:Z3):Option (Int×Unit):=(Zol b0).bind fun t6=>some (IntKind.i64.wrap (b0.1+t6.1),())
abbrev Z30:List PE:=[.box 1 71 (Q2) (.u false),.val 101 (.bool) (.u false)]
def Vr(r1:Qe)(t101:Bool):Option (Bool×Unit):=bif t101 then some ((r1.2.2.1==r1.2.2.2.1)&& ((r1.2.1.2.1.length:Int)==(0:Int)),()) else some (false,())
def Zoj(r0:Qe):Option (Bool×Unit):=
 (Zkr r0.2.1).bind fun t6=>
 (bif(!t6.1)then some ((0:Int),())else(Zz3 r0.2.1)).bind fun t11=>
 let t15:Bool:=(!t6.1)|| (decide (t11.1>r0.2.2.2.1))
 (bif t15 then some (false,())else(Xo r0.2.2.2.1)).bind fun t19=>
 (bif(t15|| (!t19.1))then some (false,())else(Xo r0.2.2.2.2.1)).bind fun t25=>
 let t27:Bool:=(t15|| (!t19.1))|| (!t25.1)
 (bif(r0.2.2.1 !=(-1:Int))then(bif t27 then some (false,())else(Zz r0.2.2.1 r0.2.2.2.1 (4611686018427387903:Int)))else some (false,())).bind fun t37=>
 bif t27|| ((r0.2.2.1 !=(-1:Int))&& (!t37.1))then
  some (false,())
 else
  (bif(r0.2.2.1 !=(-1:Int))then(Zxd r0.2.1)else some ((0:Int),())).bind fun t47=>
  let t51:Bool:=(r0.2.2.1 !=(-1:Int))&& (t47.1==r0.2.2.1)
  bif r0.1==0 then
   some ((r0.2.2.1==(-1:Int))&& (r0.2.2.2.2.1==0),())
  else
   bif r0.1==1 then
    some (((r0.2.2.1 !=(-1:Int))&& (!t51))&& (r0.2.2.2.2.1==0),())
   else
    bif r0.1==2 then
     some (t51&& (r0.2.2.2.2.1==0),())
    else
     bif r0.1==3 then
      some ((t51&& (r0.2.2.2.2.1==0))&& ((r0.2.1.2.1.length:Int)==(0:Int)),())
     else
      bif r0.1==4 then
       Vr r0 (r0.1==4)
      else
       Vr r0 (r0.1==5)
def Zny(w0:Qt):Option (Bool×Unit):=
 (Zz w0.2.1 (1:Int) (4096:Int)).bind fun t5=>
 (bif t5.1 then(Zz w0.1 (1:Int) w0.2.1)else some (false,())).bind fun t11=>
 (bif(t5.1&&t11.1)then(Zz w0.2.2.1 (1:Int) (4611686018427387903:Int))else some (false,())).bind fun t16=>
 (bif((t5.1&&t11.1)&&t16.1)then(Zz w0.2.2.2.1 (0:Int) w0.2.2.1)else some (false,())).bind fun t23=>
 let t24:Bool:=((t5.1&&t11.1)&&t16.1)&&t23.1
 (bif t24 then(Zz w0.2.2.2.2.1 (0:Int) w0.2.2.2.1)else some (false,())).bind fun t30=>
 let t41:Bool:=(t24&&t30.1)&& (decide (w0.2.2.1<=(IntKind.i64.wrap (w0.2.2.2.2.1+w0.1))))
 (bif t41 then(Zz w0.2.2.2.2.2.1 (0:Int) (1000000:Int))else some (false,())).bind fun t45=>
 some (t41&&t45.1,())
def Zj2(p0:Q9):Option (Bool×Unit):=(Zz p0.1 (0:Int) (7:Int)).bind fun t5=>some (t5.1,())
def Zrz(s0:Zh):Option (Bool×Unit):=
 (Xo s0.1).bind fun t6=>
 (bif(!t6.1)then some (false,())else(Xo s0.2.2.2.2.2.2.2.2.2.2.2.2.1)).bind fun t11=>
 (bif((!t6.1)|| (!t11.1))then some (false,())else(Znx s0.2.1)).bind fun t17=>
 let t19:Bool:=((!t6.1)|| (!t11.1))|| (!t17.1)
 (bif t19 then some (false,())else(Zb0 s0.2.2.1)).bind fun t23=>
 (bif(t19|| (!t23.1))then some (false,())else(Zoj s0.2.2.2.1)).bind fun t29=>
 let t31:Bool:=(t19|| (!t23.1))|| (!t29.1)
 (bif t31 then some (false,())else(Zny s0.2.2.2.2.1)).bind fun t35=>
 (bif(t31|| (!t35.1))then some (false,())else(Zj2 s0.2.2.2.2.2.1)).bind fun t41=>
 bif(t31|| (!t35.1))|| (!t41.1)then
  some (false,())
 else
  bif(((!s0.2.2.2.2.2.2.1)&& (!s0.2.2.2.2.2.2.2.1))|| (decide (s0.2.1.2.2.2.2.2.2.2.1>s0.2.2.1.2.1)))|| (decide (s0.2.2.2.1.2.2.2.1>s0.2.2.2.2.1.2.2.2.1))then
   some (false,())
  else
   bif((s0.2.2.2.2.2.2.2.2.1&& (s0.2.1.1 !=4))|| (s0.2.2.2.2.2.2.2.2.2.1&& (!s0.2.2.2.2.2.2.2.2.2.2.2.1)))|| ((s0.2.2.2.2.2.2.2.2.2.2.2.2.1 !=0)&& (!s0.2.2.2.2.2.2.2.2.2.2.2.1))then
    some (false,())
   else
    bif(!s0.2.2.2.2.2.2.1)&& (((s0.2.1.1 !=0)|| (s0.2.1.2.1.2.2.1 !=0))|| (s0.2.1.2.2.2.2.2.1 !=(-1:Int)))then
     some (false,())
    else
     some (s0.2.2.2.2.2.2.2.1|| (((s0.2.2.2.1.1==0)&& (s0.2.2.2.1.2.2.2.1==0))&& (!s0.2.2.2.2.2.2.2.2.2.2.2.1)),())
abbrev Z3t:List PE:=[.val 0 (.slice 75 (Zy)) (.u false),.val 5 (.slice 75 (Zy)) (.u false),.val 6 (.int .i64) (.u false),.val 7 (.int .i64) (.u false)]
def Zc6(l0_1:List Zh)(t5:List Zh)(t6_1:Int)(t7:Int):Nat:=(t6_1-t7).toNat+1
def Vp:Nat->List Zh->List Zh->Int->Int->Option (Bool×Unit)
 |0,_,_,_,_=>none
 |N+1,l0_1,t5,t6_1,t7=>
  bif decide (t7<t6_1)then
   Zi (0<=t7/\t7<t5.length)<|
   (bif(decide (t7>=(24:Int)))then some (false,())else(Zrz (t5.getD t7.toNat Zn))).bind fun t16=>
   let t18:Bool:=(decide (t7>=(24:Int)))|| (!t16.1)
   Zi ((t18=false->((decide (t7>(0:Int)))=true->(0<=(IntKind.i64.wrap (t7-1))/\(IntKind.i64.wrap (t7-1))<l0_1.length))))<|
   bif t18|| ((decide (t7>(0:Int)))&& (decide ((l0_1.getD (IntKind.i64.wrap (t7-1)).toNat Zn).1>=(t5.getD t7.toNat Zn).1)))then
    some (false,())
   else
    Vp N l0_1 t5 t6_1 (IntKind.i64.wrap (t7+1))
  else
   some (true,())
def Zdr(l0:List Zh):Option (Bool×Unit):=Vp (Zc6 l0 l0 (l0.length:Int) (0:Int)) l0 l0 (l0.length:Int) (0:Int)
def Zt2(c0:Ze8):Option (Bool×Unit):=(Zz c0.1 (0:Int) (1152921504606846976:Int)).bind fun t5=>(bif t5.1 then(Zz c0.2.1 (0:Int) c0.1)else some (false,())).bind fun t11=>(bif(t5.1&&t11.1)then(Zz c0.2.2.1 (-1:Int) c0.1)else some (false,())).bind fun t18=>some ((t5.1&&t11.1)&&t18.1,())
def Zp0(a0:Qr):Option (Bool×Unit):=(Zz a0.1 (0:Int) (1000:Int)).bind fun t5=>(bif t5.1 then(Zz a0.2.1 a0.1 (1152921504606846976:Int))else some (false,())).bind fun t11=>(bif(t5.1&&t11.1)then(Zz a0.2.2.1 (0:Int) a0.2.1)else some (false,())).bind fun t18=>(bif((t5.1&&t11.1)&&t18.1)then(Zz a0.2.2.2.1 (0:Int) a0.2.2.1)else some (false,())).bind fun t25=>some ((((t5.1&&t11.1)&&t18.1)&&t25.1)&& (decide (a0.2.1<=(IntKind.i64.wrap (a0.2.2.2.1+a0.1)))),())
def Zxa(kind0:Int):Option (List UInt8×Unit):=bif kind0==4 then some (([114,101,115,101,116]:List UInt8),()) else bif kind0==5 then some (([115,116,111,112]:List UInt8),()) else bif kind0==8 then some (([115,116,114,101,97,109]:List UInt8),()) else bif kind0==16 then some (([109,97,120,100,97,116,97]:List UInt8),()) else bif kind0==17 then some (([109,97,120,115,116,114,101,97,109,100,97,116,97]:List UInt8),()) else bif kind0==18 then some (([109,97,120,115,116,114,101,97,109,115]:List UInt8),()) else bif kind0==20 then some (([100,97,116,97,98,108,111,99,107,101,100]:List UInt8),()) else bif kind0==21 then some (([115,116,114,101,97,109,100,97,116,97,98,108,111,99,107,101,100]:List UInt8),()) else bif kind0==22 then some (([115,116,114,101,97,109,115,98,108,111,99,107,101,100]:List UInt8),()) else some (([]:List UInt8),())
abbrev Zyc:List PE:=[.val 5 (.bool) (.u false)]
def K6(t5:Bool):Option (Bool×Unit):=bif t5 then some (true,()) else some (false,())
def Zbg(f0:Zf):Option (Bool×Unit):=bif f0.1==4 then K6 (f0.1==4) else bif f0.1==5 then K6 (f0.1==5) else bif f0.1==8 then K6 (f0.1==8) else bif f0.1==17 then K6 (f0.1==17) else K6 (f0.1==21)
abbrev Qq9:List PE:=[.box 1 87 (Zu) (.u false),.box 2 87 (Zu) (.u false),.box 3 87 (Zu) (.u false),.val 41 (.bool) (.u false)]
def Zz6(f1_1:Zf)(t2_1:Zf)(out3_1:Zf)(t41:Bool):Option (Zf×Unit):=bif t41 then some ((out3_1.1,(out3_1.2.1,(out3_1.2.2.1,(out3_1.2.2.2.1,(out3_1.2.2.2.2.1,(out3_1.2.2.2.2.2.1,(f1_1.2.2.2.2.2.2.1,(out3_1.2.2.2.2.2.2.2.1,(f1_1.2.2.2.2.2.2.2.2.1,out3_1.2.2.2.2.2.2.2.2.2))))))))),()) else some ((out3_1.1,(out3_1.2.1,(out3_1.2.2.1,(out3_1.2.2.2.1,(out3_1.2.2.2.2.1,(out3_1.2.2.2.2.2.1,(f1_1.2.2.2.2.2.2.1,out3_1.2.2.2.2.2.2.2))))))),())
abbrev Qq8:List PE:=[.box 1 87 (Zu) (.u false),.box 2 87 (Zu) (.u false),.box 3 87 (Zu) (.u false)]
def Zz5(f1:Zf)(t2:Zf)(out3:Zf):Option (Zf×Unit):=bif f1.1==4 then some ((out3.1,(out3.2.1,(out3.2.2.1,(out3.2.2.2.1,(out3.2.2.2.2.1,(f1.2.2.2.2.2.1,(out3.2.2.2.2.2.2.1,(f1.2.2.2.2.2.2.2.1,out3.2.2.2.2.2.2.2.2)))))))),()) else bif f1.1==5 then some ((out3.1,(out3.2.1,(out3.2.2.1,(out3.2.2.2.1,(out3.2.2.2.2.1,(f1.2.2.2.2.2.1,out3.2.2.2.2.2.2)))))),()) else bif f1.1==8 then some ((out3.1,(out3.2.1,(f1.2.2.1,(f1.2.2.2.1,(f1.2.2.2.2.1,out3.2.2.2.2.2))))),()) else bif f1.1==18 then Zz6 f1 t2 out3 (f1.1==18) else Zz6 f1 t2 out3 (f1.1==22)
def Qh9(f0:Zf):Option (Zf×Unit):=(Zbg f0).bind fun t8=>bif t8.1 then Zz5 f0 Qq (f0.1,(f0.2.1,((0:Int),(([]:List UInt8),(false,((0:Int),((0:Int),((0:Int),(false,()))))))))) else Zz5 f0 Qq (f0.1,((0:Int),((0:Int),(([]:List UInt8),(false,((0:Int),((0:Int),((0:Int),(false,())))))))))
def Zmz(f0:Zf):Option (Bool×Unit):=
 (Zxa f0.1).bind fun t5=>
 (bif(t5.1==([]:List UInt8))then some (Qq,())else(Qh9 f0)).bind fun t10=>
 let t12:Bool:=(t5.1==([]:List UInt8))|| (!(eqV (Zu) f0 t10.1))
 (bif t12 then some (false,())else(Xo f0.2.1)).bind fun t16=>
 (bif(t12|| (!t16.1))then some (false,())else(Xo f0.2.2.1)).bind fun t22=>
 let t24:Bool:=(t12|| (!t16.1))|| (!t22.1)
 (bif t24 then some (false,())else(Xo f0.2.2.2.2.2.1)).bind fun t28=>
 (bif(t24|| (!t28.1))then some (false,())else(Xo f0.2.2.2.2.2.2.1)).bind fun t34=>
 let t36:Bool:=(t24|| (!t28.1))|| (!t34.1)
 (bif t36 then some (false,())else(Xo f0.2.2.2.2.2.2.2.1)).bind fun t40=>
 bif t36|| (!t40.1)then
  some (false,())
 else
  bif(f0.1==18)|| (f0.1==22)then
   some (decide (f0.2.2.2.2.2.2.1<=(1152921504606846976:Int)),())
  else
   some ((decide ((f0.2.2.2.1.length:Int)<=(400:Int)))&& (decide (f0.2.2.1<=(IntKind.i64.wrap ((4611686018427387903:Int)- (f0.2.2.2.1.length:Int))))),())
def Zp7(f0:Zf):Option (Bool×Unit):=(Zmz f0).bind fun t4=>some (!t4.1,())
abbrev Zaj:List PE:=[.val 0 (.slice 87 (Zu)) (.u false),.val 1 (.fnc 229) (.u false),.val 7 (.int .i64) (.u false),.val 8 (.int .i64) (.u false)]
def Q6(s0_1:List Zf)(f1:Unit)(t7_1:Int)(t8:Int):Nat:=(t7_1-t8).toNat+1
def Qc:Nat->List Zf->Unit->Int->Int->Option (Int×Unit)|0,_,_,_,_=>none|N+1,s0_1,f1,t7_1,t8=>bif decide (t8<t7_1)then Zi (0<=t8/\t8<s0_1.length)<|(Zp7 (s0_1.getD t8.toNat Qq)).bind fun t16=>bif t16.1 then some (t8,()) else Qc N s0_1 () t7_1 (IntKind.i64.wrap (t8+1)) else some ((-1:Int),())
def Xk(s0:List Zf):Option (Int×Unit):=Qc (Q6 s0 () (s0.length:Int) (0:Int)) s0 () (s0.length:Int) (0:Int)
def Qo(s0:List Zf):Option (Bool×Unit):=(Xk s0).bind fun t7=>some (decide (t7.1>=(0:Int)),())
abbrev Z32:List PE:=[.val 0 (.slice 59 (Yx)) (.u false),.val 1 (.int .i64) (.u false),.val 7 (.slice 59 (Yx)) (.u false),.val 8 (.int .i64) (.u false),.val 9 (.int .i64) (.u false)]
def Zig(l0_1:List Z8)(number1_1:Int)(t7:List Z8)(t8_1:Int)(t9:Int):Nat:=(t8_1-t9).toNat+1
def Zfg:Nat->List Z8->Int->List Z8->Int->Int->Option (Bool×Unit)
 |0,_,_,_,_,_=>none
 |N+1,l0_1,number1_1,t7,t8_1,t9=>
  bif decide (t9<t8_1)then
   Zi (0<=t9/\t9<t7.length)<|
   (Zz (t7.getD t9.toNat Qj).1 (0:Int) (IntKind.i64.wrap (number1_1-1))).bind fun t18=>
   Zi (((!t18.1)=false->((decide (t9>(0:Int)))=true->(0<=(IntKind.i64.wrap (t9-1))/\(IntKind.i64.wrap (t9-1))<l0_1.length))))<|
   let t34:Bool:=(!t18.1)|| ((decide (t9>(0:Int)))&& (decide ((l0_1.getD (IntKind.i64.wrap (t9-1)).toNat Qj).1>=(t7.getD t9.toNat Qj).1)))
   (bif t34 then some (false,())else(Qo (t7.getD t9.toNat Qj).2.1)).bind fun t38=>
   bif t34||t38.1 then
    some (false,())
   else
    Zfg N l0_1 number1_1 t7 t8_1 (IntKind.i64.wrap (t9+1))
  else
   some (true,())
def Zta(l0:List Z8)(number1:Int):Option (Bool×Unit):=Zfg (Zig l0 number1 l0 (l0.length:Int) (0:Int)) l0 number1 l0 (l0.length:Int) (0:Int)
def Zyf(s0:Zh):Option (Int×Unit):=some (s0.2.1.2.2.2.2.2.2.2.1,())
abbrev Zqb:List PE:=[.val 1 (.fnc 231) (.u false),.val 5 (.int .i64) (.u false),.val 11 (.slice 75 (Zy)) (.u false),.val 12 (.int .i64) (.u false),.val 13 (.int .i64) (.u false)]
def Xu(number1:Unit)(sum5:Int)(t11:List Zh)(t12_1:Int)(t13:Int):Nat:=(t12_1-t13).toNat+1
def Y4:Nat->Unit->Int->List Zh->Int->Int->Option (Int×Unit)|0,_,_,_,_,_=>none|N+1,number1,sum5,t11,t12_1,t13=>bif decide (t13<t12_1)then Zi (0<=t13/\t13<t11.length)<|(Zyf (t11.getD t13.toNat Zn)).bind fun t20=>Y4 N () (min (IntKind.i64.wrap (sum5+t20.1)) (4611686018427387904:Int)) t11 t12_1 (IntKind.i64.wrap (t13+1)) else some (sum5,())
def Zeg(l0:List Zh):Option (Int×Unit):=(Zdr l0).bind fun t9=>bif !t9.1 then some ((0:Int),()) else Y4 (Xu () (0:Int) l0 (l0.length:Int) (0:Int)) () (0:Int) l0 (l0.length:Int) (0:Int)
def Zp6(l0:List Zh):Option (Int×Unit):=(Zeg l0).bind fun t4=>some (t4.1,())
def Zye(s0:Zh):Option (Int×Unit):=some (s0.2.2.2.1.2.2.2.1,())
abbrev Zqa:List PE:=[.val 1 (.fnc 232) (.u false),.val 5 (.int .i64) (.u false),.val 11 (.slice 75 (Zy)) (.u false),.val 12 (.int .i64) (.u false),.val 13 (.int .i64) (.u false)]
def Vi(number1:Unit)(sum5:Int)(t11:List Zh)(t12_1:Int)(t13:Int):Nat:=(t12_1-t13).toNat+1
def Y3:Nat->Unit->Int->List Zh->Int->Int->Option (Int×Unit)|0,_,_,_,_,_=>none|N+1,number1,sum5,t11,t12_1,t13=>bif decide (t13<t12_1)then Zi (0<=t13/\t13<t11.length)<|(Zye (t11.getD t13.toNat Zn)).bind fun t20=>Y3 N () (min (IntKind.i64.wrap (sum5+t20.1)) (4611686018427387904:Int)) t11 t12_1 (IntKind.i64.wrap (t13+1)) else some (sum5,())
def Zef(l0:List Zh):Option (Int×Unit):=(Zdr l0).bind fun t9=>bif !t9.1 then some ((0:Int),()) else Y3 (Vi () (0:Int) l0 (l0.length:Int) (0:Int)) () (0:Int) l0 (l0.length:Int) (0:Int)
def Zp5(l0:List Zh):Option (Int×Unit):=(Zef l0).bind fun t4=>some (t4.1,())
def Zl5(c0:Ze):Option (Bool×Unit):=
 (Zsu c0.2.1).bind fun t6=>
 (bif(!t6.1)then some (false,())else(Zsu c0.2.2.1)).bind fun t11=>
 (bif((!t6.1)|| (!t11.1))then some (false,())else(Zdr c0.2.2.2.1)).bind fun t17=>
 let t19:Bool:=((!t6.1)|| (!t11.1))|| (!t17.1)
 (bif t19 then some (false,())else(Zb0 c0.2.2.2.2.1)).bind fun t23=>
 (bif(t19|| (!t23.1))then some (false,())else(Zny c0.2.2.2.2.2.1)).bind fun t29=>
 bif(t19|| (!t23.1))|| (!t29.1)then
  some (false,())
 else
  (Zt2 c0.2.2.2.2.2.2.1).bind fun t35=>
  (bif(!t35.1)then some (false,())else(Zt2 c0.2.2.2.2.2.2.2.1)).bind fun t40=>
  (bif((!t35.1)|| (!t40.1))then some (false,())else(Zp0 c0.2.2.2.2.2.2.2.2.1)).bind fun t46=>
  let t48:Bool:=((!t35.1)|| (!t40.1))|| (!t46.1)
  (bif t48 then some (false,())else(Zp0 c0.2.2.2.2.2.2.2.2.2.1)).bind fun t52=>
  bif t48|| (!t52.1)then
   some (false,())
  else
   (Zz c0.2.2.2.2.2.2.2.2.2.2.2.2.2.1 (-1:Int) (4611686018427387903:Int)).bind fun t58=>
   (bif(!t58.1)then some (false,())else(Zz c0.2.2.2.2.2.2.2.2.2.2.2.2.2.2.1 (0:Int) (1000000:Int))).bind fun t63=>
   (bif((!t58.1)|| (!t63.1))then some (false,())else(Zz c0.2.2.2.2.2.2.2.2.2.2.2.2.2.2.2.2.1 (0:Int) (1000000:Int))).bind fun t69=>
   let t71:Bool:=((!t58.1)|| (!t63.1))|| (!t69.1)
   (bif t71 then some (false,())else(Zz c0.2.2.2.2.2.2.2.2.2.2.2.2.2.2.2.2.2.1 (0:Int) (255:Int))).bind fun t75=>
   bif t71|| (!t75.1)then
    some (false,())
   else
    (Zta c0.2.2.2.2.2.2.2.2.2.2.2.2.2.2.2.1 c0.2.2.2.2.2.2.2.2.2.2.2.2.2.2.1).bind fun t82=>
    (bif t82.1 then(Zp6 c0.2.2.2.1)else some ((0:Int),())).bind fun t86=>
    (bif(t82.1&& (decide (t86.1<=c0.2.2.2.2.1.2.1)))then(Zp5 c0.2.2.2.1)else some ((0:Int),())).bind fun t95=>
    some ((t82.1&& (decide (t86.1<=c0.2.2.2.2.1.2.1)))&& (decide (t95.1<=c0.2.2.2.2.2.1.2.2.2.1)),())
def Z8x(c0:Ze):Option (Bool×Unit):=some (c0.2.2.2.2.2.2.2.2.2.2.2.2.2.2.2.2.2.1 !=0,())
def Zsw(c0:Ze):Option (Bool×Unit):=(Zl5 c0).bind fun t4=>(bif t4.1 then(Z8x c0)else some (false,())).bind fun t7=>some (t4.1&& (!t7.1),())
def Zp2(w0:Qt):Option (Bool×Unit):=
 (Zny w0).bind fun t4=>
 let t9:Bool:=t4.1&& (decide (w0.2.2.1< (4611686018427387903:Int)))
 Zi ((t9=true->((2:Int)≠0)))<|
 some (t9&& (decide ((IntKind.i64.wrap ((IntKind.i64.wrap (w0.2.2.2.2.1+w0.1))-w0.2.2.1))>=(IntKind.i64.wrap (Int.tdiv (IntKind.i64.wrap (w0.1+1)) (2:Int))))),())
abbrev Z1y:List PE:=[.val 1 (.int .i64) (.u false),.box 3 30 (Ks) (.u false),.box 6 30 (Ks) (.u false)]
def Znm(now1_1:Int)(w3:Qt)(t6:Qt):Option (Qt×Bool×Unit):=some ((w3.1,(w3.2.1,(min (IntKind.i64.wrap (w3.2.2.2.2.1+w3.1)) (4611686018427387903:Int),(w3.2.2.2.1,(w3.2.2.2.2.1,(now1_1,w3.2.2.2.2.2.2)))))),true,())
def Zif(w0:Qt)(now1:Int)(trip2:Int):Option (Qt×Bool×Unit):=(Zp2 w0).bind fun t9=>(bif(!t9.1)then some (false,())else(Zz now1 w0.2.2.2.2.2.1 (1000000:Int))).bind fun t15=>(bif((!t9.1)|| (!t15.1))then some (false,())else(Zz trip2 (1:Int) (1000:Int))).bind fun t20=>bif((!t9.1)|| (!t15.1))|| (!t20.1)then some (w0,false,()) else bif decide ((IntKind.i64.wrap (now1-w0.2.2.2.2.2.1))< (IntKind.i64.wrap ((2:Int)*trip2)))then Znm now1 (min (IntKind.i64.wrap ((2:Int)*w0.1)) w0.2.1,w0.2) Qgs else Znm now1 w0 Qgs
def Zcf(c0:Ze)(w1:Qt)(again2:Bool):Option (Int×Bool×Unit):=(Zp2 w1).bind fun t11=>bif !t11.1 then some (w1.2.2.1,again2,()) else (Zif w1 c0.2.2.2.2.2.2.2.2.2.2.2.2.2.2.2.2.1 c0.2.1.2.2.2.2.2.2.2.1).bind fun t23=>some (t23.1.2.2.1,t23.2.1,())
def Zl6(a0:Qr):Option (Bool×Unit):=(Zp0 a0).bind fun t4=>Zi (((t4.1&& (decide (a0.1>(0:Int))))=true->((2:Int)≠0)))<|some ((t4.1&& (decide (a0.1>(0:Int))))&& (decide ((IntKind.i64.wrap ((IntKind.i64.wrap (a0.2.2.2.1+a0.1))-a0.2.1))>=(IntKind.i64.wrap (Int.tdiv (IntKind.i64.wrap (a0.1+1)) (2:Int))))),())
def Zgj(a0:Qr):Option (Qr×Bool×Unit):=(Zl6 a0).bind fun t5=>bif(!t5.1)|| (decide ((IntKind.i64.wrap (a0.2.2.2.1+a0.1))>1152921504606846976))then some (a0,false,()) else some ((a0.1,(IntKind.i64.wrap (a0.2.2.2.1+a0.1),a0.2.2)),true,())
def Zmc(a0:Qr)(again1:Bool):Option (Int×Bool×Unit):=(Zl6 a0).bind fun t9=>bif !t9.1 then some (a0.2.1,again1,()) else (Zgj a0).bind fun t16=>some (t16.1.2.1,t16.2.1,())
def Qaq(r0:Qe):Option (Bool×Unit):=some ((r0.1==0)|| (r0.1==1),())
def Zxb(c0:Qr):Option (Bool×Unit):=(Zb0 c0).bind fun t4=>some (t4.1&& (c0.2.2.1==c0.1),())
abbrev Zt1:List PE:=[.box 3 75 (Zy) (.u false),.val 5 (.slice 87 (Zu)) (.u true)]
def Zas(s3_2:Zh)(out5_2:List Zf):Option (List Zf×Unit):=
 (Zxb s3_2.2.2.1).bind fun t70=>
 bif(t70.1&&s3_2.2.2.2.2.2.2.1)&& (decide ((s3_2.2.1.2.2.1.length:Int)>(0:Int)))then
  let t89:List Zf:=[((21:Int),(s3_2.1,((0:Int),(([]:List UInt8),(false,((0:Int),(s3_2.2.2.1.1,((0:Int),(false,())))))))))]
  Zi (out5_2.length+t89.length<=Qg)<|
  some (out5_2++t89,())
 else
  some (out5_2,())
abbrev Zt0:List PE:=[.box 2 37 (Zq) (.u false),.box 3 75 (Zy) (.u false),.val 5 (.slice 87 (Zu)) (.u true)]
def J7(c2_1:Ze)(s3_1:Zh)(out5_1:List Zf):Option (List Zf×Unit):=
 bif(s3_1.2.2.2.2.2.2.2.1&& (s3_1.2.2.2.1.1==0))&& (!s3_1.2.2.2.2.2.2.2.2.2.2.2.1)then
  (Zcf c2_1 s3_1.2.2.2.2.1 s3_1.2.2.2.2.2.2.2.2.2.2.1).bind fun t57=>
  bif t57.2.1 then
   let t66:List Zf:=[((17:Int),(s3_1.1,((0:Int),(([]:List UInt8),(false,((0:Int),(t57.1,((0:Int),(false,())))))))))]
   Zi (out5_1.length+t66.length<=Qg)<|
   Zas s3_1 (out5_1++t66)
  else
   Zas s3_1 out5_1
 else
  Zas s3_1 out5_1
abbrev Ztz:List PE:=[.box 2 37 (Zq) (.u false),.box 3 75 (Zy) (.u false),.val 5 (.slice 87 (Zu)) (.u true)]
def J6(c2:Ze)(s3:Zh)(out5:List Zf):Option (List Zf×Unit):=
 (bif s3.2.2.2.2.2.2.2.2.2.1 then(Qaq s3.2.2.2.1)else some (false,())).bind fun t28=>
 bif s3.2.2.2.2.2.2.2.2.2.1&&t28.1 then
  let t36:List Zf:=[((5:Int),(s3.1,((0:Int),(([]:List UInt8),(false,(s3.2.2.2.2.2.2.2.2.2.2.2.2.1,((0:Int),((0:Int),(false,())))))))))]
  Zi (out5.length+t36.length<=Qg)<|
  J7 c2 s3 (out5++t36)
 else
  J7 c2 s3 out5
def Zed(c0:Ze)(s1:Zh):Option (List Zf×Unit):=
 bif s1.2.2.2.2.2.2.2.2.1 then
  let t21:List Zf:=[((4:Int),(s1.1,((0:Int),(([]:List UInt8),(false,(s1.2.1.2.2.2.2.2.2.2.2.1,((0:Int),(s1.2.1.2.2.2.2.2.2.2.1,(false,())))))))))]
  Zi (([]:List Zf).length+t21.length<=Qg)<|
  J6 c0 s1 (([]:List Zf)++t21)
 else
  J6 c0 s1 ([]:List Zf)
abbrev Zx9:List PE:=[.box 1 37 (Zq) (.u false),.val 3 (.slice 87 (Zu)) (.u true)]
def Zk4(c1_5:Ze)(out3_5:List Zf):Option (List Zf×Unit):=
 bif c1_5.2.2.2.2.2.2.2.1.2.2.1==c1_5.2.2.2.2.2.2.2.1.1 then
  let t109:List Zf:=[((22:Int),((0:Int),((0:Int),(([]:List UInt8),(false,((0:Int),(c1_5.2.2.2.2.2.2.2.1.1,((0:Int),(true,())))))))))]
  Zi (out3_5.length+t109.length<=Qg)<|
  some (out3_5++t109,())
 else
  some (out3_5,())
abbrev Zx8:List PE:=[.box 1 37 (Zq) (.u false),.val 3 (.slice 87 (Zu)) (.u true)]
def Zk3(c1_4:Ze)(out3_4:List Zf):Option (List Zf×Unit):=
 bif c1_4.2.2.2.2.2.2.1.2.2.1==c1_4.2.2.2.2.2.2.1.1 then
  let t95:List Zf:=[((22:Int),((0:Int),((0:Int),(([]:List UInt8),(false,((0:Int),(c1_4.2.2.2.2.2.2.1.1,((0:Int),(false,())))))))))]
  Zi (out3_4.length+t95.length<=Qg)<|
  Zk4 c1_4 (out3_4++t95)
 else
  Zk4 c1_4 out3_4
abbrev Zya:List PE:=[.box 1 37 (Zq) (.u false),.val 3 (.slice 87 (Zu)) (.u true),.val 61 (.slice 75 (Zy)) (.u false),.val 62 (.int .i64) (.u false),.val 63 (.int .i64) (.u false)]
def Zl4(c1_3:Ze)(out3_3:List Zf)(t61:List Zh)(t62_1:Int)(t63:Int):Nat:=(t62_1-t63).toNat+1
def Za0:Nat->Ze->List Zf->List Zh->Int->Int->Option (List Zf×Unit)
 |0,_,_,_,_,_=>none
 |N+1,c1_3,out3_3,t61,t62_1,t63=>
  bif decide (t63<t62_1)then
   Zi (0<=t63/\t63<t61.length)<|
   (Zed c1_3 (t61.getD t63.toNat Zn)).bind fun t70=>
   Zi (out3_3.length+t70.1.length<=Qg)<|
   Za0 N c1_3 (out3_3++t70.1) t61 t62_1 (IntKind.i64.wrap (t63+1))
  else
   (Zxb c1_3.2.2.2.2.1).bind fun t75=>
   bif t75.1 then
    let t81:List Zf:=[((20:Int),((0:Int),((0:Int),(([]:List UInt8),(false,((0:Int),(c1_3.2.2.2.2.1.1,((0:Int),(false,())))))))))]
    Zi (out3_3.length+t81.length<=Qg)<|
    Zk3 c1_3 (out3_3++t81)
   else
    Zk3 c1_3 out3_3
abbrev Zx7:List PE:=[.box 1 37 (Zq) (.u false),.val 3 (.slice 87 (Zu)) (.u true)]
def Zaz(c1_2:Ze)(out3_2:List Zf):Option (List Zf×Unit):=Za0 (Zl4 c1_2 out3_2 c1_2.2.2.2.1 (c1_2.2.2.2.1.length:Int) (0:Int)) c1_2 out3_2 c1_2.2.2.2.1 (c1_2.2.2.2.1.length:Int) (0:Int)
abbrev Zx6:List PE:=[.box 1 37 (Zq) (.u false),.val 3 (.slice 87 (Zu)) (.u true)]
def Zay(c1_1:Ze)(out3_1:List Zf):Option (List Zf×Unit):=
 (Zmc c1_1.2.2.2.2.2.2.2.2.2.1 c1_1.2.2.2.2.2.2.2.2.2.2.2.2.1).bind fun t51=>
 bif t51.2.1 then
  let t58:List Zf:=[((18:Int),((0:Int),((0:Int),(([]:List UInt8),(false,((0:Int),(t51.1,((0:Int),(true,())))))))))]
  Zi (out3_1.length+t58.length<=Qg)<|
  Zaz c1_1 (out3_1++t58)
 else
  Zaz c1_1 out3_1
abbrev Zx5:List PE:=[.box 1 37 (Zq) (.u false),.val 3 (.slice 87 (Zu)) (.u true)]
def Zax(c1:Ze)(out3:List Zf):Option (List Zf×Unit):=
 (Zmc c1.2.2.2.2.2.2.2.2.1 c1.2.2.2.2.2.2.2.2.2.2.2.1).bind fun t37=>
 bif t37.2.1 then
  let t44:List Zf:=[((18:Int),((0:Int),((0:Int),(([]:List UInt8),(false,((0:Int),(t37.1,((0:Int),(false,())))))))))]
  Zi (out3.length+t44.length<=Qg)<|
  Zay c1 (out3++t44)
 else
  Zay c1 out3
def Zjg(c0:Ze):Option (List Zf×Unit):=
 (Zsw c0).bind fun t14=>
 bif !t14.1 then
  some (([]:List Zf),())
 else
  (Zcf c0 c0.2.2.2.2.2.1 c0.2.2.2.2.2.2.2.2.2.2.1).bind fun t23=>
  bif t23.2.1 then
   let t30:List Zf:=[((16:Int),((0:Int),((0:Int),(([]:List UInt8),(false,((0:Int),(t23.1,((0:Int),(false,())))))))))]
   Zi (([]:List Zf).length+t30.length<=Qg)<|
   Zax c0 (([]:List Zf)++t30)
  else
   Zax c0 ([]:List Zf)
def Yq(n0:Int):Option (List UInt8×Unit):=some (Jd ([(IntKind.u8.wrap n0)]),())
def Zr2(n0:Int):Option (Int×Unit):=(Xo n0).bind fun t5=>bif !t5.1 then some ((0:Int),()) else bif decide (n0< (64:Int))then some ((1:Int),()) else bif decide (n0< (16384:Int))then some ((2:Int),()) else bif decide (n0< (1073741824:Int))then some ((4:Int),()) else some ((8:Int),())
abbrev Z3y:List PE:=[.val 4 (.slice 5 (.int .u8)) (.u true)]
def Zbd(out4_2:List Int):Option (List UInt8×Unit):=some (Jd out4_2,())
abbrev Z3z:List PE:=[.val 0 (.int .i64) (.u false),.val 3 (.int .i64) (.u false),.val 4 (.slice 5 (.int .u8)) (.u true),.val 5 (.int .i64) (.u false)]
def Zh8(n0_1:Int)(size3:Int)(out4:List Int)(i5:Int):Nat:=(i5-0).toNat+2
def Zbe:Nat->Int->Int->List Int->Int->Option (List UInt8×Unit)|0,_,_,_,_=>none|N+1,n0_1,size3,out4,i5=>bif decide (i5>=(0:Int))then Zi (0<=i5/\i5<out4.length)<|Zi (0<=(8:Int))<|Zbe N (n0_1.fdiv (2^ (min (8:Int).toNat IntKind.i64.bits))) size3 (out4.set i5.toNat (IntKind.u8.wrap n0_1)) (IntKind.i64.wrap (i5-1)) else bif size3==2 then Zi (0<=(0:Int)/\(0:Int)<out4.length)<|Zi (0<=(0:Int)/\(0:Int)<out4.length)<|Zbd (out4.set (0:Int).toNat (bits .or .u8 (out4.getD (0:Int).toNat (0:Int)) (64:Int))) else bif size3==4 then Zi (0<=(0:Int)/\(0:Int)<out4.length)<|Zi (0<=(0:Int)/\(0:Int)<out4.length)<|Zbd (out4.set (0:Int).toNat (bits .or .u8 (out4.getD (0:Int).toNat (0:Int)) (128:Int))) else bif size3==8 then Zi (0<=(0:Int)/\(0:Int)<out4.length)<|Zi (0<=(0:Int)/\(0:Int)<out4.length)<|Zbd (out4.set (0:Int).toNat (bits .or .u8 (out4.getD (0:Int).toNat (0:Int)) (192:Int))) else Zbd out4
def Jw(n0:Int):Option (List UInt8×Unit):=(Zr2 n0).bind fun t7=>bif t7.1==0 then some (([]:List UInt8),()) else Zi (0<=t7.1/\t7.1<=t7.1/\t7.1<=Qg)<|Zbe (Zh8 n0 t7.1 (List.replicate t7.1.toNat (0:Int)) (IntKind.i64.wrap (t7.1-1))) n0 t7.1 (List.replicate t7.1.toNat (0:Int)) (IntKind.i64.wrap (t7.1-1))
abbrev Z1w:List PE:=[.val 3 (.str) (.u false),.val 6 (.slice 3 (.int .i64)) (.u false),.val 7 (.int .i64) (.u false),.val 8 (.int .i64) (.u false)]
def Zhj(out3_1:List UInt8)(t6:List Int)(t7_1:Int)(t8:Int):Nat:=(t7_1-t8).toNat+1
def Zd1:Nat->List UInt8->List Int->Int->Int->Option (List UInt8×Unit)|0,_,_,_,_=>none|N+1,out3_1,t6,t7_1,t8=>bif decide (t8<t7_1)then Zi (0<=t8/\t8<t6.length)<|(Xo (t6.getD t8.toNat (0:Int))).bind fun t13=>bif !t13.1 then some (([]:List UInt8),()) else (Jw (t6.getD t8.toNat (0:Int))).bind fun t17=>Zi (out3_1.length+t17.1.length<=Zf9)<|Zd1 N (out3_1++t17.1) t6 t7_1 (IntKind.i64.wrap (t8+1)) else some (out3_1,())
def Zbf(l0:List Int):Option (List UInt8×Unit):=Zd1 (Zhj ([]:List UInt8) l0 (l0.length:Int) (0:Int)) ([]:List UInt8) l0 (l0.length:Int) (0:Int)
def Zmb(holds0:Bool):Option (Int×Unit):=bif holds0 then some ((1:Int),()) else some ((0:Int),())
abbrev Z1t:List PE:=[.box 1 87 (Zu) (.u false),.val 4 (.str) (.u false)]
def Zd0(f1:Zf)(out4:List UInt8):Option (List UInt8×Unit):=(Jw (f1.2.2.2.1.length:Int)).bind fun t68=>Zi (out4.length+t68.1.length<=Zf9)<|Zi ((out4++t68.1).length+f1.2.2.2.1.length<=Zf9)<|some ((out4++t68.1)++f1.2.2.2.1,())
abbrev Z1v:List PE:=[.box 1 87 (Zu) (.u false),.val 3 (.fnc 173) (.u false),.val 84 (.bool) (.u false)]
def J9(f1_2:Zf)(kind3_1:Unit)(t84:Bool):Option (List UInt8×Unit):=bif t84 then Q3 1 ((Yq f1_2.1).bind fun t90=>(Zbf ([f1_2.2.1,f1_2.2.2.2.2.2.2.1])).bind fun t96=>Zi (t90.1.length+t96.1.length<=Zf9)<|some (t90.1++t96.1,())) else (Zmb f1_2.2.2.2.2.2.2.2.2.1).bind fun t103=>(Yq (IntKind.i64.wrap (f1_2.1+t103.1))).bind fun t105=>(Jw f1_2.2.2.2.2.2.2.1).bind fun t108=>Zi (t105.1.length+t108.1.length<=Zf9)<|some (t105.1++t108.1,())
abbrev Z1u:List PE:=[.box 1 87 (Zu) (.u false),.val 3 (.fnc 173) (.u false),.val 9 (.int .i64) (.u false),.val 73 (.bool) (.u false)]
def Y0(f1_1:Zf)(kind3:Unit)(t9:Int)(t73:Bool):Option (List UInt8×Unit):=bif t73 then (Yq f1_1.1).bind fun t79=>(Jw f1_1.2.2.2.2.2.2.1).bind fun t82=>Zi (t79.1.length+t82.1.length<=Zf9)<|some (t79.1++t82.1,()) else bif t9==17 then J9 f1_1 () (t9==17) else J9 f1_1 () (t9==21)
def Zh7(f0:Zf):Option (List UInt8×Unit):=(Zmz f0).bind fun t6=>bif !t6.1 then some (([]:List UInt8),()) else bif f0.1==4 then Q3 1 ((Yq f0.1).bind fun t15=>(Zbf ([f0.2.1,f0.2.2.2.2.2.1,f0.2.2.2.2.2.2.2.1])).bind fun t23=>Zi (t15.1.length+t23.1.length<=Zf9)<|some (t15.1++t23.1,())) else bif f0.1==5 then Q3 1 ((Yq f0.1).bind fun t30=>(Zbf ([f0.2.1,f0.2.2.2.2.2.1])).bind fun t36=>Zi (t30.1.length+t36.1.length<=Zf9)<|some (t30.1++t36.1,())) else bif f0.1==8 then (Zmb f0.2.2.2.2.1).bind fun t43=>(Zmb (f0.2.2.1 !=0)).bind fun t48=>(Yq (IntKind.i64.wrap ((IntKind.i64.wrap ((10:Int)+t43.1))+ (IntKind.i64.wrap ((4:Int)*t48.1))))).bind fun t51=>(Jw f0.2.1).bind fun t54=>Zi (t51.1.length+t54.1.length<=Zf9)<|bif f0.2.2.1 !=0 then (Jw f0.2.2.1).bind fun t62=>Zi ((t51.1++t54.1).length+t62.1.length<=Zf9)<|Zd0 f0 ((t51.1++t54.1)++t62.1) else Zd0 f0 (t51.1++t54.1) else bif f0.1==16 then Y0 f0 () f0.1 (f0.1==16) else Y0 f0 () f0.1 (f0.1==20)
def Zia(f0:Zf):Option (Int×Unit):=(Zh7 f0).bind fun t4=>some ((t4.1.length:Int),())
def Zv8(s0:Zh)(t1:Int):Option (Bool×Unit):=some (s0.1==t1,())
abbrev Wh:List PE:=[.val 0 (.slice 75 (Zy)) (.u false),.val 1 (.clo 118 (.pair (.sptr 3 (.int .i64)) (.unit))) (.u false),.val 7 (.int .i64) (.u false),.val 8 (.int .i64) (.u false)]
def Q0(s0_1:List Zh)(f1_1:Int×Unit)(t7_1:Int)(t8:Int):Nat:=(t7_1-t8).toNat+1
def Qb:Nat->List Zh->(Int×Unit)->Int->Int->Option (Int×Unit)|0,_,_,_,_=>none|N+1,s0_1,f1_1,t7_1,t8=>bif decide (t8<t7_1)then Zi (0<=t8/\t8<s0_1.length)<|(Zv8 (s0_1.getD t8.toNat Zn) f1_1.1).bind fun t16=>bif t16.1 then some (t8,()) else Qb N s0_1 f1_1 t7_1 (IntKind.i64.wrap (t8+1)) else some ((-1:Int),())
def Xf(s0:List Zh)(f1:Int×Unit):Option (Int×Unit):=Qb (Q0 s0 f1 (s0.length:Int) (0:Int)) s0 f1 (s0.length:Int) (0:Int)
def Jx(l0:List Zh)(id1:Int):Option (Int×Unit):=(Xf l0 (id1,())).bind fun t7=>some (t7.1,())
def Zlm(c0:Qr):Option (Qr×Unit):=(Zb0 c0).bind fun t4=>bif t4.1&& (c0.2.2.1 !=(-1:Int))then some ((c0.1,(c0.2.1,((-1:Int),(c0.2.2.1,c0.2.2.2.2)))),()) else some (c0,())
def Zo6(c0:Ze)(uni1:Bool):Option ((Bool)×(Ze×Unit)):=bif uni1 then some (true,(c0,())) else some (false,(c0,()))
end Go.Proofs.YtdhchdiikmnmeaaGreat

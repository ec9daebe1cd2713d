/- FnLines: what the functions that it reaches compute, as plain functions, part 1. No condition. -/
import Derived.Test.YtplcdmnbgcgdfaaGreatDoorRows
import Derived.Test.YtplcdmnbgcgdfaaGreatDoorAm5
import Derived.Test.YtplcdmnbgcgdfaaGreatDoorShelf
import Derived.Lib.AppendIntMem
import Derived.Lib.SplitLaws
import Derived.Lib.IndexMore
import Derived.Lib.Atoi
import Derived.Lib.AtoiBound
import Derived.Lib.Join
import Derived.Lib.ItoaNum
import Derived.Lib.ItoaLen
noncomputable section
namespace Go.Proofs.YtplcdmnbgcgdfaaGreatDoor
open Go.Am
set_option maxRecDepth 100000
set_option linter.unusedVariables false
abbrev Qx:Ty:= .pair (.int .i64) (.pair (.str) (.unit))
abbrev Z0:Type:=Int×List UInt8×Unit
def Qv:Z0:=((0:Int),(([]:List UInt8),()))
abbrev Jl:Ty:= .pair (.int .i64) (.pair (.bool) (.unit))
abbrev Xq:Type:=Int×Bool×Unit
def Xc4:Xq:=((0:Int),(false,()))
abbrev Zt:Ty:= .pair (.int .i64) (.pair (.int .i64) (.unit))
abbrev Ze:Type:=Int×Int×Unit
def Zz:Ze:=((0:Int),((0:Int),()))
abbrev Zls:Ty:= .pair (.int .i64) (Zt)
abbrev Zk2:Type:=Int×Ze
def Q3i:Zk2:=((0:Int),((0:Int),((0:Int),())))
abbrev Zbv:Ty:= .pair (.int .i64) (.pair (.str) (.pair (.bool) (.unit)))
abbrev Ku:Type:=Int×List UInt8×Bool×Unit
def Zrv:Ku:=((0:Int),(([]:List UInt8),(false,())))
abbrev Kp:Ty:= .pair (.slice 5 (.int .u8)) (Zt)
abbrev Qe:Type:=List Int×Ze
def Xes:Qe:=(([]:List Int),((0:Int),((0:Int),())))
abbrev X9:Ty:= .pair (.int .i64) (Zls)
abbrev K5:Type:=Int×Zk2
def Q3h:K5:=((0:Int),((0:Int),((0:Int),((0:Int),()))))
abbrev Vx:Ty:= .pair (.int .i64) (.pair (.int .i64) (Qx))
abbrev Jp:Type:=Int×Int×Z0
def Zxz:Jp:=((0:Int),((0:Int),((0:Int),(([]:List UInt8),()))))
abbrev Xi:Ty:= .pair (.int .i64) (.pair (Jl) (.unit))
abbrev Z1:Type:=Int×Xq×Unit
def Kw:Z1:=((0:Int),(((0:Int),(false,())),()))
abbrev Yh:Ty:= .pair (.int .i64) (.pair (.slice 317 (Qx)) (.unit))
abbrev Z4:Type:=Int×List Z0×Unit
def Q4q:Z4:=((0:Int),(([]:List Z0),()))
abbrev Zcz:Ty:= .pair (.int .i64) (.pair (.int .i64) (.pair (.int .i64) (.pair (.slice 3 (.int .i64)) (.unit))))
abbrev Kx:Type:=Int×Int×Int×List Int×Unit
def Q1k:Kx:=((0:Int),((0:Int),((0:Int),(([]:List Int),()))))
abbrev Vr:Ty:= .pair (.int .i64) (.pair (.int .i64) (X9))
abbrev Kn:Type:=Int×Int×K5
def Qy4:Kn:=((0:Int),((0:Int),((0:Int),((0:Int),((0:Int),((0:Int),()))))))
abbrev Wk:Ty:= .pair (.int .i64) (.pair (.bool) (.pair (.str) (.pair (.str) (.pair (.bool) (.pair (.bool) (.pair (.bool) (.unit)))))))
abbrev Xw:Type:=Int×Bool×List UInt8×List UInt8×Bool×Bool×Bool×Unit
def Zfc:Xw:=((0:Int),(false,(([]:List UInt8),(([]:List UInt8),(false,(false,(false,())))))))
abbrev Zru:Ty:= .pair (.int .i64) (.pair (.int .i64) (Vr))
abbrev Zqf:Type:=Int×Int×Kn
def Xev:Zqf:=((0:Int),((0:Int),((0:Int),((0:Int),((0:Int),((0:Int),((0:Int),((0:Int),()))))))))
abbrev Zu:Ty:= .pair (.int .i64) (.pair (.int .i64) (.pair (.int .i64) (.pair (.str) (.pair (.bool) (.pair (.int .i64) (.pair (.int .i64) (Jl)))))))
abbrev Zh:Type:=Int×Int×Int×List UInt8×Bool×Int×Int×Xq
def Xk:Zh:=((0:Int),((0:Int),((0:Int),(([]:List UInt8),(false,((0:Int),((0:Int),((0:Int),(false,())))))))))
abbrev Q8:Ty:= .pair (.int .i64) (.pair (Yh) (Zls))
abbrev Qo:Type:=Int×Z4×Zk2
def Z6c:Qo:=((0:Int),(((0:Int),(([]:List Z0),())),((0:Int),((0:Int),((0:Int),())))))
abbrev J3:Ty:= .pair (.int .i64) (.pair (.slice 106 (Zu)) (.unit))
abbrev Q2:Type:=Int×List Zh×Unit
def Qk:Q2:=((0:Int),(([]:List Zh),()))
abbrev Qc:Ty:= .pair (.int .i64) (.pair (Zcz) (.pair (.slice 195 (Zt)) (.pair (.slice 195 (Zt)) (.pair (.slice 195 (Zt)) (X9)))))
abbrev Zs:Type:=Int×Kx×List Ze×List Ze×List Ze×K5
def Zdt:Zs:=((0:Int),(((0:Int),((0:Int),((0:Int),(([]:List Int),())))),(([]:List Ze),(([]:List Ze),(([]:List Ze),((0:Int),((0:Int),((0:Int),((0:Int),())))))))))
abbrev Z2:Ty:= .pair (.int .i64) (.pair (Qc) (.pair (X9) (.pair (Q8) (.pair (Vr) (.pair (Jl) (.pair (.bool) (.pair (.bool) (.pair (.bool) (.pair (.bool) (.pair (.bool) (.pair (.bool) (Jl))))))))))))
abbrev Zp:Type:=Int×Zs×K5×Qo×Kn×Xq×Bool×Bool×Bool×Bool×Bool×Bool×Xq
def Zm:Zp:=((0:Int),(((0:Int),(((0:Int),((0:Int),((0:Int),(([]:List Int),())))),(([]:List Ze),(([]:List Ze),(([]:List Ze),((0:Int),((0:Int),((0:Int),((0:Int),()))))))))),(((0:Int),((0:Int),((0:Int),((0:Int),())))),(((0:Int),(((0:Int),(([]:List Z0),())),((0:Int),((0:Int),((0:Int),()))))),(((0:Int),((0:Int),((0:Int),((0:Int),((0:Int),((0:Int),())))))),(((0:Int),(false,())),(false,(false,(false,(false,(false,(false,((0:Int),(false,()))))))))))))))
abbrev Zl:Ty:= .pair (.bool) (.pair (Zru) (.pair (Zru) (.pair (.slice 88 (Z2)) (.pair (X9) (.pair (Vr) (.pair (Zls) (.pair (Zls) (.pair (X9) (.pair (X9) (.pair (.bool) (.pair (.bool) (.pair (.bool) (.pair (.int .i64) (.pair (.int .i64) (.pair (.slice 67 (J3)) (Zt))))))))))))))))
abbrev Zg:Type:=Bool×Zqf×Zqf×List Zp×K5×Kn×Zk2×Zk2×K5×K5×Bool×Bool×Bool×Int×Int×List Q2×Ze
def Km:Zg:=(false,(((0:Int),((0:Int),((0:Int),((0:Int),((0:Int),((0:Int),((0:Int),((0:Int),())))))))),(((0:Int),((0:Int),((0:Int),((0:Int),((0:Int),((0:Int),((0:Int),((0:Int),())))))))),(([]:List Zp),(((0:Int),((0:Int),((0:Int),((0:Int),())))),(((0:Int),((0:Int),((0:Int),((0:Int),((0:Int),((0:Int),())))))),(((0:Int),((0:Int),((0:Int),()))),(((0:Int),((0:Int),((0:Int),()))),(((0:Int),((0:Int),((0:Int),((0:Int),())))),(((0:Int),((0:Int),((0:Int),((0:Int),())))),(false,(false,(false,((0:Int),((0:Int),(([]:List Q2),((0:Int),((0:Int),()))))))))))))))))))
abbrev Qs:Ty:= .pair (Zl) (.pair (Zl) (.pair (.slice 127 (Qx)) (.pair (.slice 127 (Qx)) (.pair (.slice 44 (Wk)) (.unit)))))
abbrev Z7:Type:=Zg×Zg×List Z0×List Z0×List Xw×Unit
def Zdy:Z7:=((false,(((0:Int),((0:Int),((0:Int),((0:Int),((0:Int),((0:Int),((0:Int),((0:Int),())))))))),(((0:Int),((0:Int),((0:Int),((0:Int),((0:Int),((0:Int),((0:Int),((0:Int),())))))))),(([]:List Zp),(((0:Int),((0:Int),((0:Int),((0:Int),())))),(((0:Int),((0:Int),((0:Int),((0:Int),((0:Int),((0:Int),())))))),(((0:Int),((0:Int),((0:Int),()))),(((0:Int),((0:Int),((0:Int),()))),(((0:Int),((0:Int),((0:Int),((0:Int),())))),(((0:Int),((0:Int),((0:Int),((0:Int),())))),(false,(false,(false,((0:Int),((0:Int),(([]:List Q2),((0:Int),((0:Int),())))))))))))))))))),((false,(((0:Int),((0:Int),((0:Int),((0:Int),((0:Int),((0:Int),((0:Int),((0:Int),())))))))),(((0:Int),((0:Int),((0:Int),((0:Int),((0:Int),((0:Int),((0:Int),((0:Int),())))))))),(([]:List Zp),(((0:Int),((0:Int),((0:Int),((0:Int),())))),(((0:Int),((0:Int),((0:Int),((0:Int),((0:Int),((0:Int),())))))),(((0:Int),((0:Int),((0:Int),()))),(((0:Int),((0:Int),((0:Int),()))),(((0:Int),((0:Int),((0:Int),((0:Int),())))),(((0:Int),((0:Int),((0:Int),((0:Int),())))),(false,(false,(false,((0:Int),((0:Int),(([]:List Q2),((0:Int),((0:Int),())))))))))))))))))),(([]:List Z0),(([]:List Z0),(([]:List Xw),())))))
def Qsu(code0:List Int):Option (Bool×Unit):=
 some (decide ((code0.length:Int)>(1048576:Int)),())
abbrev Qo6:List PE:=[.val 0 (.slice 5 (.int .u8)) (.u false),.val 3 (.int .i64) (.u false),.val 4 (.int .i64) (.u false)]
def Zpx(code0_1:List Int)(h3:Int)(i4:Int):Nat:=((code0_1.length:Int)-i4).toNat+1
def Zoo:Nat→List Int→Int→Int→Option ((Qe)×(Unit))
 |0,_,_,_=>none
 |N+1,code0_1,h3,i4=>
  bif(decide (i4< (code0_1.length:Int)))&& (decide (i4< (4000:Int)))then
   Zc (0≤i4∧i4<code0_1.length)<|
   Zoo N code0_1 (bits .and .i64 (IntKind.i64.wrap ((IntKind.i64.wrap ((IntKind.i64.wrap (h3*131))+ (IntKind.i64.wrap (code0_1.getD i4.toNat (0:Int)))))+7)) (1073741823:Int)) (IntKind.i64.wrap (i4+1))
  else
   some ((code0_1,((0:Int),(h3,()))),())
def Zg2(code0:List Int):Option ((Qe)×(Unit)):=
 let t7:Int:=IntKind.i64.wrap ((10101:Int)+ (code0.length:Int))
 Zoo (Zpx code0 t7 (0:Int)) code0 t7 (0:Int)
def Zsb:Option (Zqf×Unit):=
 some (((16:Int),((8:Int),((32:Int),((16:Int),((64:Int),((2:Int),((2:Int),((4:Int),())))))))),())
def Zi6(c0:Qe):Option ((Int×Unit)×(Qe×Unit)):=
 let t10:Int:=IntKind.i64.wrap ((IntKind.i64.wrap (c0.2.2.1*6364136223846793005))+1442695040888963407)
 Zc (0≤(33:Int))<|
 Zc (0≤(45:Int))<|
 let t24:Int:=bits .and .i64 (bits .xor .i64 (t10.fdiv (2^ (min (33:Int).toNat IntKind.i64.bits))) (t10.fdiv (2^ (min (45:Int).toNat IntKind.i64.bits)))) (255:Int)
 bif decide (c0.2.1< (c0.1.length:Int))then
  Zc (0≤c0.2.1∧c0.2.1<c0.1.length)<|
  some ((bits .and .i64 (IntKind.i64.wrap (t24+ (IntKind.i64.wrap (c0.1.getD c0.2.1.toNat (0:Int))))) (255:Int),()),((c0.1,(IntKind.i64.wrap (c0.2.1+1),(t10,c0.2.2.2))),()))
 else
  some ((t24,()),((c0.1,(c0.2.1,(t10,c0.2.2.2))),()))
def Qa(c0:Qe)(n1:Int):Option ((Int×Unit)×(Qe×Unit)):=
 bif decide (n1≤(0:Int))then
  some (((0:Int),()),(c0,()))
 else
  bif decide (n1≤(256:Int))then
   (Zi6 c0).bind fun t14=>
   Zc (n1≠0)<|
   some ((Int.tmod t14.1.1 n1,()),(t14.2.1,()))
  else
   (Zi6 c0).bind fun t18=>
   (Zi6 t18.2.1).bind fun t20=>
   (Zi6 t20.2.1).bind fun t22=>
   (Zi6 t22.2.1).bind fun t24=>
   Zc (n1≠0)<|
   some ((Int.tmod (IntKind.i64.wrap ((IntKind.i64.wrap ((IntKind.i64.wrap ((IntKind.i64.wrap (t18.1.1*16777216))+ (IntKind.i64.wrap (t20.1.1*65536))))+ (IntKind.i64.wrap (t22.1.1*256))))+t24.1.1)) n1,()),(t24.2.1,()))
def Zdn(c0:Qe):Option ((Zqf×Unit)×(Qe×Unit)):=
 Option.bind Zsb fun t4=>
 (Qa c0 (3:Int)).bind fun t6=>
 bif t6.1.1==0 then
  some ((((8:Int),((4:Int),(t4.1.2.2.1,((6:Int),(t4.1.2.2.2.2.1,((1:Int),t4.1.2.2.2.2.2.2)))))),()),(t6.2.1,()))
 else
  bif t6.1.1==1 then
   some (((t4.1.1,(t4.1.2.1,(t4.1.2.2.1,(t4.1.2.2.2.1,(t4.1.2.2.2.2.1,((3:Int),((1:Int),((2:Int),t4.1.2.2.2.2.2.2.2.2)))))))),()),(t6.2.1,()))
  else
   some ((t4.1,()),(t6.2.1,()))
def Zbu(n0:Int):Option (Bool×Unit):=
 some (((decide (n0>(0:Int)))&& (decide (n0≤(64:Int))))&& ((bits .and .i64 n0 (IntKind.i64.wrap (n0-1)))==0),())
def Zx(x0:Int)(low1:Int)(high2:Int):Option (Bool×Unit):=
 some ((decide (x0≥low1))&& (decide (x0≤high2)),())
def Zb6(c0:Zqf):Option (Bool×Unit):=
 (Zbu c0.1).bind fun t5=>
 (bif t5.1 then(Zx c0.2.2.1 (1:Int) (4096:Int))else some (false,())).bind fun t9=>
 (bif(t5.1&&t9.1)then(Zx c0.2.1 (1:Int) c0.2.2.1)else some (false,())).bind fun t16=>
 (bif((t5.1&&t9.1)&&t16.1)then(Zx c0.2.2.2.2.1 (1:Int) (4096:Int))else some (false,())).bind fun t21=>
 let t22:Bool:=((t5.1&&t9.1)&&t16.1)&&t21.1
 (bif t22 then(Zx c0.2.2.2.1 (1:Int) c0.2.2.2.2.1)else some (false,())).bind fun t28=>
 (bif(t22&&t28.1)then(Zx c0.2.2.2.2.2.1 (0:Int) (1000:Int))else some (false,())).bind fun t33=>
 (bif((t22&&t28.1)&&t33.1)then(Zx c0.2.2.2.2.2.2.1 (0:Int) (1000:Int))else some (false,())).bind fun t38=>
 let t39:Bool:=((t22&&t28.1)&&t33.1)&&t38.1
 (bif t39 then(Zx c0.2.2.2.2.2.2.2.1 (1:Int) (1000:Int))else some (false,())).bind fun t43=>
 some (t39&&t43.1,())
def Qh(n0:Int):Option (Bool×Unit):=
 (Zx n0 (0:Int) (4611686018427387903:Int)).bind fun t4=>
 some (t4.1,())
def Zh8(limit0:Int):Option (K5×Bool×Unit):=
 (Qh limit0).bind fun t5=>
 bif !t5.1 then
  some (Q3h,false,())
 else
  some ((limit0,((0:Int),((-1:Int),((-1:Int),())))),true,())
def Zia(size0:Int)(most1:Int):Option (Kn×Bool×Unit):=
 (Zx most1 (1:Int) (4096:Int)).bind fun t7=>
 (bif(!t7.1)then some (false,())else(Zx size0 (1:Int) most1)).bind fun t12=>
 bif(!t7.1)|| (!t12.1)then
  some (Qy4,false,())
 else
  some ((size0,(most1,(size0,Q3i))),true,())
def Zsw(limit0:Int):Option (Zk2×Bool×Unit):=
 (Zx limit0 (0:Int) (1152921504606846976:Int)).bind fun t5=>
 bif !t5.1 then
  some (Q3i,false,())
 else
  some ((limit0,((0:Int),((-1:Int),()))),true,())
def Zsu(most0:Int):Option (K5×Bool×Unit):=
 (Zx most0 (0:Int) (1000:Int)).bind fun t5=>
 bif !t5.1 then
  some (Q3h,false,())
 else
  some ((most0,(most0,((0:Int),((0:Int),())))),true,())
def Zng(server0:Bool)(own1:Zqf)(peer2:Zqf):Option (Zg×Bool×Unit):=
 (Zb6 own1).bind fun t22=>
 (bif(!t22.1)then some (false,())else(Zb6 peer2)).bind fun t26=>
 bif(!t22.1)|| (!t26.1)then
  some (Km,false,())
 else
  (Zh8 peer2.2.2.2.1).bind fun t37=>
  (Zia own1.2.2.2.1 own1.2.2.2.2.1).bind fun t47=>
  (Zsw peer2.2.2.2.2.2.1).bind fun t55=>
  (Zsw peer2.2.2.2.2.2.2.1).bind fun t63=>
  (Zsu own1.2.2.2.2.2.1).bind fun t71=>
  (Zsu own1.2.2.2.2.2.2.1).bind fun t79=>
  some ((server0,(own1,(peer2,(([]:List Zp),(t37.1,(t47.1,(t55.1,(t63.1,(t71.1,(t79.1,(false,(false,(false,((-1:Int),((0:Int),(([]:List Q2),((0:Int),((0:Int),())))))))))))))))))),true,())
def Zu4(client0:Zqf)(server1:Zqf):Option (Z7×Bool×Unit):=
 (Zng false client0 server1).bind fun t13=>
 (Zng true server1 client0).bind fun t19=>
 bif(!t13.2.1)|| (!t19.2.1)then
  some (Zdy,false,())
 else
  some ((t13.1,(t19.1,(([]:List Z0),(([]:List Z0),(([]:List Xw),()))))),true,())
def Zp9(r0:Kx):Option (Kx×Unit):=
 Zc (([]:List Int).length+r0.2.2.2.1.length≤Qp)<|
 some ((r0.1,(r0.2.1,(r0.2.2.1,(([]:List Int)++r0.2.2.2.1,())))),())
def Zgx(l0:List Ze):Option (List Ze×Unit):=
 Zc (([]:List Ze).length+l0.length≤Qp)<|
 some (([]:List Ze)++l0,())
def Zcc(s0:Zs):Option (Zs×Unit):=
 (Zp9 s0.2.1).bind fun t7=>
 (Zgx s0.2.2.1).bind fun t10=>
 (Zgx s0.2.2.2.1).bind fun t13=>
 (Zgx s0.2.2.2.2.1).bind fun t16=>
 some ((s0.1,(t7.1,(t10.1,(t13.1,(t16.1,(s0.2.2.2.2.2.1,(s0.2.2.2.2.2.2.1,(s0.2.2.2.2.2.2.2.1,(s0.2.2.2.2.2.2.2.2.1,()))))))))),())
def Zja(b0:Z4):Option (Z4×Unit):=
 Zc (([]:List Z0).length+b0.2.1.length≤Qp)<|
 some ((b0.1,(([]:List Z0)++b0.2.1,())),())
def Zmy(r0:Qo):Option (Qo×Unit):=
 (Zja r0.2.1).bind fun t7=>
 some ((r0.1,(t7.1,(r0.2.2.1,(r0.2.2.2.1,(r0.2.2.2.2.1,()))))),())
def Zdo(s0:Zp):Option (Zp×Unit):=
 (Zcc s0.2.1).bind fun t7=>
 (Zmy s0.2.2.2.1).bind fun t11=>
 some ((s0.1,(t7.1,(s0.2.2.1,(t11.1,s0.2.2.2.2)))),())
abbrev Z5m:List PE:=[.val 0 (.slice 67 (J3)) (.u false),.val 3 (.slice 67 (J3)) (.u true),.val 4 (.int .i64) (.u false)]
def Zip(l0_1:List Q2)(out3:List Q2)(i4:Int):Nat:=((l0_1.length:Int)-i4).toNat+1
def Ze7:Nat→List Q2→List Q2→Int→Option (List Q2×Unit)
 |0,_,_,_=>none
 |N+1,l0_1,out3,i4=>
  bif decide (i4< (l0_1.length:Int))then
   Zc (0≤i4∧i4<l0_1.length)<|
   Zc (0≤i4∧i4<l0_1.length)<|
   Zc (([]:List Zh).length+ (l0_1.getD i4.toNat Qk).2.1.length≤Qp)<|
   let t26:List Q2:=[((l0_1.getD i4.toNat Qk).1,(([]:List Zh)++ (l0_1.getD i4.toNat Qk).2.1,()))]
   Zc (out3.length+t26.length≤Qp)<|
   Ze7 N l0_1 (out3++t26) (IntKind.i64.wrap (i4+1))
  else
   some (out3,())
def Zpc(l0:List Q2):Option (List Q2×Unit):=
 Ze7 (Zip l0 ([]:List Q2) (0:Int)) l0 ([]:List Q2) (0:Int)
abbrev Qge:List PE:=[.box 1 37 (Zl) (.u false),.box 2 37 (Zl) (.u true),.box 3 37 (Zl) (.p (.u false) (.p (.u false) (.p (.u false) (.p (.u true) (.u false))))),.val 4 (.int .i64) (.u false)]
def Zmo(c1:Zg)(t2:Zg)(x3:Zg)(i4:Int):Nat:=((c1.2.2.2.1.length:Int)-i4).toNat+1
def Zkj:Nat→Zg→Zg→Zg→Int→Option (Zg×Unit)
 |0,_,_,_,_=>none
 |N+1,c1,t2,x3,i4=>
  bif decide (i4< (c1.2.2.2.1.length:Int))then
   Zc (0≤i4∧i4<c1.2.2.2.1.length)<|
   (Zdo (c1.2.2.2.1.getD i4.toNat Zm)).bind fun t21=>
   Zc (x3.2.2.2.1.length+ ([t21.1]).length≤Qp)<|
   Zkj N c1 t2 (x3.1,(x3.2.1,(x3.2.2.1,(x3.2.2.2.1++ ([t21.1]),x3.2.2.2.2)))) (IntKind.i64.wrap (i4+1))
  else
   (Zpc c1.2.2.2.2.2.2.2.2.2.2.2.2.2.2.2.1).bind fun t30=>
   some ((x3.1,(x3.2.1,(x3.2.2.1,(x3.2.2.2.1,(x3.2.2.2.2.1,(x3.2.2.2.2.2.1,(x3.2.2.2.2.2.2.1,(x3.2.2.2.2.2.2.2.1,(x3.2.2.2.2.2.2.2.2.1,(x3.2.2.2.2.2.2.2.2.2.1,(x3.2.2.2.2.2.2.2.2.2.2.1,(x3.2.2.2.2.2.2.2.2.2.2.2.1,(x3.2.2.2.2.2.2.2.2.2.2.2.2.1,(x3.2.2.2.2.2.2.2.2.2.2.2.2.2.1,(x3.2.2.2.2.2.2.2.2.2.2.2.2.2.2.1,(t30.1,x3.2.2.2.2.2.2.2.2.2.2.2.2.2.2.2.2)))))))))))))))),())
def Zy(c0:Zg):Option (Zg×Unit):=
 Zkj (Zmo c0 Km (c0.1,(c0.2.1,(c0.2.2.1,(([]:List Zp),c0.2.2.2.2)))) (0:Int)) c0 Km (c0.1,(c0.2.1,(c0.2.2.1,(([]:List Zp),c0.2.2.2.2)))) (0:Int)
def Yx(l0:List Z0):Option (List Z0×Unit):=
 Zc (([]:List Z0).length+l0.length≤Qp)<|
 some (([]:List Z0)++l0,())
def Zdq(p0:Z7):Option (Z7×Unit):=
 Z6 (
  (Zy p0.1).bind fun t5=>
  Z6 (
   (Zy p0.2.1).bind fun t8=>
   Z6 (
    (Yx p0.2.2.1).bind fun t11=>
    Qm 1 (
     (Yx p0.2.2.2.1).bind fun t14=>
     Zc (([]:List Xw).length+p0.2.2.2.2.1.length≤Qp)<|
     some ((t5.1,(t8.1,(t11.1,(t14.1,(([]:List Xw)++p0.2.2.2.2.1,()))))),())
    )
   ) (
    (Yx p0.2.2.1).bind fun t11=>
    (Yx p0.2.2.2.1).bind fun t14=>
    Zc (([]:List Xw).length+p0.2.2.2.2.1.length≤Qp)<|
    some ((t5.1,(t8.1,(t11.1,(t14.1,(([]:List Xw)++p0.2.2.2.2.1,()))))),())
   )
  ) (
   (Zy p0.2.1).bind fun t8=>
   (Yx p0.2.2.1).bind fun t11=>
   (Yx p0.2.2.2.1).bind fun t14=>
   Zc (([]:List Xw).length+p0.2.2.2.2.1.length≤Qp)<|
   some ((t5.1,(t8.1,(t11.1,(t14.1,(([]:List Xw)++p0.2.2.2.2.1,()))))),())
  )
 ) (
  (Zy p0.1).bind fun t5=>
  (Zy p0.2.1).bind fun t8=>
  (Yx p0.2.2.1).bind fun t11=>
  (Yx p0.2.2.2.1).bind fun t14=>
  Zc (([]:List Xw).length+p0.2.2.2.2.1.length≤Qp)<|
  some ((t5.1,(t8.1,(t11.1,(t14.1,(([]:List Xw)++p0.2.2.2.2.1,()))))),())
 )
abbrev Qku:List PE:=[.box 1 76 (Zcz) (.u false),.val 3 (.int .i64) (.u false)]
def Zaa(r1:Kx)(i3:Int):Nat:=((r1.2.2.2.1.length:Int)-i3).toNat+1
def Zet:Nat→Kx→Int→Option (Bool×Unit)
 |0,_,_=>none
 |N+1,r1,i3=>
  bif decide (i3< (r1.2.2.2.1.length:Int))then
   Zc (0≤i3∧i3<r1.2.2.2.1.length)<|
   (Zx (r1.2.2.2.1.getD i3.toNat (0:Int)) (0:Int) (255:Int)).bind fun t55=>
   bif !t55.1 then
    some (false,())
   else
    Zet N r1 (IntKind.i64.wrap (i3+1))
  else
   some (true,())
def Zb7(r0:Kx):Option (Bool×Unit):=
 (Zbu r0.1).bind fun t6=>
 bif(((((!t6.1)|| ((r0.2.2.2.1.length:Int) !=r0.1))|| (decide (r0.2.1< (0:Int))))|| (decide (r0.2.2.1<r0.2.1)))|| (decide ((IntKind.i64.wrap (r0.2.2.1-r0.2.1))>r0.1)))|| (decide (r0.2.2.1>(4611686018427387903:Int)))then
  some (false,())
 else
  Zet (Zaa r0 (0:Int)) r0 (0:Int)
def Ztq(r0:Ze):Option (Bool×Unit):=
 some (((decide (r0.1≥(0:Int)))&& (decide (r0.1<r0.2.1)))&& (decide (r0.2.1≤(4611686018427387903:Int))),())
abbrev Qb2:List PE:=[.val 0 (.slice 195 (Zt)) (.u false),.val 3 (.int .i64) (.u false)]
def Za5(l0_1:List Ze)(i3:Int):Nat:=((l0_1.length:Int)-i3).toNat+1
def Wi:Nat→List Ze→Int→Option (Bool×Unit)
 |0,_,_=>none
 |N+1,l0_1,i3=>
  bif decide (i3< (l0_1.length:Int))then
   Zc (0≤i3∧i3<l0_1.length)<|
   (Ztq (l0_1.getD i3.toNat Zz)).bind fun t14=>
   Zc (((!t14.1)=false→((decide (i3>(0:Int)))=true→(0≤(IntKind.i64.wrap (i3-1))∧(IntKind.i64.wrap (i3-1))<l0_1.length))))<|
   Zc (((!t14.1)=false→((decide (i3>(0:Int)))=true→(0≤i3∧i3<l0_1.length))))<|
   bif(!t14.1)|| ((decide (i3>(0:Int)))&& (decide ((l0_1.getD (IntKind.i64.wrap (i3-1)).toNat Zz).2.1≥(l0_1.getD i3.toNat Zz).1)))then
    some (false,())
   else
    Wi N l0_1 (IntKind.i64.wrap (i3+1))
  else
   some (true,())
def Y7(l0:List Ze):Option (Bool×Unit):=
 Wi (Za5 l0 (0:Int)) l0 (0:Int)
abbrev Qbv:List PE:=[.val 0 (.slice 195 (Zt)) (.u false),.box 3 195 (Zt) (.u false),.val 5 (.slice 195 (Zt)) (.u true),.val 6 (.bool) (.u false),.val 7 (.int .i64) (.u false)]
def We(K1: (List Ze×Ze×List Ze×Bool×Int×Unit)→Option (List Ze×Unit))(l0_2:List Ze)(r3_1:Ze)(out5_1:List Ze)(placed6_1:Bool)(i7_1:Int):Option (List Ze×Unit):=
 K1 (l0_2,r3_1,out5_1,placed6_1,IntKind.i64.wrap (i7_1+1),())
abbrev Qbw:List PE:=[.val 0 (.slice 195 (Zt)) (.u false),.box 3 195 (Zt) (.u false),.val 5 (.slice 195 (Zt)) (.u true),.val 6 (.bool) (.u false),.val 7 (.int .i64) (.u false)]
def Zhy(K1: (List Ze×Ze×List Ze×Bool×Int×Unit)→Option (List Ze×Unit))(l0_3:List Ze)(r3_2:Ze)(out5_2:List Ze)(placed6_2:Bool)(i7_2:Int):Option (List Ze×Unit):=
 Zc (0≤i7_2∧i7_2<l0_3.length)<|
 Zc (out5_2.length+ ([(l0_3.getD i7_2.toNat Zz)]).length≤Qp)<|
 We K1 l0_3 r3_2 (out5_2++ ([(l0_3.getD i7_2.toNat Zz)])) placed6_2 i7_2
abbrev Qbx:List PE:=[.val 0 (.slice 195 (Zt)) (.u false),.box 3 195 (Zt) (.u false),.val 5 (.slice 195 (Zt)) (.u true),.val 6 (.bool) (.u false),.val 7 (.int .i64) (.u false)]
def Zfi(l0_1:List Ze)(r3:Ze)(out5:List Ze)(placed6:Bool)(i7:Int):Nat:=((l0_1.length:Int)-i7).toNat+1
def Yj:Nat→List Ze→Ze→List Ze→Bool→Int→Option (List Ze×Unit)
 |0,_,_,_,_,_=>none
 |N+1,l0_1,r3,out5,placed6,i7=>
  bif decide (i7< (l0_1.length:Int))then
   Zc (0≤i7∧i7<l0_1.length)<|
   bif decide ((l0_1.getD i7.toNat Zz).2.1<r3.1)then
    Zc (0≤i7∧i7<l0_1.length)<|
    Zc (out5.length+ ([(l0_1.getD i7.toNat Zz)]).length≤Qp)<|
    We (fun v=>Yj N v.1 v.2.1 v.2.2.1 v.2.2.2.1 v.2.2.2.2.1) l0_1 r3 (out5++ ([(l0_1.getD i7.toNat Zz)])) placed6 i7
   else
    Zc (0≤i7∧i7<l0_1.length)<|
    bif decide ((l0_1.getD i7.toNat Zz).1>r3.2.1)then
     bif !placed6 then
      Zc (out5.length+ ([r3]).length≤Qp)<|
      Zhy (fun v=>Yj N v.1 v.2.1 v.2.2.1 v.2.2.2.1 v.2.2.2.2.1) l0_1 r3 (out5++ ([r3])) true i7
     else
      Zhy (fun v=>Yj N v.1 v.2.1 v.2.2.1 v.2.2.2.1 v.2.2.2.2.1) l0_1 r3 out5 placed6 i7
    else
     Zc (0≤i7∧i7<l0_1.length)<|
     Zc (0≤i7∧i7<l0_1.length)<|
     We (fun v=>Yj N v.1 v.2.1 v.2.2.1 v.2.2.2.1 v.2.2.2.2.1) l0_1 (min r3.1 (l0_1.getD i7.toNat Zz).1,(max r3.2.1 (l0_1.getD i7.toNat Zz).2.1,r3.2.2)) out5 placed6 i7
  else
   bif !placed6 then
    Zc (out5.length+ ([r3]).length≤Qp)<|
    some (out5++ ([r3]),())
   else
    some (out5,())
def Jm(l0:List Ze)(r1:Ze):Option (List Ze×Unit):=
 (Y7 l0).bind fun t9=>
 (bif(!t9.1)then some (false,())else(Ztq r1)).bind fun t13=>
 bif(!t9.1)|| (!t13.1)then
  (Zgx l0).bind fun t17=>
  some (t17.1,())
 else
  Yj (Zfi l0 r1 ([]:List Ze) false (0:Int)) l0 r1 ([]:List Ze) false (0:Int)
abbrev Z0t:List PE:=[.val 0 (.slice 195 (Zt)) (.u false),.val 3 (.int .i64) (.u false),.val 4 (.int .i64) (.u false)]
def Zat(l0_1:List Ze)(n3:Int)(i4:Int):Nat:=((l0_1.length:Int)-i4).toNat+1
def Ka:Nat→List Ze→Int→Int→Option (Int×Unit)
 |0,_,_,_=>none
 |N+1,l0_1,n3,i4=>
  bif decide (i4< (l0_1.length:Int))then
   Zc (0≤i4∧i4<l0_1.length)<|
   Zc (0≤i4∧i4<l0_1.length)<|
   Ka N l0_1 (IntKind.i64.wrap ((IntKind.i64.wrap (n3+ (l0_1.getD i4.toNat Zz).2.1))- (l0_1.getD i4.toNat Zz).1)) (IntKind.i64.wrap (i4+1))
  else
   some (n3,())
def Kz(l0:List Ze):Option (Int×Unit):=
 (Y7 l0).bind fun t6=>
 bif !t6.1 then
  some ((-1:Int),())
 else
  Ka (Zat l0 (0:Int) (0:Int)) l0 (0:Int) (0:Int)
abbrev Qbz:List PE:=[.val 0 (.slice 195 (Zt)) (.u false),.val 1 (.int .i64) (.u false),.val 5 (.int .i64) (.u false)]
def Zh4(K1: (List Ze×Int×Int×Unit)→Option (Int×Unit))(l0_2:List Ze)(from1_2:Int)(i5_1:Int):Option (Int×Unit):=
 K1 (l0_2,from1_2,IntKind.i64.wrap (i5_1+1),())
abbrev Qb0:List PE:=[.val 0 (.slice 195 (Zt)) (.u false),.val 1 (.int .i64) (.u false),.val 5 (.int .i64) (.u false)]
def Zk8(l0_1:List Ze)(from1_1:Int)(i5:Int):Nat:=((l0_1.length:Int)-i5).toNat+1
def Jt:Nat→List Ze→Int→Int→Option (Int×Unit)
 |0,_,_,_=>none
 |N+1,l0_1,from1_1,i5=>
  bif decide (i5< (l0_1.length:Int))then
   Zc (0≤i5∧i5<l0_1.length)<|
   let t25:Bool:=decide (from1_1≥(l0_1.getD i5.toNat Zz).1)
   Zc ((t25=true→(0≤i5∧i5<l0_1.length)))<|
   bif t25&& (decide (from1_1< (l0_1.getD i5.toNat Zz).2.1))then
    Zc (0≤i5∧i5<l0_1.length)<|
    Zh4 (fun v=>Jt N v.1 v.2.1 v.2.2.1) l0_1 (l0_1.getD i5.toNat Zz).2.1 i5
   else
    Zh4 (fun v=>Jt N v.1 v.2.1 v.2.2.1) l0_1 from1_1 i5
  else
   some (from1_1,())
def Zg1(l0:List Ze)(from1:Int):Option (Int×Unit):=
 (Y7 l0).bind fun t7=>
 bif(!t7.1)|| (decide (from1< (0:Int)))then
  some ((-1:Int),())
 else
  Jt (Zk8 l0 from1 (0:Int)) l0 from1 (0:Int)
def Vw(s0:Zs):Option (Int×Unit):=
 bif(s0.2.2.2.2.2.2.1==3)&& (s0.2.1.2.1==s0.2.1.2.2.1)then
  some ((3:Int),())
 else
  bif(decide (s0.2.2.2.2.2.2.1>(1:Int)))|| ((s0.2.2.2.2.2.2.1==1)&& (s0.1==2))then
   some ((2:Int),())
  else
   bif(decide (s0.2.2.2.2.2.2.2.1>(0:Int)))|| ((s0.2.2.2.2.2.2.1==1)&& (s0.1==1))then
    some ((1:Int),())
   else
    some ((0:Int),())
abbrev Qb6:List PE:=[.box 1 79 (Qc) (.u false),.val 8 (.int .i64) (.u false)]
def Zfk(s1_3:Zs)(i8:Int):Nat:=((s1_3.2.2.2.2.1.length:Int)-i8).toNat+1
def Jz:Nat→Zs→Int→Option (Bool×Unit)
 |0,_,_=>none
 |N+1,s1_3,i8=>
  bif decide (i8< (s1_3.2.2.2.2.1.length:Int))then
   Zc (0≤i8∧i8<s1_3.2.2.2.2.1.length)<|
   bif decide ((s1_3.2.2.2.2.1.getD i8.toNat Zz).2.1>s1_3.2.2.2.2.2.2.2.1)then
    some (false,())
   else
    Jz N s1_3 (IntKind.i64.wrap (i8+1))
  else
   bif(!((s1_3.2.2.2.2.2.2.1==0)==(s1_3.2.2.2.2.2.1==(-1:Int))))|| ((s1_3.2.2.2.2.2.1 !=(-1:Int))&& (s1_3.2.2.2.2.2.1 !=s1_3.2.1.2.2.1))then
    some (false,())
   else
    (Vw s1_3).bind fun t244=>
    some (s1_3.1==t244.1,())
abbrev Qb5:List PE:=[.box 1 79 (Qc) (.u false),.val 7 (.int .i64) (.u false)]
def Za7(s1_2:Zs)(i7:Int):Nat:=((s1_2.2.2.2.1.length:Int)-i7).toNat+1
def Jy:Nat→Zs→Int→Option (Bool×Unit)
 |0,_,_=>none
 |N+1,s1_2,i7=>
  bif decide (i7< (s1_2.2.2.2.1.length:Int))then
   Zc (0≤i7∧i7<s1_2.2.2.2.1.length)<|
   bif decide ((s1_2.2.2.2.1.getD i7.toNat Zz).2.1>s1_2.2.2.2.2.2.2.2.1)then
    some (false,())
   else
    Jy N s1_2 (IntKind.i64.wrap (i7+1))
  else
   Jz (Zfk s1_2 (0:Int)) s1_2 (0:Int)
abbrev Qb4:List PE:=[.box 1 79 (Qc) (.u false),.val 3 (.slice 195 (Zt)) (.u false),.val 5 (.int .i64) (.u false)]
def Za6(s1_1:Zs)(all3_1:List Ze)(i5:Int):Nat:=((s1_1.2.2.2.2.1.length:Int)-i5).toNat+1
def Jx:Nat→Zs→List Ze→Int→Option (Bool×Unit)
 |0,_,_,_=>none
 |N+1,s1_1,all3_1,i5=>
  bif decide (i5< (s1_1.2.2.2.2.1.length:Int))then
   Zc (0≤i5∧i5<s1_1.2.2.2.2.1.length)<|
   (Jm all3_1 (s1_1.2.2.2.2.1.getD i5.toNat Zz)).bind fun t134=>
   Jx N s1_1 t134.1 (IntKind.i64.wrap (i5+1))
  else
   (Kz s1_1.2.2.1).bind fun t137=>
   (Kz s1_1.2.2.2.1).bind fun t140=>
   (Kz s1_1.2.2.2.2.1).bind fun t144=>
   (Kz all3_1).bind fun t147=>
   let t158:Bool:=(t147.1 !=s1_1.2.1.2.2.1)|| ((IntKind.i64.wrap ((IntKind.i64.wrap (t137.1+t140.1))+t144.1)) !=s1_1.2.1.2.2.1)
   Zc ((t158=false→((decide (s1_1.2.1.2.2.1>(0:Int)))=true→(0≤(0:Int)∧(0:Int)<all3_1.length))))<|
   let t174:Bool:=t158|| ((decide (s1_1.2.1.2.2.1>(0:Int)))&& ((all3_1.getD (0:Int).toNat Zz).2.1 !=s1_1.2.1.2.2.1))
   (bif t174 then some ((0:Int),())else(Zg1 s1_1.2.2.2.2.1 (0:Int))).bind fun t178=>
   bif(t174|| (t178.1 !=s1_1.2.1.2.1))|| (s1_1.2.2.2.2.2.2.2.2.1 !=0)then
    some (false,())
   else
    Jy (Za7 s1_1 (0:Int)) s1_1 (0:Int)
abbrev Qb3:List PE:=[.box 1 79 (Qc) (.u false),.val 3 (.slice 195 (Zt)) (.u false),.val 4 (.int .i64) (.u false)]
def Vi(s1:Zs)(all3:List Ze)(i4:Int):Nat:=((s1.2.2.2.1.length:Int)-i4).toNat+1
def Jw:Nat→Zs→List Ze→Int→Option (Bool×Unit)
 |0,_,_,_=>none
 |N+1,s1,all3,i4=>
  bif decide (i4< (s1.2.2.2.1.length:Int))then
   Zc (0≤i4∧i4<s1.2.2.2.1.length)<|
   (Jm all3 (s1.2.2.2.1.getD i4.toNat Zz)).bind fun t120=>
   Jw N s1 t120.1 (IntKind.i64.wrap (i4+1))
  else
   Jx (Za6 s1 all3 (0:Int)) s1 all3 (0:Int)
def Yg(s0:Zs):Option (Bool×Unit):=
 (Zb7 s0.2.1).bind fun t11=>
 (bif(!t11.1)then some (false,())else(Y7 s0.2.2.1)).bind fun t16=>
 (bif((!t11.1)|| (!t16.1))then some (false,())else(Y7 s0.2.2.2.1)).bind fun t22=>
 let t24:Bool:=((!t11.1)|| (!t16.1))|| (!t22.1)
 (bif t24 then some (false,())else(Y7 s0.2.2.2.2.1)).bind fun t28=>
 (bif(t24|| (!t28.1))then some (false,())else(Zx s0.2.2.2.2.2.2.2.1 (0:Int) s0.2.1.2.2.1)).bind fun t37=>
 let t39:Bool:=(t24|| (!t28.1))|| (!t37.1)
 (bif t39 then some (false,())else(Qh s0.2.2.2.2.2.2.2.2.1)).bind fun t43=>
 (bif(t39|| (!t43.1))then some (false,())else(Zx s0.2.2.2.2.2.2.1 (0:Int) (3:Int))).bind fun t49=>
 bif(t39|| (!t43.1))|| (!t49.1)then
  some (false,())
 else
  bif(s0.1==4)|| (s0.1==5)then
   some (((((((s0.2.1.2.1==s0.2.1.2.2.1)&& ((s0.2.2.1.length:Int)==(0:Int)))&& ((s0.2.2.2.1.length:Int)==(0:Int)))&& ((s0.2.2.2.2.1.length:Int)==(0:Int)))&& (s0.2.2.2.2.2.1==s0.2.2.2.2.2.2.2.1))&& (s0.2.2.2.2.2.2.1==0))&& (s0.2.2.2.2.2.2.2.1==s0.2.1.2.2.1),())
  else
   Jw (Vi s0 s0.2.2.1 (0:Int)) s0 s0.2.2.1 (0:Int)
def Y6(c0:K5):Option (Bool×Unit):=
 (Qh c0.1).bind fun t5=>
 (bif t5.1 then(Zx c0.2.1 (0:Int) c0.1)else some (false,())).bind fun t11=>
 (bif(t5.1&&t11.1)then(Zx c0.2.2.1 (-1:Int) c0.1)else some (false,())).bind fun t18=>
 (bif((t5.1&&t11.1)&&t18.1)then(Zx c0.2.2.2.1 (-1:Int) c0.1)else some (false,())).bind fun t25=>
 some (((t5.1&&t11.1)&&t18.1)&&t25.1,())
abbrev Qb1:List PE:=[.box 1 82 (Yh) (.u false),.val 3 (.int .i64) (.u false),.val 4 (.int .i64) (.u false)]
def Zk9(b1:Z4)(end3:Int)(i4:Int):Nat:=((b1.2.1.length:Int)-i4).toNat+1
def Zd7:Nat→Z4→Int→Int→Option (Bool×Unit)
 |0,_,_,_=>none
 |N+1,b1,end3,i4=>
  bif decide (i4< (b1.2.1.length:Int))then
   Zc (0≤i4∧i4<b1.2.1.length)<|
   bif((decide ((b1.2.1.getD i4.toNat Qv).1≤end3))|| ((b1.2.1.getD i4.toNat Qv).2.1==([]:List UInt8)))|| (decide ((b1.2.1.getD i4.toNat Qv).1>(IntKind.i64.wrap ((4611686018427387903:Int)- ((b1.2.1.getD i4.toNat Qv).2.1.length:Int)))))then
    some (false,())
   else
    Zd7 N b1 (IntKind.i64.wrap ((b1.2.1.getD i4.toNat Qv).1+ ((b1.2.1.getD i4.toNat Qv).2.1.length:Int))) (IntKind.i64.wrap (i4+1))
  else
   (Qh b1.1).bind fun t47=>
   some (t47.1,())
def Zdx(b0:Z4):Option (Bool×Unit):=
 Zd7 (Zk9 b0 (IntKind.i64.wrap (b0.1-1)) (0:Int)) b0 (IntKind.i64.wrap (b0.1-1)) (0:Int)
def Zsd(b0:Z4):Option (Int×Unit):=
 (bif((b0.2.1.length:Int)==(0:Int))then some (false,())else(Zdx b0)).bind fun t10=>
 bif((b0.2.1.length:Int)==(0:Int))|| (!t10.1)then
  some (b0.1,())
 else
  let t20:Int:=IntKind.i64.wrap ((b0.2.1.length:Int)- (1:Int))
  Zc (0≤t20∧t20<b0.2.1.length)<|
  some (IntKind.i64.wrap ((b0.2.1.getD t20.toNat Qv).1+ ((b0.2.1.getD t20.toNat Qv).2.1.length:Int)),())
def Zak(b0:Z4):Option (Int×Unit):=
 (Zdx b0).bind fun t4=>
 let t11:Bool:=(!t4.1)|| ((b0.2.1.length:Int)==(0:Int))
 Zc ((t11=false→(0≤(0:Int)∧(0:Int)<b0.2.1.length)))<|
 bif t11|| ((b0.2.1.getD (0:Int).toNat Qv).1 !=b0.1)then
  some ((0:Int),())
 else
  Zc (0≤(0:Int)∧(0:Int)<b0.2.1.length)<|
  some (((b0.2.1.getD (0:Int).toNat Qv).2.1.length:Int),())
abbrev Z47:List PE:=[.box 1 84 (Q8) (.u false),.val 114 (.bool) (.u false)]
def Ke(r1:Qo)(t114:Bool):Option (Bool×Unit):=
 bif t114 then
  some (((r1.2.2.1 !=(-1:Int))&& (r1.2.2.2.1==r1.2.2.1))&& ((r1.2.1.2.1.length:Int)==(0:Int)),())
 else
  some (false,())
def Yk(r0:Qo):Option (Bool×Unit):=
 (Zdx r0.2.1).bind fun t6=>
 (bif(!t6.1)then some (false,())else(Qh r0.2.2.2.1)).bind fun t11=>
 (bif((!t6.1)|| (!t11.1))then some ((0:Int),())else(Zsd r0.2.1)).bind fun t17=>
 let t21:Bool:=((!t6.1)|| (!t11.1))|| (decide (t17.1>r0.2.2.2.1))
 (bif t21 then some (false,())else(Qh r0.2.2.2.2.1)).bind fun t25=>
 bif(((t21|| (!t25.1))|| ((r0.2.2.1 !=(-1:Int))&& (decide (r0.2.2.1<r0.2.2.2.1))))|| (decide (r0.2.2.1>(4611686018427387903:Int))))|| (decide (r0.2.2.1< (-1:Int)))then
  some (false,())
 else
  (bif(r0.2.2.1 !=(-1:Int))then(Zak r0.2.1)else some ((0:Int),())).bind fun t59=>
  let t64:Bool:=(r0.2.2.1 !=(-1:Int))&& ((IntKind.i64.wrap (r0.2.1.1+t59.1))==r0.2.2.1)
  bif r0.1==0 then
   some ((r0.2.2.1==(-1:Int))&& (r0.2.2.2.2.1==0),())
  else
   bif r0.1==1 then
    some (((r0.2.2.1 !=(-1:Int))&& (!t64))&& (r0.2.2.2.2.1==0),())
   else
    bif r0.1==2 then
     some (t64&& (r0.2.2.2.2.1==0),())
    else
     bif r0.1==3 then
      some ((t64&& ((r0.2.1.2.1.length:Int)==(0:Int)))&& (r0.2.2.2.2.1==0),())
     else
      bif r0.1==4 then
       Ke r0 (r0.1==4)
      else
       Ke r0 (r0.1==5)
def Jn(w0:Kn):Option (Bool×Unit):=
 (Zx w0.2.1 (1:Int) (4096:Int)).bind fun t5=>
 (bif t5.1 then(Zx w0.1 (1:Int) w0.2.1)else some (false,())).bind fun t11=>
 (bif(t5.1&&t11.1)then(Zx w0.2.2.1 (1:Int) (4611686018427387903:Int))else some (false,())).bind fun t16=>
 (bif((t5.1&&t11.1)&&t16.1)then(Zx w0.2.2.2.1 (0:Int) w0.2.2.1)else some (false,())).bind fun t23=>
 let t24:Bool:=((t5.1&&t11.1)&&t16.1)&&t23.1
 (bif t24 then(Zx w0.2.2.2.2.1 (0:Int) w0.2.2.2.1)else some (false,())).bind fun t30=>
 let t41:Bool:=(t24&&t30.1)&& (decide (w0.2.2.1≤(IntKind.i64.wrap (w0.2.2.2.2.1+w0.1))))
 (bif t41 then(Zx w0.2.2.2.2.2.1 (0:Int) (1000000:Int))else some (false,())).bind fun t45=>
 some (t41&&t45.1,())
def Zcx(p0:Xq):Option (Bool×Unit):=
 (Zx p0.1 (0:Int) (7:Int)).bind fun t5=>
 some (t5.1,())
def Vo(s0:Zp):Option (Bool×Unit):=
 (Qh s0.1).bind fun t5=>
 (bif(!t5.1)then some (false,())else(Yg s0.2.1)).bind fun t10=>
 (bif((!t5.1)|| (!t10.1))then some (false,())else(Y6 s0.2.2.1)).bind fun t16=>
 let t18:Bool:=((!t5.1)|| (!t10.1))|| (!t16.1)
 (bif t18 then some (false,())else(Yk s0.2.2.2.1)).bind fun t22=>
 (bif(t18|| (!t22.1))then some (false,())else(Jn s0.2.2.2.2.1)).bind fun t28=>
 let t30:Bool:=(t18|| (!t22.1))|| (!t28.1)
 (bif t30 then some (false,())else(Zcx s0.2.2.2.2.2.1)).bind fun t34=>
 (bif(t30|| (!t34.1))then some (false,())else(Qh s0.2.2.2.2.2.2.2.2.2.2.2.2.1)).bind fun t40=>
 bif((t30|| (!t34.1))|| (!t40.1))|| ((!s0.2.2.2.2.2.2.1)&& (!s0.2.2.2.2.2.2.2.1))then
  some (false,())
 else
  bif((((decide (s0.2.1.2.2.2.2.2.2.2.1>s0.2.2.1.2.1))|| (decide (s0.2.2.2.1.2.2.2.1>s0.2.2.2.2.1.2.2.2.1)))|| (s0.2.2.2.2.2.2.2.2.1&& (s0.2.1.1 !=4)))|| (s0.2.2.2.2.2.2.2.2.2.1&& (!s0.2.2.2.2.2.2.2.2.2.2.2.1)))|| ((s0.2.2.2.2.2.2.2.2.2.2.2.2.1 !=0)&& (!s0.2.2.2.2.2.2.2.2.2.2.2.1))then
   some (false,())
  else
   some ((s0.2.2.2.2.2.2.1|| (((s0.2.1.1==0)&& (s0.2.1.2.1.2.2.1==0))&& (s0.2.1.2.2.2.2.2.1==(-1:Int))))&& (s0.2.2.2.2.2.2.2.1|| (((s0.2.2.2.1.1==0)&& (s0.2.2.2.1.2.2.2.1==0))&& (!s0.2.2.2.2.2.2.2.2.2.2.2.1))),())
abbrev Z4w:List PE:=[.val 0 (.slice 88 (Z2)) (.u false),.val 3 (.int .i64) (.u false)]
def Wf(l0_1:List Zp)(i3:Int):Nat:=((l0_1.length:Int)-i3).toNat+1
def Yc:Nat→List Zp→Int→Option (Bool×Unit)
 |0,_,_=>none
 |N+1,l0_1,i3=>
  bif decide (i3< (l0_1.length:Int))then
   Zc (0≤i3∧i3<l0_1.length)<|
   (Vo (l0_1.getD i3.toNat Zm)).bind fun t14=>
   Zc (((!t14.1)=false→((decide (i3>(0:Int)))=true→(0≤i3∧i3<l0_1.length))))<|
   Zc (((!t14.1)=false→((decide (i3>(0:Int)))=true→(0≤(IntKind.i64.wrap (i3-1))∧(IntKind.i64.wrap (i3-1))<l0_1.length))))<|
   bif(!t14.1)|| ((decide (i3>(0:Int)))&& (decide ((l0_1.getD i3.toNat Zm).1≤(l0_1.getD (IntKind.i64.wrap (i3-1)).toNat Zm).1)))then
    some (false,())
   else
    Yc N l0_1 (IntKind.i64.wrap (i3+1))
  else
   some (decide ((l0_1.length:Int)≤(24:Int)),())
def Yz(l0:List Zp):Option (Bool×Unit):=
 Yc (Wf l0 (0:Int)) l0 (0:Int)
def Zbq(c0:Zk2):Option (Bool×Unit):=
 (Zx c0.1 (0:Int) (1152921504606846976:Int)).bind fun t5=>
 (bif t5.1 then(Zx c0.2.1 (0:Int) c0.1)else some (false,())).bind fun t11=>
 (bif(t5.1&&t11.1)then(Zx c0.2.2.1 (-1:Int) c0.1)else some (false,())).bind fun t18=>
 some ((t5.1&&t11.1)&&t18.1,())
def Wy(a0:K5):Option (Bool×Unit):=
 (Zx a0.1 (0:Int) (1000:Int)).bind fun t5=>
 (bif t5.1 then(Zx a0.2.1 a0.1 (1152921504606846976:Int))else some (false,())).bind fun t11=>
 (bif(t5.1&&t11.1)then(Zx a0.2.2.1 (0:Int) a0.2.1)else some (false,())).bind fun t18=>
 (bif((t5.1&&t11.1)&&t18.1)then(Zx a0.2.2.2.1 (0:Int) a0.2.2.1)else some (false,())).bind fun t25=>
 some ((((t5.1&&t11.1)&&t18.1)&&t25.1)&& (decide (a0.2.1≤(IntKind.i64.wrap (a0.2.2.2.1+a0.1)))),())
def Wr(kind0:Int):Option (List UInt8×Unit):=
 bif kind0==4 then
  some (([114,101,115,101,116]:List UInt8),())
 else
  bif kind0==5 then
   some (([115,116,111,112]:List UInt8),())
  else
   bif kind0==8 then
    some (([115,116,114,101,97,109]:List UInt8),())
   else
    bif kind0==16 then
     some (([109,97,120,100,97,116,97]:List UInt8),())
    else
     bif kind0==17 then
      some (([109,97,120,115,116,114,101,97,109,100,97,116,97]:List UInt8),())
     else
      bif kind0==18 then
       some (([109,97,120,115,116,114,101,97,109,115]:List UInt8),())
      else
       bif kind0==20 then
        some (([100,97,116,97,98,108,111,99,107,101,100]:List UInt8),())
       else
        bif kind0==21 then
         some (([115,116,114,101,97,109,100,97,116,97,98,108,111,99,107,101,100]:List UInt8),())
        else
         bif kind0==22 then
          some (([115,116,114,101,97,109,115,98,108,111,99,107,101,100]:List UInt8),())
         else
          some (([]:List UInt8),())
abbrev Zy9:List PE:=[.val 5 (.bool) (.u false)]
def Xs(t5:Bool):Option (Bool×Unit):=
 bif t5 then
  some (true,())
 else
  some (false,())
def Kd(f0:Zh):Option (Bool×Unit):=
 bif f0.1==4 then
  Xs (f0.1==4)
 else
  bif f0.1==5 then
   Xs (f0.1==5)
  else
   bif f0.1==8 then
    Xs (f0.1==8)
   else
    bif f0.1==17 then
     Xs (f0.1==17)
    else
     Xs (f0.1==21)
abbrev Qk4:List PE:=[.box 1 106 (Zu) (.u false),.box 2 106 (Zu) (.u false),.box 3 106 (Zu) (.u false),.val 41 (.bool) (.u false)]
def Zi1(f1_1:Zh)(t2_1:Zh)(x3_1:Zh)(t41:Bool):Option (Zh×Unit):=
 bif t41 then
  some ((x3_1.1,(x3_1.2.1,(x3_1.2.2.1,(x3_1.2.2.2.1,(x3_1.2.2.2.2.1,(x3_1.2.2.2.2.2.1,(f1_1.2.2.2.2.2.2.1,(x3_1.2.2.2.2.2.2.2.1,(f1_1.2.2.2.2.2.2.2.2.1,x3_1.2.2.2.2.2.2.2.2.2))))))))),())
 else
  some ((x3_1.1,(x3_1.2.1,(x3_1.2.2.1,(x3_1.2.2.2.1,(x3_1.2.2.2.2.1,(x3_1.2.2.2.2.2.1,(f1_1.2.2.2.2.2.2.1,x3_1.2.2.2.2.2.2.2))))))),())
abbrev Qk3:List PE:=[.box 1 106 (Zu) (.u false),.box 2 106 (Zu) (.u false),.box 3 106 (Zu) (.u false)]
def Zi0(f1:Zh)(t2:Zh)(x3:Zh):Option (Zh×Unit):=
 bif f1.1==4 then
  some ((x3.1,(x3.2.1,(x3.2.2.1,(x3.2.2.2.1,(x3.2.2.2.2.1,(f1.2.2.2.2.2.1,(x3.2.2.2.2.2.2.1,(f1.2.2.2.2.2.2.2.1,x3.2.2.2.2.2.2.2.2)))))))),())
 else
  bif f1.1==5 then
   some ((x3.1,(x3.2.1,(x3.2.2.1,(x3.2.2.2.1,(x3.2.2.2.2.1,(f1.2.2.2.2.2.1,x3.2.2.2.2.2.2)))))),())
  else
   bif f1.1==8 then
    some ((x3.1,(x3.2.1,(f1.2.2.1,(f1.2.2.2.1,(f1.2.2.2.2.1,x3.2.2.2.2.2))))),())
   else
    bif f1.1==18 then
     Zi1 f1 t2 x3 (f1.1==18)
    else
     Zi1 f1 t2 x3 (f1.1==22)
def Zi9(f0:Zh):Option (Zh×Unit):=
 (Kd f0).bind fun t8=>
 bif t8.1 then
  Zi0 f0 Xk (f0.1,(f0.2.1,((0:Int),(([]:List UInt8),(false,((0:Int),((0:Int),((0:Int),(false,())))))))))
 else
  Zi0 f0 Xk (f0.1,((0:Int),((0:Int),(([]:List UInt8),(false,((0:Int),((0:Int),((0:Int),(false,())))))))))
abbrev Qga:List PE:=[.box 1 106 (Zu) (.u false),.val 60 (.bool) (.u false)]
def Zo4(f1:Zh)(t60:Bool):Option (Bool×Unit):=
 bif t60 then
  some (decide (f1.2.2.2.2.2.2.1≤(1152921504606846976:Int)),())
 else
  some (true,())
def Jv(f0:Zh):Option (Bool×Unit):=
 (Wr f0.1).bind fun t5=>
 (bif(t5.1==([]:List UInt8))then some (Xk,())else(Zi9 f0)).bind fun t9=>
 let t12:Bool:=(t5.1==([]:List UInt8))|| (!(eqV (Zu) t9.1 f0))
 (bif t12 then some (false,())else(Qh f0.2.1)).bind fun t16=>
 (bif(t12|| (!t16.1))then some (false,())else(Qh f0.2.2.1)).bind fun t22=>
 let t24:Bool:=(t12|| (!t16.1))|| (!t22.1)
 (bif t24 then some (false,())else(Qh f0.2.2.2.2.2.1)).bind fun t28=>
 (bif(t24|| (!t28.1))then some (false,())else(Qh f0.2.2.2.2.2.2.1)).bind fun t34=>
 let t36:Bool:=(t24|| (!t28.1))|| (!t34.1)
 (bif t36 then some (false,())else(Qh f0.2.2.2.2.2.2.2.1)).bind fun t40=>
 bif(t36|| (!t40.1))|| (decide ((f0.2.2.2.1.length:Int)>(400:Int)))then
  some (false,())
 else
  bif f0.1==8 then
   some (decide (f0.2.2.1≤(IntKind.i64.wrap ((4611686018427387903:Int)- (f0.2.2.2.1.length:Int)))),())
  else
   bif f0.1==18 then
    Zo4 f0 (f0.1==18)
   else
    Zo4 f0 (f0.1==22)
abbrev Z79:List PE:=[.val 0 (.slice 106 (Zu)) (.u false),.val 3 (.int .i64) (.u false)]
def J1(l0_1:List Zh)(i3:Int):Nat:=((l0_1.length:Int)-i3).toNat+1
def W2:Nat→List Zh→Int→Option (Bool×Unit)
 |0,_,_=>none
 |N+1,l0_1,i3=>
  bif decide (i3< (l0_1.length:Int))then
   Zc (0≤i3∧i3<l0_1.length)<|
   (Jv (l0_1.getD i3.toNat Xk)).bind fun t14=>
   bif !t14.1 then
    some (false,())
   else
    W2 N l0_1 (IntKind.i64.wrap (i3+1))
  else
   some (true,())
def Zio(l0:List Zh):Option (Bool×Unit):=
 W2 (J1 l0 (0:Int)) l0 (0:Int)
abbrev Z75:List PE:=[.val 0 (.slice 88 (Z2)) (.u false),.val 3 (.int .i64) (.u false),.val 4 (.int .i64) (.u false)]
def Kg(l0_1:List Zp)(n3:Int)(i4:Int):Nat:=((l0_1.length:Int)-i4).toNat+1
def Vd:Nat→List Zp→Int→Int→Option (Int×Unit)
 |0,_,_,_=>none
 |N+1,l0_1,n3,i4=>
  (bif(decide (i4< (l0_1.length:Int)))then(Yz l0_1)else some (false,())).bind fun t11=>
  bif(decide (i4< (l0_1.length:Int)))&&t11.1 then
   Zc (0≤i4∧i4<l0_1.length)<|
   Vd N l0_1 (min (IntKind.i64.wrap (n3+ (l0_1.getD i4.toNat Zm).2.1.2.2.2.2.2.2.2.1)) (4611686018427387904:Int)) (IntKind.i64.wrap (i4+1))
  else
   some (n3,())
def Ze2(l0:List Zp):Option (Int×Unit):=
 Vd (Kg l0 (0:Int) (0:Int)) l0 (0:Int) (0:Int)
abbrev Z72:List PE:=[.val 0 (.slice 88 (Z2)) (.u false),.val 3 (.int .i64) (.u false),.val 4 (.int .i64) (.u false)]
def Kf(l0_1:List Zp)(n3:Int)(i4:Int):Nat:=((l0_1.length:Int)-i4).toNat+1
def Vc:Nat→List Zp→Int→Int→Option (Int×Unit)
 |0,_,_,_=>none
 |N+1,l0_1,n3,i4=>
  (bif(decide (i4< (l0_1.length:Int)))then(Yz l0_1)else some (false,())).bind fun t11=>
  bif(decide (i4< (l0_1.length:Int)))&&t11.1 then
   Zc (0≤i4∧i4<l0_1.length)<|
   Vc N l0_1 (min (IntKind.i64.wrap (n3+ (l0_1.getD i4.toNat Zm).2.2.2.1.2.2.2.1)) (4611686018427387904:Int)) (IntKind.i64.wrap (i4+1))
  else
   some (n3,())
def Ze1(l0:List Zp):Option (Int×Unit):=
 Vc (Kf l0 (0:Int) (0:Int)) l0 (0:Int) (0:Int)
abbrev Qks:List PE:=[.box 1 37 (Zl) (.u false),.val 3 (.int .i64) (.u false)]
def Ks(c1:Zg)(i3:Int):Nat:=((c1.2.2.2.2.2.2.2.2.2.2.2.2.2.2.2.1.length:Int)-i3).toNat+1
def Ji:Nat→Zg→Int→Option (Bool×Unit)
 |0,_,_=>none
 |N+1,c1,i3=>
  bif decide (i3< (c1.2.2.2.2.2.2.2.2.2.2.2.2.2.2.2.1.length:Int))then
   Zc (0≤i3∧i3<c1.2.2.2.2.2.2.2.2.2.2.2.2.2.2.2.1.length)<|
   (Zx (c1.2.2.2.2.2.2.2.2.2.2.2.2.2.2.2.1.getD i3.toNat Qk).1 (0:Int) (IntKind.i64.wrap (c1.2.2.2.2.2.2.2.2.2.2.2.2.2.2.1-1))).bind fun t72=>
   Zc (((!t72.1)=false→((decide (i3>(0:Int)))=true→(0≤i3∧i3<c1.2.2.2.2.2.2.2.2.2.2.2.2.2.2.2.1.length))))<|
   Zc (((!t72.1)=false→((decide (i3>(0:Int)))=true→(0≤(IntKind.i64.wrap (i3-1))∧(IntKind.i64.wrap (i3-1))<c1.2.2.2.2.2.2.2.2.2.2.2.2.2.2.2.1.length))))<|
   let t93:Bool:=(!t72.1)|| ((decide (i3>(0:Int)))&& (decide ((c1.2.2.2.2.2.2.2.2.2.2.2.2.2.2.2.1.getD i3.toNat Qk).1≤(c1.2.2.2.2.2.2.2.2.2.2.2.2.2.2.2.1.getD (IntKind.i64.wrap (i3-1)).toNat Qk).1)))
   Zc ((t93=false→(0≤i3∧i3<c1.2.2.2.2.2.2.2.2.2.2.2.2.2.2.2.1.length)))<|
   (bif t93 then some (false,())else(Zio (c1.2.2.2.2.2.2.2.2.2.2.2.2.2.2.2.1.getD i3.toNat Qk).2.1)).bind fun t101=>
   bif t93|| (!t101.1)then
    some (false,())
   else
    Ji N c1 (IntKind.i64.wrap (i3+1))
  else
   (Zx c1.2.2.2.2.2.2.2.2.2.2.2.2.2.1 (-1:Int) (4611686018427387903:Int)).bind fun t106=>
   (bif t106.1 then(Zx c1.2.2.2.2.2.2.2.2.2.2.2.2.2.2.1 (0:Int) (1000000:Int))else some (false,())).bind fun t110=>
   (bif(t106.1&&t110.1)then(Zx c1.2.2.2.2.2.2.2.2.2.2.2.2.2.2.2.2.1 (0:Int) (1000000:Int))else some (false,())).bind fun t115=>
   (bif((t106.1&&t110.1)&&t115.1)then(Zx c1.2.2.2.2.2.2.2.2.2.2.2.2.2.2.2.2.2.1 (0:Int) (255:Int))else some (false,())).bind fun t120=>
   let t121:Bool:=((t106.1&&t110.1)&&t115.1)&&t120.1
   (bif t121 then(Ze2 c1.2.2.2.1)else some ((0:Int),())).bind fun t125=>
   (bif(t121&& (decide (t125.1≤c1.2.2.2.2.1.2.1)))then(Ze1 c1.2.2.2.1)else some ((0:Int),())).bind fun t134=>
   some ((t121&& (decide (t125.1≤c1.2.2.2.2.1.2.1)))&& (decide (t134.1≤c1.2.2.2.2.2.1.2.2.2.1)),())
def Z5(c0:Zg):Option (Bool×Unit):=
 (Zb6 c0.2.1).bind fun t6=>
 (bif(!t6.1)then some (false,())else(Zb6 c0.2.2.1)).bind fun t11=>
 (bif((!t6.1)|| (!t11.1))then some (false,())else(Yz c0.2.2.2.1)).bind fun t17=>
 let t19:Bool:=((!t6.1)|| (!t11.1))|| (!t17.1)
 (bif t19 then some (false,())else(Y6 c0.2.2.2.2.1)).bind fun t23=>
 (bif(t19|| (!t23.1))then some (false,())else(Jn c0.2.2.2.2.2.1)).bind fun t29=>
 let t31:Bool:=(t19|| (!t23.1))|| (!t29.1)
 (bif t31 then some (false,())else(Zbq c0.2.2.2.2.2.2.1)).bind fun t35=>
 (bif(t31|| (!t35.1))then some (false,())else(Zbq c0.2.2.2.2.2.2.2.1)).bind fun t41=>
 let t43:Bool:=(t31|| (!t35.1))|| (!t41.1)
 (bif t43 then some (false,())else(Wy c0.2.2.2.2.2.2.2.2.1)).bind fun t47=>
 (bif(t43|| (!t47.1))then some (false,())else(Wy c0.2.2.2.2.2.2.2.2.2.1)).bind fun t53=>
 bif(t43|| (!t47.1))|| (!t53.1)then
  some (false,())
 else
  Ji (Ks c0 (0:Int)) c0 (0:Int)
abbrev Z4v:List PE:=[.val 0 (.slice 127 (Qx)) (.u false),.val 3 (.int .i64) (.u false)]
def Ja(l0_1:List Z0)(i3:Int):Nat:=((l0_1.length:Int)-i3).toNat+1
def V1:Nat→List Z0→Int→Option (Bool×Unit)
 |0,_,_=>none
 |N+1,l0_1,i3=>
  bif decide (i3< (l0_1.length:Int))then
   Zc (0≤i3∧i3<l0_1.length)<|
   (Zx (l0_1.getD i3.toNat Qv).1 (0:Int) (999999:Int)).bind fun t15=>
   Zc (((!t15.1)=false→(0≤i3∧i3<l0_1.length)))<|
   (bif(!t15.1)then some (false,())else(Zx ((l0_1.getD i3.toNat Qv).2.1.length:Int) (1:Int) (400:Int))).bind fun t24=>
   bif(!t15.1)|| (!t24.1)then
    some (false,())
   else
    V1 N l0_1 (IntKind.i64.wrap (i3+1))
  else
   some (decide ((l0_1.length:Int)≤(60:Int)),())
def Zaf(l0:List Z0):Option (Bool×Unit):=
 V1 (Ja l0 (0:Int)) l0 (0:Int)
abbrev Qkt:List PE:=[.box 1 41 (Qs) (.u false),.val 3 (.int .i64) (.u false)]
def W9(p1:Z7)(i3:Int):Nat:=((p1.2.2.2.2.1.length:Int)-i3).toNat+1
def Zes:Nat→Z7→Int→Option (Bool×Unit)
 |0,_,_=>none
 |N+1,p1,i3=>
  bif decide (i3< (p1.2.2.2.2.1.length:Int))then
   Zc (0≤i3∧i3<p1.2.2.2.2.1.length)<|
   (Qh (p1.2.2.2.2.1.getD i3.toNat Zfc).1).bind fun t19=>
   bif((!t19.1)|| (decide (((p1.2.2.2.2.1.getD i3.toNat Zfc).2.2.1.length:Int)>(4000:Int))))|| (decide (((p1.2.2.2.2.1.getD i3.toNat Zfc).2.2.2.1.length:Int)>(4000:Int)))then
    some (false,())
   else
    Zes N p1 (IntKind.i64.wrap (i3+1))
  else
   (Z5 p1.1).bind fun t35=>
   (bif t35.1 then(Z5 p1.2.1)else some (false,())).bind fun t39=>
   let t51:Bool:=((t35.1&&t39.1)&& (!p1.1.1))&&p1.2.1.1
   (bif t51 then(Zaf p1.2.2.1)else some (false,())).bind fun t55=>
   (bif(t51&&t55.1)then(Zaf p1.2.2.2.1)else some (false,())).bind fun t60=>
   some (((t51&&t55.1)&&t60.1)&& (decide ((p1.2.2.2.2.1.length:Int)≤(100:Int))),())
def Zgj(p0:Z7):Option (Bool×Unit):=
 Zes (W9 p0 (0:Int)) p0 (0:Int)
def Zra(kind0:Int):Option (List UInt8×Unit):=
 (Zx kind0 (1:Int) (12:Int)).bind fun t4=>
 bif !t4.1 then
  some (([]:List UInt8),())
 else
  let t6:List (List UInt8):=[([111,112,101,110]:List UInt8),([119,114,105,116,101]:List UInt8),([102,105,110,105,115,104]:List UInt8),([114,101,97,100]:List UInt8),([114,101,115,101,116]:List UInt8),([115,116,111,112]:List UInt8),([112,114,105,111,114,105,116,121]:List UInt8),([101,109,105,116]:List UInt8),([97,99,107]:List UInt8),([108,111,115,101]:List UInt8),([112,97,121,108,111,97,100]:List UInt8),([116,105,109,101]:List UInt8)]
  Zc (0≤(IntKind.i64.wrap (kind0-1))∧(IntKind.i64.wrap (kind0-1))<t6.length)<|
  some (t6.getD (IntKind.i64.wrap (kind0-1)).toNat ([]:List UInt8),())
abbrev Qgv:List PE:=[.box 1 116 (Vx) (.u false),.box 2 116 (Vx) (.u false),.box 3 116 (Vx) (.u false),.val 32 (.bool) (.u false)]
def Zfy(e1_2:Jp)(t2_2:Jp)(x3_2:Jp)(t32:Bool):Option (Jp×Unit):=
 bif t32 then
  some ((x3_2.1,(e1_2.2.1,(e1_2.2.2.1,x3_2.2.2.2))),())
 else
  some ((x3_2.1,(x3_2.2.1,(e1_2.2.2.1,x3_2.2.2.2))),())
abbrev Qgu:List PE:=[.box 1 116 (Vx) (.u false),.box 2 116 (Vx) (.u false),.box 3 116 (Vx) (.u false),.val 8 (.int .i64) (.u false),.val 18 (.bool) (.u false)]
def Zks(e1_1:Jp)(t2_1:Jp)(x3_1:Jp)(t8_1:Int)(t18:Bool):Option (Jp×Unit):=
 bif t18 then
  some ((x3_1.1,(e1_1.2.1,(x3_1.2.2.1,(e1_1.2.2.2.1,x3_1.2.2.2.2)))),())
 else
  bif t8_1==3 then
   some ((x3_1.1,(e1_1.2.1,x3_1.2.2)),())
  else
   bif t8_1==4 then
    Zfy e1_1 t2_1 x3_1 (t8_1==4)
   else
    bif t8_1==5 then
     Zfy e1_1 t2_1 x3_1 (t8_1==5)
    else
     Zfy e1_1 t2_1 x3_1 (t8_1==6)
abbrev Qgt:List PE:=[.box 1 116 (Vx) (.u false),.box 2 116 (Vx) (.u false),.box 3 116 (Vx) (.u false),.val 8 (.int .i64) (.u false),.val 12 (.bool) (.u false)]
def Zkr(e1:Jp)(t2:Jp)(x3:Jp)(t8:Int)(t12:Bool):Option (Jp×Unit):=
 bif t12 then
  some ((x3.1,(x3.2.1,(x3.2.2.1,(e1.2.2.2.1,x3.2.2.2.2)))),())
 else
  bif t8==2 then
   Zks e1 t2 x3 t8 (t8==2)
  else
   Zks e1 t2 x3 t8 (t8==7)
def Zro(e0:Jp):Option (Jp×Unit):=
 bif e0.1==1 then
  Zkr e0 Zxz (e0.1,((0:Int),((0:Int),(([]:List UInt8),())))) e0.1 (e0.1==1)
 else
  Zkr e0 Zxz (e0.1,((0:Int),((0:Int),(([]:List UInt8),())))) e0.1 (e0.1==11)
abbrev Z5r:List PE:=[.val 0 (.str) (.u false),.val 3 (.int .i64) (.u false)]
def Ziu(s0_1:List UInt8)(i3:Int):Nat:=((s0_1.length:Int)-i3).toNat+1
def Zfa:Nat→List UInt8→Int→Option (Bool×Unit)
 |0,_,_=>none
 |N+1,s0_1,i3=>
  bif decide (i3< (s0_1.length:Int))then
   Zc (0≤i3∧i3<s0_1.length)<|
   let t13:Bool:=decide (((s0_1.getD i3.toNat 0).toNat:Int)< (97:Int))
   Zc ((t13=false→(0≤i3∧i3<s0_1.length)))<|
   bif t13|| (decide (((s0_1.getD i3.toNat 0).toNat:Int)>(122:Int)))then
    some (false,())
   else
    Zfa N s0_1 (IntKind.i64.wrap (i3+1))
  else
   (Zx (s0_1.length:Int) (1:Int) (40:Int)).bind fun t22=>
   some (t22.1,())
def Zub(s0:List UInt8):Option (Bool×Unit):=
 Zfa (Ziu s0 (0:Int)) s0 (0:Int)
abbrev Z02:List PE:=[.val 0 (.str) (.u false),.val 3 (.int .i64) (.u false)]
def Zfr(s0_1:List UInt8)(i3:Int):Nat:=((s0_1.length:Int)-i3).toNat+1
def Zcb:Nat→List UInt8→Int→Option (Bool×Unit)
 |0,_,_=>none
 |N+1,s0_1,i3=>
  bif decide (i3< (s0_1.length:Int))then
   Zc (0≤i3∧i3<s0_1.length)<|
   let t13:Bool:=decide (((s0_1.getD i3.toNat 0).toNat:Int)< (32:Int))
   Zc ((t13=false→(0≤i3∧i3<s0_1.length)))<|
   bif t13|| (decide (((s0_1.getD i3.toNat 0).toNat:Int)>(126:Int)))then
    some (false,())
   else
    Zcb N s0_1 (IntKind.i64.wrap (i3+1))
  else
   (Zx (s0_1.length:Int) (1:Int) (40:Int)).bind fun t22=>
   some (t22.1,())
def Zrp(s0:List UInt8):Option (Bool×Unit):=
 Zcb (Zfr s0 (0:Int)) s0 (0:Int)
def Zgt(k0:Int):Option (Int×Unit):=
 Zc (0≤k0∧k0< ([48,49,50,51,52,53,54,55,56,57,97,98,99,100,101,102]:List UInt8).length)<|
 some (((([48,49,50,51,52,53,54,55,56,57,97,98,99,100,101,102]:List UInt8).getD k0.toNat 0).toNat:Int),())
abbrev Z8a:List PE:=[.val 0 (.int .u8) (.u false),.val 3 (.int .i64) (.u false)]
def Zjw(b0_1:Int)(k3:Int):Nat:=((16:Int)-k3).toNat+1
def Ve:Nat→Int→Int→Option (Int×Unit)
 |0,_,_=>none
 |N+1,b0_1,k3=>
  bif decide (k3< (16:Int))then
   (Zgt k3).bind fun t9=>
   bif t9.1==b0_1 then
    some (k3,())
   else
    Ve N b0_1 (IntKind.i64.wrap (k3+1))
  else
   some ((-1:Int),())
def Zrl(b0:Int):Option (Int×Unit):=
 Ve (Zjw b0 (0:Int)) b0 (0:Int)
abbrev Z7q:List PE:=[.val 0 (.str) (.u false),.val 4 (.slice 5 (.int .u8)) (.u true),.val 5 (.int .i64) (.u false)]
def Zjl(s0_1:List UInt8)(out4:List Int)(i5:Int):Nat:=((s0_1.length:Int)-i5).toNat+1
def Zgc:Nat→List UInt8→List Int→Int→Option (List UInt8×Bool×Unit)
 |0,_,_,_=>none
 |N+1,s0_1,out4,i5=>
  bif decide (i5< (s0_1.length:Int))then
   Zc (0≤i5∧i5<s0_1.length)<|
   (Zrl ((s0_1.getD i5.toNat 0).toNat:Int)).bind fun t22=>
   Zc (0≤(IntKind.i64.wrap (i5+1))∧(IntKind.i64.wrap (i5+1))<s0_1.length)<|
   (Zrl ((s0_1.getD (IntKind.i64.wrap (i5+1)).toNat 0).toNat:Int)).bind fun t27=>
   bif(decide (t22.1< (0:Int)))|| (decide (t27.1< (0:Int)))then
    some (([]:List UInt8),false,())
   else
    let t40:List Int:=[(IntKind.u8.wrap (IntKind.i64.wrap ((IntKind.i64.wrap ((16:Int)*t22.1))+t27.1)))]
    Zc (out4.length+t40.length≤Qp)<|
    Zgc N s0_1 (out4++t40) (IntKind.i64.wrap (i5+2))
  else
   some (Ws out4,true,())
def Zmd(s0:List UInt8):Option (List UInt8×Bool×Unit):=
 Zc ((2:Int)≠0)<|
 bif(Int.tmod (s0.length:Int) (2:Int))==1 then
  some (([]:List UInt8),false,())
 else
  Zgc (Zjl s0 ([]:List Int) (0:Int)) s0 ([]:List Int) (0:Int)
def Zrc(e0:Jp):Option (Bool×Unit):=
 (Zra e0.1).bind fun t7=>
 (bif(t7.1==([]:List UInt8))then some (Zxz,())else(Zro e0)).bind fun t11=>
 let t14:Bool:=(t7.1==([]:List UInt8))|| (!(eqV (Vx) t11.1 e0))
 (bif t14 then some (false,())else(Zx e0.2.1 (0:Int) (999999:Int))).bind fun t18=>
 (bif(t14|| (!t18.1))then some (false,())else(Zx e0.2.2.1 (0:Int) (999999:Int))).bind fun t24=>
 bif(t14|| (!t18.1))|| (!t24.1)then
  some (false,())
 else
  bif e0.1==1 then
   some ((e0.2.2.2.1==([98,105,100,105]:List UInt8))|| (e0.2.2.2.1==([117,110,105]:List UInt8)),())
  else
   bif e0.1==2 then
    (Zub e0.2.2.2.1).bind fun t43=>
    some (t43.1,())
   else
    bif e0.1==7 then
     (Zrp e0.2.2.2.1).bind fun t48=>
     some (t48.1,())
    else
     bif e0.1==11 then
      (Zmd e0.2.2.2.1).bind fun t54=>
      (bif t54.2.1 then(Zx (t54.1.length:Int) (1:Int) (400:Int))else some (false,())).bind fun t61=>
      some (t54.2.1&&t61.1,())
     else
      some (true,())
def Zb8(p0:Z7)(server1:Bool):Option (List Z0×Unit):=
 bif server1 then
  (Yx p0.2.2.1).bind fun t8=>
  some (t8.1,())
 else
  (Yx p0.2.2.2.1).bind fun t11=>
  some (t11.1,())
def Zdw(p0:Z7)(server1:Bool):Option (Zg×Unit):=
 bif server1 then
  (Zy p0.2.1).bind fun t8=>
  some (t8.1,())
 else
  (Zy p0.1).bind fun t11=>
  some (t11.1,())
def Wq(c0:Zg):Option (Bool×Unit):=
 some (c0.2.2.2.2.2.2.2.2.2.2.2.2.2.2.2.2.2.1 !=0,())
def Yw(c0:Zg):Option (Bool×Unit):=
 (Z5 c0).bind fun t4=>
 (bif t4.1 then(Wq c0)else some (false,())).bind fun t7=>
 some (t4.1&& (!t7.1),())
def Zh7(w0:Kn):Option (Bool×Unit):=
 (Jn w0).bind fun t4=>
 let t9:Bool:=t4.1&& (decide (w0.2.2.1< (4611686018427387903:Int)))
 Zc ((t9=true→((2:Int)≠0)))<|
 some (t9&& (decide ((IntKind.i64.wrap ((IntKind.i64.wrap (w0.2.2.2.2.1+w0.1))-w0.2.2.1))≥(IntKind.i64.wrap (Int.tdiv (IntKind.i64.wrap (w0.1+1)) (2:Int))))),())
abbrev Z2y:List PE:=[.val 1 (.int .i64) (.u false),.box 3 30 (Vr) (.u false),.box 6 30 (Vr) (.u false)]
def Zhf(now1_1:Int)(w3:Kn)(t6:Kn):Option (Kn×Bool×Unit):=
 some ((w3.1,(w3.2.1,(min (IntKind.i64.wrap (w3.2.2.2.2.1+w3.1)) (4611686018427387903:Int),(w3.2.2.2.1,(w3.2.2.2.2.1,(now1_1,w3.2.2.2.2.2.2)))))),true,())
def Zii(w0:Kn)(now1:Int)(trip2:Int):Option (Kn×Bool×Unit):=
 (Zh7 w0).bind fun t9=>
 (bif(!t9.1)then some (false,())else(Zx now1 w0.2.2.2.2.2.1 (1000000:Int))).bind fun t15=>
 (bif((!t9.1)|| (!t15.1))then some (false,())else(Zx trip2 (1:Int) (1000:Int))).bind fun t20=>
 bif((!t9.1)|| (!t15.1))|| (!t20.1)then
  some (w0,false,())
 else
  bif decide ((IntKind.i64.wrap (now1-w0.2.2.2.2.2.1))< (IntKind.i64.wrap ((2:Int)*trip2)))then
   Zhf now1 (min (IntKind.i64.wrap ((2:Int)*w0.1)) w0.2.1,w0.2) Qy4
  else
   Zhf now1 w0 Qy4
def Zop(c0:Zg):Option (Kn×Bool×Unit):=
 (Zh7 c0.2.2.2.2.2.1).bind fun t8=>
 bif t8.1 then
  (Zii c0.2.2.2.2.2.1 c0.2.2.2.2.2.2.2.2.2.2.2.2.2.2.2.2.1 c0.2.1.2.2.2.2.2.2.2.1).bind fun t17=>
  some (t17.1,t17.2.1,())
 else
  some (c0.2.2.2.2.2.1,c0.2.2.2.2.2.2.2.2.2.2.1,())
def Zmh(a0:K5):Option (Bool×Unit):=
 (Wy a0).bind fun t4=>
 Zc ((t4.1=true→((2:Int)≠0)))<|
 some ((t4.1&& (decide ((IntKind.i64.wrap ((IntKind.i64.wrap (a0.2.2.2.1+a0.1))-a0.2.1))≥(IntKind.i64.wrap (Int.tdiv (IntKind.i64.wrap (a0.1+1)) (2:Int))))))&& (decide (a0.1>(0:Int))),())
def Zo9(a0:K5):Option (K5×Bool×Unit):=
 (Zmh a0).bind fun t5=>
 bif(!t5.1)|| (decide ((IntKind.i64.wrap (a0.2.2.2.1+a0.1))>1152921504606846976))then
  some (a0,false,())
 else
  some ((a0.1,(IntKind.i64.wrap (a0.2.2.2.1+a0.1),a0.2.2)),true,())
def Zg3(a0:K5)(tell1:Bool):Option (K5×Bool×Unit):=
 (Zmh a0).bind fun t9=>
 bif t9.1 then
  (Zo9 a0).bind fun t12=>
  some (t12.1,t12.2.1,())
 else
  some (a0,tell1,())
def Zms(c0:Zg)(s1:Zp):Option (Kn×Bool×Unit):=
 bif((!s1.2.2.2.2.2.2.2.1)|| (s1.2.2.2.1.1 !=0))||s1.2.2.2.2.2.2.2.2.2.2.2.1 then
  some (s1.2.2.2.2.1,false,())
 else
  (Zh7 s1.2.2.2.2.1).bind fun t25=>
  bif t25.1 then
   (Zii s1.2.2.2.2.1 c0.2.2.2.2.2.2.2.2.2.2.2.2.2.2.2.2.1 c0.2.1.2.2.2.2.2.2.2.1).bind fun t34=>
   some (t34.1,t34.2.1,())
  else
   some (s1.2.2.2.2.1,s1.2.2.2.2.2.2.2.2.2.2.1,())
def Zoj(c0:K5):Option (Bool×Unit):=
 (Y6 c0).bind fun t4=>
 some (t4.1&& (c0.2.2.1==c0.1),())
abbrev Z8d:List PE:=[.box 3 88 (Z2) (.u false),.val 5 (.slice 106 (Zu)) (.u true)]
def Zgw(s3_2:Zp)(out5_2:List Zh):Option (List Zh×Unit):=
 (Zoj s3_2.2.2.1).bind fun t56=>
 bif(t56.1&&s3_2.2.2.2.2.2.2.1)&& (decide ((s3_2.2.1.2.2.1.length:Int)>(0:Int)))then
  let t75:List Zh:=[((21:Int),(s3_2.1,((0:Int),(([]:List UInt8),(false,((0:Int),(s3_2.2.2.1.1,((0:Int),(false,())))))))))]
  Zc (out5_2.length+t75.length≤Qp)<|
  some (out5_2++t75,())
 else
  some (out5_2,())
abbrev Z8c:List PE:=[.box 2 37 (Zl) (.u false),.box 3 88 (Z2) (.u false),.val 5 (.slice 106 (Zu)) (.u true)]
def Zgv(c2_1:Zg)(s3_1:Zp)(out5_1:List Zh):Option (List Zh×Unit):=
 (Zms c2_1 s3_1).bind fun t42=>
 bif t42.2.1 then
  let t52:List Zh:=[((17:Int),(s3_1.1,((0:Int),(([]:List UInt8),(false,((0:Int),(t42.1.2.2.1,((0:Int),(false,())))))))))]
  Zc (out5_1.length+t52.length≤Qp)<|
  Zgw s3_1 (out5_1++t52)
 else
  Zgw s3_1 out5_1
abbrev Z8b:List PE:=[.box 2 37 (Zl) (.u false),.box 3 88 (Z2) (.u false),.val 5 (.slice 106 (Zu)) (.u true)]
def Zgu(c2:Zg)(s3:Zp)(out5:List Zh):Option (List Zh×Unit):=
 bif s3.2.2.2.2.2.2.2.2.2.1&& (decide (s3.2.2.2.1.1< (2:Int)))then
  let t37:List Zh:=[((5:Int),(s3.1,((0:Int),(([]:List UInt8),(false,(s3.2.2.2.2.2.2.2.2.2.2.2.2.1,((0:Int),((0:Int),(false,())))))))))]
  Zc (out5.length+t37.length≤Qp)<|
  Zgv c2 s3 (out5++t37)
 else
  Zgv c2 s3 out5
def Zrm(c0:Zg)(s1:Zp):Option (List Zh×Unit):=
 bif s1.2.2.2.2.2.2.2.2.1 then
  let t21:List Zh:=[((4:Int),(s1.1,((0:Int),(([]:List UInt8),(false,(s1.2.1.2.2.2.2.2.2.2.2.1,((0:Int),(s1.2.1.2.2.2.2.2.2.2.1,(false,())))))))))]
  Zc (([]:List Zh).length+t21.length≤Qp)<|
  Zgu c0 s1 (([]:List Zh)++t21)
 else
  Zgu c0 s1 ([]:List Zh)
abbrev Zy3:List PE:=[.box 1 37 (Zl) (.u false),.val 3 (.slice 106 (Zu)) (.u true)]
def Za2(c1_5:Zg)(out3_5:List Zh):Option (List Zh×Unit):=
 bif c1_5.2.2.2.2.2.2.2.1.2.2.1==c1_5.2.2.2.2.2.2.2.1.1 then
  let t110:List Zh:=[((22:Int),((0:Int),((0:Int),(([]:List UInt8),(false,((0:Int),(c1_5.2.2.2.2.2.2.2.1.1,((0:Int),(true,())))))))))]
  Zc (out3_5.length+t110.length≤Qp)<|
  some (out3_5++t110,())
 else
  some (out3_5,())
abbrev Zy2:List PE:=[.box 1 37 (Zl) (.u false),.val 3 (.slice 106 (Zu)) (.u true)]
def Za1(c1_4:Zg)(out3_4:List Zh):Option (List Zh×Unit):=
 bif c1_4.2.2.2.2.2.2.1.2.2.1==c1_4.2.2.2.2.2.2.1.1 then
  let t96:List Zh:=[((22:Int),((0:Int),((0:Int),(([]:List UInt8),(false,((0:Int),(c1_4.2.2.2.2.2.2.1.1,((0:Int),(false,())))))))))]
  Zc (out3_4.length+t96.length≤Qp)<|
  Za2 c1_4 (out3_4++t96)
 else
  Za2 c1_4 out3_4
abbrev Zy4:List PE:=[.box 1 37 (Zl) (.u false),.val 3 (.slice 106 (Zu)) (.u true),.val 10 (.int .i64) (.u false)]
def Zei(c1_3:Zg)(out3_3:List Zh)(i10:Int):Nat:=((c1_3.2.2.2.1.length:Int)-i10).toNat+1
def Za3:Nat→Zg→List Zh→Int→Option (List Zh×Unit)
 |0,_,_,_=>none
 |N+1,c1_3,out3_3,i10=>
  bif decide (i10< (c1_3.2.2.2.1.length:Int))then
   Zc (0≤i10∧i10<c1_3.2.2.2.1.length)<|
   (Zrm c1_3 (c1_3.2.2.2.1.getD i10.toNat Zm)).bind fun t72=>
   Zc (out3_3.length+t72.1.length≤Qp)<|
   Za3 N c1_3 (out3_3++t72.1) (IntKind.i64.wrap (i10+1))
  else
   (Zoj c1_3.2.2.2.2.1).bind fun t76=>
   bif t76.1 then
    let t82:List Zh:=[((20:Int),((0:Int),((0:Int),(([]:List UInt8),(false,((0:Int),(c1_3.2.2.2.2.1.1,((0:Int),(false,())))))))))]
    Zc (out3_3.length+t82.length≤Qp)<|
    Za1 c1_3 (out3_3++t82)
   else
    Za1 c1_3 out3_3
abbrev Zy1:List PE:=[.box 1 37 (Zl) (.u false),.val 3 (.slice 106 (Zu)) (.u true)]
def Za0(c1_2:Zg)(out3_2:List Zh):Option (List Zh×Unit):=
 Za3 (Zei c1_2 out3_2 (0:Int)) c1_2 out3_2 (0:Int)
abbrev Zy0:List PE:=[.box 1 37 (Zl) (.u false),.val 3 (.slice 106 (Zu)) (.u true)]
def Zaz(c1_1:Zg)(out3_1:List Zh):Option (List Zh×Unit):=
 (Zg3 c1_1.2.2.2.2.2.2.2.2.2.1 c1_1.2.2.2.2.2.2.2.2.2.2.2.2.1).bind fun t48=>
 bif t48.2.1 then
  let t56:List Zh:=[((18:Int),((0:Int),((0:Int),(([]:List UInt8),(false,((0:Int),(t48.1.2.1,((0:Int),(true,())))))))))]
  Zc (out3_1.length+t56.length≤Qp)<|
  Za0 c1_1 (out3_1++t56)
 else
  Za0 c1_1 out3_1
abbrev Zyz:List PE:=[.box 1 37 (Zl) (.u false),.val 3 (.slice 106 (Zu)) (.u true)]
def Zay(c1:Zg)(out3:List Zh):Option (List Zh×Unit):=
 (Zg3 c1.2.2.2.2.2.2.2.2.1 c1.2.2.2.2.2.2.2.2.2.2.2.1).bind fun t33=>
 bif t33.2.1 then
  let t41:List Zh:=[((18:Int),((0:Int),((0:Int),(([]:List UInt8),(false,((0:Int),(t33.1.2.1,((0:Int),(false,())))))))))]
  Zc (out3.length+t41.length≤Qp)<|
  Zaz c1 (out3++t41)
 else
  Zaz c1 out3
def Zjk(c0:Zg):Option (List Zh×Unit):=
 (Yw c0).bind fun t13=>
 bif !t13.1 then
  some (([]:List Zh),())
 else
  (Zop c0).bind fun t18=>
  bif t18.2.1 then
   let t26:List Zh:=[((16:Int),((0:Int),((0:Int),(([]:List UInt8),(false,((0:Int),(t18.1.2.2.1,((0:Int),(false,())))))))))]
   Zc (([]:List Zh).length+t26.length≤Qp)<|
   Zay c0 (([]:List Zh)++t26)
  else
   Zay c0 ([]:List Zh)
def Zon(n0:Int):Option (Int×Unit):=
 bif(decide (n0< (0:Int)))|| (decide (n0>(4611686018427387903:Int)))then
  some ((0:Int),())
 else
  bif decide (n0< (64:Int))then
   some ((1:Int),())
  else
   bif decide (n0< (16384:Int))then
    some ((2:Int),())
   else
    bif decide (n0< (1073741824:Int))then
     some ((4:Int),())
    else
     some ((8:Int),())
abbrev Z2j:List PE:=[.val 0 (.int .i64) (.u false),.val 1 (.int .i64) (.u false),.val 5 (.str) (.u false),.val 6 (.int .i64) (.u false)]
def Zoi(n0_1:Int)(width1_1:Int)(out5_1:List UInt8)(i6:Int):Nat:=(width1_1-i6).toNat+1
def W5:Nat→Int→Int→List UInt8→Int→Option (List UInt8×Unit)
 |0,_,_,_,_=>none
 |N+1,n0_1,width1_1,out5_1,i6=>
  bif decide (i6<width1_1)then
   Zc ((256:Int)≠0)<|
   let t23:List UInt8:=Ws ([(IntKind.u8.wrap (Int.tmod n0_1 (256:Int)))])
   Zc (t23.length+out5_1.length≤Z8)<|
   Zc ((256:Int)≠0)<|
   W5 N (IntKind.i64.wrap (Int.tdiv n0_1 (256:Int))) width1_1 (t23++out5_1) (IntKind.i64.wrap (i6+1))
  else
   bif decide (n0_1>(0:Int))then
    some (([]:List UInt8),())
   else
    some (out5_1,())
def Zsc(n0:Int)(width1:Int):Option (List UInt8×Unit):=
 (Zx width1 (1:Int) (7:Int)).bind fun t8=>
 bif(!t8.1)|| (decide (n0< (0:Int)))then
  some (([]:List UInt8),())
 else
  W5 (Zoi n0 width1 ([]:List UInt8) (0:Int)) n0 width1 ([]:List UInt8) (0:Int)
def Zp8(n0:Int):Option (List UInt8×Unit):=
 (Zsc (bits .and .i64 n0 (255:Int)) (1:Int)).bind fun t5=>
 some (t5.1,())
abbrev Z40:List PE:=[.val 0 (.int .i64) (.u false),.val 3 (.int .i64) (.u false),.val 4 (.str) (.u false),.val 5 (.int .i64) (.u false),.val 6 (.int .i64) (.u false)]
def Jg(K1: (Int×Int×List UInt8×Int×Unit)→Option (List UInt8×Unit))(n0_2:Int)(k3_1:Int)(s4_2:List UInt8)(i5_1:Int)(b6:Int):Option (List UInt8×Unit):=
 (Zp8 b6).bind fun t39=>
 Zc (s4_2.length+t39.1.length≤Z8)<|
 K1 (n0_2,k3_1,s4_2++t39.1,IntKind.i64.wrap (i5_1-1),())
abbrev Z41:List PE:=[.val 0 (.int .i64) (.u false),.val 3 (.int .i64) (.u false),.val 4 (.str) (.u false),.val 5 (.int .i64) (.u false)]
def Zh2(n0_1:Int)(k3:Int)(s4_1:List UInt8)(i5:Int):Nat:=(i5-0).toNat+2
def Yd:Nat→Int→Int→List UInt8→Int→Option (List UInt8×Unit)
 |0,_,_,_,_=>none
 |N+1,n0_1,k3,s4_1,i5=>
  bif decide (i5≥(0:Int))then
   Zc (0≤(IntKind.i64.wrap ((8:Int)*i5)))<|
   let t19:Int:=bits .and .i64 (n0_1.fdiv (2^ (min (IntKind.i64.wrap ((8:Int)*i5)).toNat IntKind.i64.bits))) (255:Int)
   bif i5==(IntKind.i64.wrap (k3-1))then
    bif k3==2 then
     Jg (fun v=>Yd N v.1 v.2.1 v.2.2.1 v.2.2.2.1) n0_1 k3 s4_1 i5 (bits .or .i64 t19 (64:Int))
    else
     bif k3==4 then
      Jg (fun v=>Yd N v.1 v.2.1 v.2.2.1 v.2.2.2.1) n0_1 k3 s4_1 i5 (bits .or .i64 t19 (128:Int))
     else
      bif k3==8 then
       Jg (fun v=>Yd N v.1 v.2.1 v.2.2.1 v.2.2.2.1) n0_1 k3 s4_1 i5 (bits .or .i64 t19 (192:Int))
      else
       Jg (fun v=>Yd N v.1 v.2.1 v.2.2.1 v.2.2.2.1) n0_1 k3 s4_1 i5 t19
   else
    Jg (fun v=>Yd N v.1 v.2.1 v.2.2.1 v.2.2.2.1) n0_1 k3 s4_1 i5 t19
  else
   some (s4_1,())
def Zo0(n0:Int):Option (List UInt8×Unit):=
 (Zon n0).bind fun t8=>
 Yd (Zh2 n0 t8.1 ([]:List UInt8) (IntKind.i64.wrap (t8.1-1))) n0 t8.1 ([]:List UInt8) (IntKind.i64.wrap (t8.1-1))
abbrev Z2o:List PE:=[.val 0 (.slice 3 (.int .i64)) (.u false),.val 3 (.str) (.u false),.val 4 (.int .i64) (.u false)]
def Zg0(l0_1:List Int)(s3_1:List UInt8)(i4:Int):Nat:=((l0_1.length:Int)-i4).toNat+1
def Zc8:Nat→List Int→List UInt8→Int→Option (List UInt8×Unit)
 |0,_,_,_=>none
 |N+1,l0_1,s3_1,i4=>
  bif decide (i4< (l0_1.length:Int))then
   Zc (0≤i4∧i4<l0_1.length)<|
   (Zon (l0_1.getD i4.toNat (0:Int))).bind fun t15=>
   bif t15.1==0 then
    some (([]:List UInt8),())
   else
    Zc (0≤i4∧i4<l0_1.length)<|
    (Zo0 (l0_1.getD i4.toNat (0:Int))).bind fun t22=>
    Zc (s3_1.length+t22.1.length≤Z8)<|
    Zc8 N l0_1 (s3_1++t22.1) (IntKind.i64.wrap (i4+1))
  else
   some (s3_1,())
def X5(l0:List Int):Option (List UInt8×Unit):=
 Zc8 (Zg0 l0 ([]:List UInt8) (0:Int)) l0 ([]:List UInt8) (0:Int)
abbrev Z2k:List PE:=[.box 1 106 (Zu) (.u false),.val 3 (.int .i64) (.u false)]
def Zha(f1:Zh)(kind3:Int):Option (List UInt8×Unit):=
 bif f1.2.2.1==0 then
  (X5 ([kind3,f1.2.1,(f1.2.2.2.1.length:Int)])).bind fun t44=>
  Zc (t44.1.length+f1.2.2.2.1.length≤Z8)<|
  some (t44.1++f1.2.2.2.1,())
 else
  (X5 ([(IntKind.i64.wrap (kind3+4)),f1.2.1,f1.2.2.1,(f1.2.2.2.1.length:Int)])).bind fun t58=>
  Zc (t58.1.length+f1.2.2.2.1.length≤Z8)<|
  some (t58.1++f1.2.2.2.1,())
abbrev Z2n:List PE:=[.box 1 106 (Zu) (.u false),.val 4 (.int .i64) (.u false)]
def Zhd(f1_3:Zh)(kind4:Int):Option (List UInt8×Unit):=
 (X5 ([kind4,f1_3.2.2.2.2.2.2.1])).bind fun t92=>
 some (t92.1,())
abbrev Z2m:List PE:=[.box 1 106 (Zu) (.u false),.val 71 (.bool) (.u false)]
def Zhc(f1_2:Zh)(t71:Bool):Option (List UInt8×Unit):=
 bif t71 then
  (X5 ([f1_2.1,f1_2.2.1,f1_2.2.2.2.2.2.2.1])).bind fun t81=>
  some (t81.1,())
 else
  bif f1_2.2.2.2.2.2.2.2.2.1 then
   Zhd f1_2 (IntKind.i64.wrap (f1_2.1+1))
  else
   Zhd f1_2 f1_2.1
abbrev Z2l:List PE:=[.box 1 106 (Zu) (.u false),.val 9 (.int .i64) (.u false),.val 62 (.bool) (.u false)]
def Zhb(f1_1:Zh)(t9:Int)(t62:Bool):Option (List UInt8×Unit):=
 bif t62 then
  (X5 ([f1_1.1,f1_1.2.2.2.2.2.2.1])).bind fun t70=>
  some (t70.1,())
 else
  bif t9==17 then
   Zhc f1_1 (t9==17)
  else
   Zhc f1_1 (t9==21)
def Zd5(f0:Zh):Option (List UInt8×Unit):=
 (Jv f0).bind fun t6=>
 bif !t6.1 then
  some (([]:List UInt8),())
 else
  bif f0.1==4 then
   (X5 ([(4:Int),f0.2.1,f0.2.2.2.2.2.1,f0.2.2.2.2.2.2.2.1])).bind fun t19=>
   some (t19.1,())
  else
   bif f0.1==5 then
    (X5 ([(5:Int),f0.2.1,f0.2.2.2.2.2.1])).bind fun t27=>
    some (t27.1,())
   else
    bif f0.1==8 then
     bif f0.2.2.2.2.1 then
      Zha f0 (IntKind.i64.wrap ((10:Int)+ (1:Int)))
     else
      Zha f0 (10:Int)
    else
     bif f0.1==16 then
      Zhb f0 f0.1 (f0.1==16)
     else
      Zhb f0 f0.1 (f0.1==20)
def Zen(f0:Zh):Option (Int×Unit):=
 (Zd5 f0).bind fun t4=>
 some ((t4.1.length:Int),())
def Zga(c0:K5):Option (K5×Unit):=
 (Y6 c0).bind fun t4=>
 bif t4.1&& (c0.2.2.1 !=(-1:Int))then
  some ((c0.1,(c0.2.1,((-1:Int),(c0.2.2.1,c0.2.2.2.2)))),())
 else
  some (c0,())
abbrev Z42:List PE:=[.val 0 (.slice 88 (Z2)) (.u false),.val 1 (.int .i64) (.u false),.val 5 (.int .i64) (.u false)]
def Zh3(l0_1:List Zp)(id1_1:Int)(i5:Int):Nat:=((l0_1.length:Int)-i5).toNat+1
def Zem:Nat→List Zp→Int→Int→Option (Int×Unit)
 |0,_,_,_=>none
 |N+1,l0_1,id1_1,i5=>
  bif decide (i5< (l0_1.length:Int))then
   Zc (0≤i5∧i5<l0_1.length)<|
   bif(l0_1.getD i5.toNat Zm).1==id1_1 then
    some (i5,())
   else
    Zem N l0_1 id1_1 (IntKind.i64.wrap (i5+1))
  else
   some ((-1:Int),())
def Zfx(l0:List Zp)(id1:Int):Option (Int×Unit):=
 Zem (Zh3 l0 id1 (0:Int)) l0 id1 (0:Int)
def Q0(c0:Zg)(id1:Int):Option (Zp×Bool×Unit):=
 (Zfx c0.2.2.2.1 id1).bind fun t10=>
 bif decide (t10.1< (0:Int))then
  some (Zm,false,())
 else
  Zc (0≤t10.1∧t10.1<c0.2.2.2.1.length)<|
  (Zdo (c0.2.2.2.1.getD t10.1.toNat Zm)).bind fun t19=>
  some (t19.1,true,())
def Zva(c0:Zg)(s1:Zp)(kind2:Int):Option ((Zp×Unit)×(Unit)):=
 bif kind2==4 then
  some (((s1.1,(s1.2.1,(s1.2.2.1,(s1.2.2.2.1,(s1.2.2.2.2.1,(s1.2.2.2.2.2.1,(s1.2.2.2.2.2.2.1,(s1.2.2.2.2.2.2.2.1,(false,s1.2.2.2.2.2.2.2.2.2))))))))),()),())
 else
  bif kind2==5 then
   some (((s1.1,(s1.2.1,(s1.2.2.1,(s1.2.2.2.1,(s1.2.2.2.2.1,(s1.2.2.2.2.2.1,(s1.2.2.2.2.2.2.1,(s1.2.2.2.2.2.2.2.1,(s1.2.2.2.2.2.2.2.2.1,(false,s1.2.2.2.2.2.2.2.2.2.2)))))))))),()),())
  else
   bif kind2==17 then
    (Zms c0 s1).bind fun t21=>
    bif t21.2.1 then
     some (((s1.1,(s1.2.1,(s1.2.2.1,(s1.2.2.2.1,(t21.1,(s1.2.2.2.2.2.1,(s1.2.2.2.2.2.2.1,(s1.2.2.2.2.2.2.2.1,(s1.2.2.2.2.2.2.2.2.1,(s1.2.2.2.2.2.2.2.2.2.1,(false,s1.2.2.2.2.2.2.2.2.2.2.2))))))))))),()),())
    else
     some (((s1.1,(s1.2.1,(s1.2.2.1,(s1.2.2.2.1,(s1.2.2.2.2.1,(s1.2.2.2.2.2.1,(s1.2.2.2.2.2.2.1,(s1.2.2.2.2.2.2.2.1,(s1.2.2.2.2.2.2.2.2.1,(s1.2.2.2.2.2.2.2.2.2.1,(false,s1.2.2.2.2.2.2.2.2.2.2.2))))))))))),()),())
   else
    bif kind2==21 then
     (Zga s1.2.2.1).bind fun t32=>
     some (((s1.1,(s1.2.1,(t32.1,s1.2.2.2))),()),())
    else
     some ((s1,()),())
abbrev Z70:List PE:=[.val 0 (.slice 88 (Z2)) (.u false),.box 3 88 (Z2) (.u false),.val 5 (.slice 88 (Z2)) (.u true),.val 6 (.int .i64) (.u false),.val 7 (.bool) (.u false),.val 8 (.int .i64) (.u false),.box 9 88 (Z2) (.u true)]
def Zco(K1: (List Zp×Zp×List Zp×Int×Bool×Int×Unit)→Option (List Zp×Unit))(l0_2:List Zp)(s3_1:Zp)(out5_1:List Zp)(at6_1:Int)(placed7_1:Bool)(i8_1:Int)(x9:Zp):Option (List Zp×Unit):=
 Zc (out5_1.length+ ([x9]).length≤Qp)<|
 K1 (l0_2,s3_1,out5_1++ ([x9]),at6_1,placed7_1,IntKind.i64.wrap (i8_1+1),())
abbrev Z71:List PE:=[.val 0 (.slice 88 (Z2)) (.u false),.box 3 88 (Z2) (.u false),.val 5 (.slice 88 (Z2)) (.u true),.val 6 (.int .i64) (.u false),.val 7 (.bool) (.u false),.val 8 (.int .i64) (.u false)]
def Zju(l0_1:List Zp)(s3:Zp)(out5:List Zp)(at6:Int)(placed7:Bool)(i8:Int):Nat:=((l0_1.length:Int)-i8).toNat+1
def Vb:Nat→List Zp→Zp→List Zp→Int→Bool→Int→Option (List Zp×Unit)
 |0,_,_,_,_,_,_=>none
 |N+1,l0_1,s3,out5,at6,placed7,i8=>
  bif decide (i8< (l0_1.length:Int))then
   Zc (0≤i8∧i8<l0_1.length)<|
   (Zdo (l0_1.getD i8.toNat Zm)).bind fun t29=>
   bif i8==at6 then
    (Zdo s3).bind fun t34=>
    Zco (fun v=>Vb N v.1 v.2.1 v.2.2.1 v.2.2.2.1 v.2.2.2.2.1 v.2.2.2.2.2.1) l0_1 s3 out5 at6 placed7 i8 t34.1
   else
    Zc (((!placed7)=true→(0≤i8∧i8<l0_1.length)))<|
    bif(!placed7)&& (decide ((l0_1.getD i8.toNat Zm).1>s3.1))then
     (Zdo s3).bind fun t48=>
     Zc (out5.length+ ([t48.1]).length≤Qp)<|
     Zco (fun v=>Vb N v.1 v.2.1 v.2.2.1 v.2.2.2.1 v.2.2.2.2.1 v.2.2.2.2.2.1) l0_1 s3 (out5++ ([t48.1])) at6 true i8 t29.1
    else
     Zco (fun v=>Vb N v.1 v.2.1 v.2.2.1 v.2.2.2.1 v.2.2.2.2.1 v.2.2.2.2.2.1) l0_1 s3 out5 at6 placed7 i8 t29.1
  else
   bif !placed7 then
    (Zdo s3).bind fun t60=>
    Zc (out5.length+ ([t60.1]).length≤Qp)<|
    some (out5++ ([t60.1]),())
   else
    some (out5,())
def Xo(l0:List Zp)(s1:Zp):Option (List Zp×Unit):=
 (Zfx l0 s1.1).bind fun t16=>
 Vb (Zju l0 s1 ([]:List Zp) t16.1 (decide (t16.1≥(0:Int))) (0:Int)) l0 s1 ([]:List Zp) t16.1 (decide (t16.1≥(0:Int))) (0:Int)
def Znf(c0:Zg)(f1:Zh):Option (Zg×Unit):=
 (Zy c0).bind fun t15=>
 (Z5 c0).bind fun t17=>
 bif !t17.1 then
  some (t15.1,())
 else
  bif f1.1==16 then
   (Zop c0).bind fun t43=>
   some ((t15.1.1,(t15.1.2.1,(t15.1.2.2.1,(t15.1.2.2.2.1,(t15.1.2.2.2.2.1,(t43.1,(t15.1.2.2.2.2.2.2.1,(t15.1.2.2.2.2.2.2.2.1,(t15.1.2.2.2.2.2.2.2.2.1,(t15.1.2.2.2.2.2.2.2.2.2.1,(false,t15.1.2.2.2.2.2.2.2.2.2.2.2))))))))))),())
  else
   bif f1.1==18 then
    bif f1.2.2.2.2.2.2.2.2.1 then
     (Zg3 c0.2.2.2.2.2.2.2.2.2.1 false).bind fun t56=>
     some ((t15.1.1,(t15.1.2.1,(t15.1.2.2.1,(t15.1.2.2.2.1,(t15.1.2.2.2.2.1,(t15.1.2.2.2.2.2.1,(t15.1.2.2.2.2.2.2.1,(t15.1.2.2.2.2.2.2.2.1,(t15.1.2.2.2.2.2.2.2.2.1,(t56.1,(t15.1.2.2.2.2.2.2.2.2.2.2.1,(t15.1.2.2.2.2.2.2.2.2.2.2.2.1,(false,t15.1.2.2.2.2.2.2.2.2.2.2.2.2.2))))))))))))),())
    else
     (Zg3 c0.2.2.2.2.2.2.2.2.1 false).bind fun t65=>
     some ((t15.1.1,(t15.1.2.1,(t15.1.2.2.1,(t15.1.2.2.2.1,(t15.1.2.2.2.2.1,(t15.1.2.2.2.2.2.1,(t15.1.2.2.2.2.2.2.1,(t15.1.2.2.2.2.2.2.2.1,(t65.1,(t15.1.2.2.2.2.2.2.2.2.2.1,(t15.1.2.2.2.2.2.2.2.2.2.2.1,(false,t15.1.2.2.2.2.2.2.2.2.2.2.2.2)))))))))))),())
   else
    bif f1.1==20 then
     (Zga c0.2.2.2.2.1).bind fun t75=>
     some ((t15.1.1,(t15.1.2.1,(t15.1.2.2.1,(t15.1.2.2.2.1,(t75.1,t15.1.2.2.2.2.2))))),())
    else
     bif f1.1==22 then
      bif f1.2.2.2.2.2.2.2.2.1 then
       some ((t15.1.1,(t15.1.2.1,(t15.1.2.2.1,(t15.1.2.2.2.1,(t15.1.2.2.2.2.1,(t15.1.2.2.2.2.2.1,(t15.1.2.2.2.2.2.2.1,((t15.1.2.2.2.2.2.2.2.1.1,(t15.1.2.2.2.2.2.2.2.1.2.1,((-1:Int),t15.1.2.2.2.2.2.2.2.1.2.2.2))),t15.1.2.2.2.2.2.2.2.2)))))))),())
      else
       some ((t15.1.1,(t15.1.2.1,(t15.1.2.2.1,(t15.1.2.2.2.1,(t15.1.2.2.2.2.1,(t15.1.2.2.2.2.2.1,((t15.1.2.2.2.2.2.2.1.1,(t15.1.2.2.2.2.2.2.1.2.1,((-1:Int),t15.1.2.2.2.2.2.2.1.2.2.2))),t15.1.2.2.2.2.2.2.2))))))),())
     else
      (Q0 c0 f1.2.1).bind fun t26=>
      bif t26.2.1 then
       (Zva c0 t26.1 f1.1).bind fun t36=>
       (Xo t15.1.2.2.2.1 t36.1.1).bind fun t37=>
       some ((t15.1.1,(t15.1.2.1,(t15.1.2.2.1,(t37.1,t15.1.2.2.2.2)))),())
      else
       some (t15.1,())
abbrev Z5n:List PE:=[.box 1 37 (Zl) (.u false),.val 3 (.slice 323 (Xi)) (.u true),.val 4 (.int .i64) (.u false)]
def Ze8(K1: (Zg×List Z1×Int×Unit)→Option (List Z1×Unit))(c1_1:Zg)(out3_1:List Z1)(i4_1:Int):Option (List Z1×Unit):=
 K1 (c1_1,out3_1,IntKind.i64.wrap (i4_1+1),())
abbrev Z5o:List PE:=[.box 1 37 (Zl) (.u false),.val 3 (.slice 323 (Xi)) (.u true),.val 4 (.int .i64) (.u false)]
def Zir(c1:Zg)(out3:List Z1)(i4:Int):Nat:=((c1.2.2.2.1.length:Int)-i4).toNat+1
def V6:Nat→Zg→List Z1→Int→Option (List Z1×Unit)
 |0,_,_,_=>none
 |N+1,c1,out3,i4=>
  bif decide (i4< (c1.2.2.2.1.length:Int))then
   Zc (0≤i4∧i4<c1.2.2.2.1.length)<|
   bif((c1.2.2.2.1.getD i4.toNat Zm).2.2.2.2.2.2.1&& (decide ((c1.2.2.2.1.getD i4.toNat Zm).2.1.1< (3:Int))))&& ((decide (((c1.2.2.2.1.getD i4.toNat Zm).2.1.2.2.1.length:Int)>(0:Int)))|| ((c1.2.2.2.1.getD i4.toNat Zm).2.1.2.2.2.2.2.2.1==1))then
    let t46:List Z1:=[((c1.2.2.2.1.getD i4.toNat Zm).1,((c1.2.2.2.1.getD i4.toNat Zm).2.2.2.2.2.1,()))]
    Zc (out3.length+t46.length≤Qp)<|
    Ze8 (fun v=>V6 N v.1 v.2.1 v.2.2.1) c1 (out3++t46) i4
   else
    Ze8 (fun v=>V6 N v.1 v.2.1 v.2.2.1) c1 out3 i4
  else
   some (out3,())
def Zpd(c0:Zg):Option (List Z1×Unit):=
 V6 (Zir c0 ([]:List Z1) (0:Int)) c0 ([]:List Z1) (0:Int)
abbrev Z5p:List PE:=[.val 0 (.slice 323 (Xi)) (.u false),.val 1 (.int .i64) (.u false),.val 5 (.slice 323 (Xi)) (.u true),.val 6 (.int .i64) (.u false)]
def Ze9(K1: (List Z1×Int×List Z1×Int×Unit)→Option (List Z1×Unit))(l0_2:List Z1)(id1_2:Int)(out5_1:List Z1)(i6_1:Int):Option (List Z1×Unit):=
 K1 (l0_2,id1_2,out5_1,IntKind.i64.wrap (i6_1+1),())
abbrev Z5q:List PE:=[.val 0 (.slice 323 (Xi)) (.u false),.val 1 (.int .i64) (.u false),.val 5 (.slice 323 (Xi)) (.u true),.val 6 (.int .i64) (.u false)]
def Zis(l0_1:List Z1)(id1_1:Int)(out5:List Z1)(i6:Int):Nat:=((l0_1.length:Int)-i6).toNat+1
def V7:Nat→List Z1→Int→List Z1→Int→Option (List Z1×Unit)
 |0,_,_,_,_=>none
 |N+1,l0_1,id1_1,out5,i6=>
  bif decide (i6< (l0_1.length:Int))then
   Zc (0≤i6∧i6<l0_1.length)<|
   bif(l0_1.getD i6.toNat Kw).1 !=id1_1 then
    Zc (0≤i6∧i6<l0_1.length)<|
    Zc (out5.length+ ([(l0_1.getD i6.toNat Kw)]).length≤Qp)<|
    Ze9 (fun v=>V7 N v.1 v.2.1 v.2.2.1 v.2.2.2.1) l0_1 id1_1 (out5++ ([(l0_1.getD i6.toNat Kw)])) i6
   else
    Ze9 (fun v=>V7 N v.1 v.2.1 v.2.2.1 v.2.2.2.1) l0_1 id1_1 out5 i6
  else
   some (out5,())
def Zpe(l0:List Z1)(id1:Int):Option (List Z1×Unit):=
 V7 (Zis l0 id1 ([]:List Z1) (0:Int)) l0 id1 ([]:List Z1) (0:Int)
abbrev Zyx:List PE:=[.val 0 (.slice 323 (Xi)) (.u false),.val 3 (.int .i64) (.u false)]
def Zeg(l0_1:List Z1)(i3:Int):Nat:=((l0_1.length:Int)-i3).toNat+1
def Zax:Nat→List Z1→Int→Option (Bool×Unit)
 |0,_,_=>none
 |N+1,l0_1,i3=>
  bif decide (i3< (l0_1.length:Int))then
   Zc (0≤i3∧i3<l0_1.length)<|
   (Qh (l0_1.getD i3.toNat Kw).1).bind fun t15=>
   Zc (((!t15.1)=false→(0≤i3∧i3<l0_1.length)))<|
   (bif(!t15.1)then some (false,())else(Zcx (l0_1.getD i3.toNat Kw).2.1)).bind fun t23=>
   Zc ((((!t15.1)|| (!t23.1))=false→((decide (i3>(0:Int)))=true→(0≤i3∧i3<l0_1.length))))<|
   Zc ((((!t15.1)|| (!t23.1))=false→((decide (i3>(0:Int)))=true→(0≤(IntKind.i64.wrap (i3-1))∧(IntKind.i64.wrap (i3-1))<l0_1.length))))<|
   bif((!t15.1)|| (!t23.1))|| ((decide (i3>(0:Int)))&& (decide ((l0_1.getD i3.toNat Kw).1≤(l0_1.getD (IntKind.i64.wrap (i3-1)).toNat Kw).1)))then
    some (false,())
   else
    Zax N l0_1 (IntKind.i64.wrap (i3+1))
  else
   some (true,())
def Zji(l0:List Z1):Option (Bool×Unit):=
 Zax (Zeg l0 (0:Int)) l0 (0:Int)
abbrev Z49:List PE:=[.val 0 (.slice 323 (Xi)) (.u false),.val 3 (.slice 3 (.int .i64)) (.u true),.val 4 (.int .i64) (.u false),.val 5 (.int .i64) (.u false)]
def Zew(K1: (List Z1×List Int×Int×Int×Unit)→Option (List Int×Unit))(l0_2:List Z1)(out3_1:List Int)(best4_1:Int)(i5_1:Int):Option (List Int×Unit):=
 K1 (l0_2,out3_1,best4_1,IntKind.i64.wrap (i5_1+1),())
abbrev Z5a:List PE:=[.val 0 (.slice 323 (Xi)) (.u false),.val 3 (.slice 3 (.int .i64)) (.u true),.val 4 (.int .i64) (.u false),.val 5 (.int .i64) (.u false)]
def Zex(K1: (List Z1×List Int×Int×Int×Unit)→Option (List Int×Unit))(l0_3:List Z1)(out3_2:List Int)(best4_2:Int)(i5_2:Int):Option (List Int×Unit):=
 Zc (0≤i5_2∧i5_2<l0_3.length)<|
 bif(l0_3.getD i5_2.toNat Kw).2.1.1==best4_2 then
  Zc (0≤i5_2∧i5_2<l0_3.length)<|
  Zc (out3_2.length+ ([(l0_3.getD i5_2.toNat Kw).1]).length≤Qp)<|
  Zew K1 l0_3 (out3_2++ ([(l0_3.getD i5_2.toNat Kw).1])) best4_2 i5_2
 else
  Zew K1 l0_3 out3_2 best4_2 i5_2
abbrev Z5b:List PE:=[.val 0 (.slice 323 (Xi)) (.u false),.val 3 (.slice 3 (.int .i64)) (.u true),.val 4 (.int .i64) (.u false),.val 5 (.int .i64) (.u false)]
def Zh6(l0_1:List Z1)(out3:List Int)(best4:Int)(i5:Int):Nat:=((l0_1.length:Int)-i5).toNat+1
def Jj:Nat→List Z1→List Int→Int→Int→Option (List Int×Unit)
 |0,_,_,_,_=>none
 |N+1,l0_1,out3,best4,i5=>
  (bif(decide (i5< (l0_1.length:Int)))then(Zji l0_1)else some (false,())).bind fun t13=>
  bif(decide (i5< (l0_1.length:Int)))&&t13.1 then
   Zc (0≤i5∧i5<l0_1.length)<|
   bif decide ((l0_1.getD i5.toNat Kw).2.1.1<best4)then
    Zc (0≤i5∧i5<l0_1.length)<|
    Zex (fun v=>Jj N v.1 v.2.1 v.2.2.1 v.2.2.2.1) l0_1 ([]:List Int) (l0_1.getD i5.toNat Kw).2.1.1 i5
   else
    Zex (fun v=>Jj N v.1 v.2.1 v.2.2.1 v.2.2.2.1) l0_1 out3 best4 i5
  else
   some (out3,())
def Zo7(l0:List Z1):Option (List Int×Unit):=
 Jj (Zh6 l0 ([]:List Int) (8:Int) (0:Int)) l0 ([]:List Int) (8:Int) (0:Int)
abbrev Qcd:List PE:=[.val 0 (.slice 3 (.int .i64)) (.u false),.val 1 (.int .i64) (.u false),.val 5 (.int .i64) (.u false)]
def Zld(l0_1:List Int)(last1_1:Int)(i5:Int):Nat:=((l0_1.length:Int)-i5).toNat+1
def Zin:Nat→List Int→Int→Int→Option (Int×Unit)
 |0,_,_,_=>none
 |N+1,l0_1,last1_1,i5=>
  bif decide (i5< (l0_1.length:Int))then
   Zc (0≤i5∧i5<l0_1.length)<|
   bif decide ((l0_1.getD i5.toNat (0:Int))>last1_1)then
    Zc (0≤i5∧i5<l0_1.length)<|
    some (l0_1.getD i5.toNat (0:Int),())
   else
    Zin N l0_1 last1_1 (IntKind.i64.wrap (i5+1))
  else
   bif(l0_1.length:Int)==(0:Int)then
    some ((-1:Int),())
   else
    Zc (0≤(0:Int)∧(0:Int)<l0_1.length)<|
    some (l0_1.getD (0:Int).toNat (0:Int),())
def Zs2(l0:List Int)(last1:Int):Option (Int×Unit):=
 Zin (Zld l0 last1 (0:Int)) l0 last1 (0:Int)
abbrev Z5c:List PE:=[.val 0 (.slice 323 (Xi)) (.u false),.val 1 (.int .i64) (.u false),.val 5 (.slice 3 (.int .i64)) (.u true),.val 6 (.slice 3 (.int .i64)) (.u true),.val 7 (.int .i64) (.u false),.val 8 (.int .i64) (.u false)]
def Zey(K1: (List Z1×Int×List Int×List Int×Int×Unit)→Option (Int×Unit))(K2: (List Z1×Int×List Int×List Int×Int×Int×Unit)→Option (Int×Unit))(l0_3:List Z1)(last1_3:Int)(m5_2:List Int)(some6_2:List Int)(i7_2:Int)(k8_1:Int):Option (Int×Unit):=
 K2 (l0_3,last1_3,m5_2,some6_2,i7_2,IntKind.i64.wrap (k8_1+1),())
abbrev Z5e:List PE:=[.val 0 (.slice 323 (Xi)) (.u false),.val 1 (.int .i64) (.u false),.val 5 (.slice 3 (.int .i64)) (.u true),.val 6 (.slice 3 (.int .i64)) (.u true),.val 7 (.int .i64) (.u false),.val 8 (.int .i64) (.u false)]
def Zic(l0_2:List Z1)(last1_2:Int)(m5_1:List Int)(some6_1:List Int)(i7_1:Int)(k8:Int):Nat:=((m5_1.length:Int)-k8).toNat+1
def V4(K1: (List Z1×Int×List Int×List Int×Int×Unit)→Option (Int×Unit)):Nat→List Z1→Int→List Int→List Int→Int→Int→Option (Int×Unit)
 |0,_,_,_,_,_,_=>none
 |N+1,l0_2,last1_2,m5_1,some6_1,i7_1,k8=>
  bif decide (k8< (m5_1.length:Int))then
   Zc (0≤k8∧k8<m5_1.length)<|
   Zc (0≤i7_1∧i7_1<l0_2.length)<|
   let t33:Bool:=(m5_1.getD k8.toNat (0:Int))==(l0_2.getD i7_1.toNat Kw).1
   Zc ((t33=true→(0≤i7_1∧i7_1<l0_2.length)))<|
   bif t33&& (!(l0_2.getD i7_1.toNat Kw).2.1.2.1)then
    Zc (0≤i7_1∧i7_1<l0_2.length)<|
    some ((l0_2.getD i7_1.toNat Kw).1,())
   else
    Zc (0≤k8∧k8<m5_1.length)<|
    Zc (0≤i7_1∧i7_1<l0_2.length)<|
    bif(m5_1.getD k8.toNat (0:Int))==(l0_2.getD i7_1.toNat Kw).1 then
     Zc (0≤i7_1∧i7_1<l0_2.length)<|
     Zc (some6_1.length+ ([(l0_2.getD i7_1.toNat Kw).1]).length≤Qp)<|
     Zey K1 (fun v=>V4 K1 N v.1 v.2.1 v.2.2.1 v.2.2.2.1 v.2.2.2.2.1 v.2.2.2.2.2.1) l0_2 last1_2 m5_1 (some6_1++ ([(l0_2.getD i7_1.toNat Kw).1])) i7_1 k8
    else
     Zey K1 (fun v=>V4 K1 N v.1 v.2.1 v.2.2.1 v.2.2.2.1 v.2.2.2.2.1 v.2.2.2.2.2.1) l0_2 last1_2 m5_1 some6_1 i7_1 k8
  else
   K1 (l0_2,last1_2,m5_1,some6_1,IntKind.i64.wrap (i7_1+1),())
abbrev Z5d:List PE:=[.val 0 (.slice 323 (Xi)) (.u false),.val 1 (.int .i64) (.u false),.val 5 (.slice 3 (.int .i64)) (.u true),.val 6 (.slice 3 (.int .i64)) (.u true),.val 7 (.int .i64) (.u false)]
def Zib(l0_1:List Z1)(last1_1:Int)(m5:List Int)(some6:List Int)(i7:Int):Nat:=((l0_1.length:Int)-i7).toNat+1
def Jk:Nat→List Z1→Int→List Int→List Int→Int→Option (Int×Unit)
 |0,_,_,_,_,_=>none
 |N+1,l0_1,last1_1,m5,some6,i7=>
  bif decide (i7< (l0_1.length:Int))then
   V4 (fun v=>Jk N v.1 v.2.1 v.2.2.1 v.2.2.2.1 v.2.2.2.2.1) (Zic l0_1 last1_1 m5 some6 i7 (0:Int)) l0_1 last1_1 m5 some6 i7 (0:Int)
  else
   (Zs2 some6 last1_1).bind fun t68=>
   some (t68.1,())
def Zo8(l0:List Z1)(last1:Int):Option (Int×Unit):=
 (Zo7 l0).bind fun t10=>
 Jk (Zib l0 last1 t10.1 ([]:List Int) (0:Int)) l0 last1 t10.1 ([]:List Int) (0:Int)
def Zag(c0:K5):Option (Int×Unit):=
 (Y6 c0).bind fun t4=>
 bif !t4.1 then
  some ((0:Int),())
 else
  some (IntKind.i64.wrap (c0.1-c0.2.1),())
abbrev Qcb:List PE:=[.val 1 (.int .i64) (.u false),.val 2 (.int .i64) (.u false),.box 3 76 (Zcz) (.u false),.val 8 (.str) (.u false),.val 9 (.int .i64) (.u false)]
def Zfl(offset1_1:Int)(n2_1:Int)(r3:Kx)(s8_1:List UInt8)(i9:Int):Nat:=(n2_1-i9).toNat+1
def Zig:Nat→Int→Int→Kx→List UInt8→Int→Option (List UInt8×Bool×Unit)
 |0,_,_,_,_,_=>none
 |N+1,offset1_1,n2_1,r3,s8_1,i9=>
  bif decide (i9<n2_1)then
   Zc (r3.1≠0)<|
   let t50:Int:=Int.tmod (IntKind.i64.wrap (offset1_1+i9)) r3.1
   Zc (0≤t50∧t50<r3.2.2.2.1.length)<|
   (Zp8 (r3.2.2.2.1.getD t50.toNat (0:Int))).bind fun t53=>
   Zc (s8_1.length+t53.1.length≤Z8)<|
   Zig N offset1_1 n2_1 r3 (s8_1++t53.1) (IntKind.i64.wrap (i9+1))
  else
   some (s8_1,true,())
def Zs0(r0:Kx)(offset1:Int)(n2:Int):Option (List UInt8×Bool×Unit):=
 (Zb7 r0).bind fun t11=>
 bif((((!t11.1)|| (decide (offset1<r0.2.1)))|| (decide (n2< (0:Int))))|| (decide (offset1>r0.2.2.1)))|| (decide (n2>(IntKind.i64.wrap (r0.2.2.1-offset1))))then
  some (([]:List UInt8),false,())
 else
  Zig (Zfl offset1 n2 r0 ([]:List UInt8) (0:Int)) offset1 n2 r0 ([]:List UInt8) (0:Int)
abbrev Z7z:List PE:=[.box 3 79 (Qc) (.u false),.box 6 278 (Zbv) (.u false),.box 8 278 (Zbv) (.u false),.box 9 195 (Zt) (.u false),.val 10 (.int .i64) (.u false)]
def Zgn(s3:Zs)(t6:Ku)(p8:Ku)(r9:Ze)(high10:Int):Option (Ku×Bool×Unit):=
 bif decide (high10≤r9.1)then
  some (Zrv,false,())
 else
  (Zs0 s3.2.1 r9.1 (IntKind.i64.wrap (high10-r9.1))).bind fun t70=>
  some ((r9.1,(t70.1,(p8.2.2.1&& (high10==s3.2.2.2.2.2.1),()))),true,())
def Zrf(s0:Zs)(most1:Int)(limit2:Int):Option (Ku×Bool×Unit):=
 (Yg s0).bind fun t14=>
 bif(!t14.1)|| (decide (s0.1>(2:Int)))then
  some (Zrv,false,())
 else
  bif decide ((s0.2.2.1.length:Int)>(0:Int))then
   Zc (0≤(0:Int)∧(0:Int)<s0.2.2.1.length)<|
   let t39:Int:=min (s0.2.2.1.getD (0:Int).toNat Zz).2.1 limit2
   bif decide (t39≤(s0.2.2.1.getD (0:Int).toNat Zz).1)then
    some (Zrv,false,())
   else
    bif decide (most1< (IntKind.i64.wrap (t39- (s0.2.2.1.getD (0:Int).toNat Zz).1)))then
     Zgn s0 Zrv (s0.2.2.2.2.2.1,(([]:List UInt8),(s0.2.2.2.2.2.2.1==1,()))) (s0.2.2.1.getD (0:Int).toNat Zz) (IntKind.i64.wrap ((s0.2.2.1.getD (0:Int).toNat Zz).1+ (max most1 (0:Int))))
    else
     Zgn s0 Zrv (s0.2.2.2.2.2.1,(([]:List UInt8),(s0.2.2.2.2.2.2.1==1,()))) (s0.2.2.1.getD (0:Int).toNat Zz) t39
  else
   bif !(s0.2.2.2.2.2.2.1==1)then
    some (Zrv,false,())
   else
    some ((s0.2.2.2.2.2.1,(([]:List UInt8),(s0.2.2.2.2.2.2.1==1,()))),true,())
def Zt9(id0:Int)(p1:Ku):Option (Zh×Unit):=
 some (((8:Int),(id0,(p1.1,(p1.2.1,(p1.2.2.1,((0:Int),((0:Int),((0:Int),(false,()))))))))),())
abbrev Qcc:List PE:=[.val 1 (.int .i64) (.u false),.val 2 (.int .i64) (.u false),.box 6 278 (Zbv) (.u false),.box 8 88 (Z2) (.u true),.val 10 (.int .i64) (.u false),.val 11 (.int .i64) (.u false)]
def Zlc(id1_1:Int)(room2_1:Int)(t6:Ku)(s8:Zp)(limit10:Int)(n11:Int):Nat:=(n11-0).toNat+1
def Zih:Nat→Int→Int→Ku→Zp→Int→Int→Option (Ku×Bool×Unit)
 |0,_,_,_,_,_,_=>none
 |N+1,id1_1,room2_1,t6,s8,limit10,n11=>
  bif decide (n11>(0:Int))then
   (Zrf s8.2.1 n11 limit10).bind fun t59=>
   bif !t59.2.1 then
    some (Zrv,false,())
   else
    (Zt9 id1_1 t59.1).bind fun t67=>
    (Zen t67.1).bind fun t68=>
    bif decide (t68.1≤room2_1)then
     some (t59.1,true,())
    else
     Zih N id1_1 room2_1 t6 s8 limit10 (IntKind.i64.wrap (n11-1))
  else
   some (Zrv,false,())
def Zs1(c0:Zg)(id1:Int)(room2:Int):Option (Ku×Bool×Unit):=
 (Q0 c0 id1).bind fun t17=>
 (Z5 c0).bind fun t21=>
 bif(((!t21.1)|| (!t17.2.1))|| (!t17.1.2.2.2.2.2.2.1))|| (decide (room2< (3:Int)))then
  some (Zrv,false,())
 else
  (Zag c0.2.2.2.2.1).bind fun t45=>
  let t47:Int:=min t17.1.2.2.1.1 (IntKind.i64.wrap (t17.1.2.1.2.2.2.2.2.2.2.1+t45.1))
  Zih (Zlc id1 room2 Zrv t17.1 t47 (min room2 (60:Int))) id1 room2 Zrv t17.1 t47 (min room2 (60:Int))
def Zid(c0:K5):Option (K5×Unit):=
 (Y6 c0).bind fun t4=>
 bif((t4.1&& (c0.2.1==c0.1))&& (c0.2.2.1==(-1:Int)))&& (c0.2.2.2.1 !=c0.1)then
  some ((c0.1,(c0.2.1,(c0.1,c0.2.2.2))),())
 else
  some (c0,())
def Zs4(x0:Zg)(id1:Int):Option ((Unit)×(Zg×Unit)):=
 (Q0 x0 id1).bind fun t11=>
 (Zid t11.1.2.2.1).bind fun t16=>
 (Zid x0.2.2.2.2.1).bind fun t23=>
 (Xo x0.2.2.2.1 (t11.1.1,(t11.1.2.1,(t16.1,t11.1.2.2.2)))).bind fun t32=>
 some ((),((x0.1,(x0.2.1,(x0.2.2.1,(t32.1,(t23.1,x0.2.2.2.2.2))))),()))
def Zrt(s0:Zs)(p1:Ku):Option (Bool×Unit):=
 some ((((decide (p1.1≥(0:Int)))&& (decide (p1.1≤s0.2.1.2.2.1)))&& (decide ((p1.2.1.length:Int)≤(IntKind.i64.wrap (s0.2.1.2.2.1-p1.1)))))&& ((!p1.2.2.1)|| ((s0.2.2.2.2.2.1 !=(-1:Int))&& ((IntKind.i64.wrap (p1.1+ (p1.2.1.length:Int)))==s0.2.2.2.2.2.1))),())
def Znm(p0:Ku):Option (Ze×Unit):=
 some ((p0.1,(IntKind.i64.wrap (p0.1+ (p0.2.1.length:Int)),())),())
abbrev Z0p:List PE:=[.val 0 (.slice 195 (Zt)) (.u false),.val 1 (.slice 195 (Zt)) (.u false),.val 5 (.slice 195 (Zt)) (.u true),.val 6 (.int .i64) (.u false),.val 7 (.int .i64) (.u false)]
def Zgb(K1: (List Ze×List Ze×List Ze×Int×Unit)→Option (List Ze×Unit))(K2: (List Ze×List Ze×List Ze×Int×Int×Unit)→Option (List Ze×Unit))(a0_3:List Ze)(b1_3:List Ze)(out5_2:List Ze)(i6_2:Int)(k7_1:Int):Option (List Ze×Unit):=
 K2 (a0_3,b1_3,out5_2,i6_2,IntKind.i64.wrap (k7_1+1),())
abbrev Z0q:List PE:=[.val 0 (.slice 195 (Zt)) (.u false),.val 1 (.slice 195 (Zt)) (.u false),.val 5 (.slice 195 (Zt)) (.u true),.val 6 (.int .i64) (.u false),.val 7 (.int .i64) (.u false),.box 8 195 (Zt) (.u false)]
def Zmc(K1: (List Ze×List Ze×List Ze×Int×Unit)→Option (List Ze×Unit))(K2: (List Ze×List Ze×List Ze×Int×Int×Unit)→Option (List Ze×Unit))(a0_4:List Ze)(b1_4:List Ze)(out5_3:List Ze)(i6_3:Int)(k7_2:Int)(r8:Ze):Option (List Ze×Unit):=
 bif decide (r8.1<r8.2.1)then
  Zc (out5_3.length+ ([r8]).length≤Qp)<|
  Zgb K1 K2 a0_4 b1_4 (out5_3++ ([r8])) i6_3 k7_2
 else
  Zgb K1 K2 a0_4 b1_4 out5_3 i6_3 k7_2
abbrev Z0s:List PE:=[.val 0 (.slice 195 (Zt)) (.u false),.val 1 (.slice 195 (Zt)) (.u false),.val 5 (.slice 195 (Zt)) (.u true),.val 6 (.int .i64) (.u false),.val 7 (.int .i64) (.u false)]
def Zas(a0_2:List Ze)(b1_2:List Ze)(out5_1:List Ze)(i6_1:Int)(k7:Int):Nat:=((b1_2.length:Int)-k7).toNat+1
def Wg(K1: (List Ze×List Ze×List Ze×Int×Unit)→Option (List Ze×Unit)):Nat→List Ze→List Ze→List Ze→Int→Int→Option (List Ze×Unit)
 |0,_,_,_,_,_=>none
 |N+1,a0_2,b1_2,out5_1,i6_1,k7=>
  bif decide (k7< (b1_2.length:Int))then
   Zc (0≤i6_1∧i6_1<a0_2.length)<|
   Zc (0≤k7∧k7<b1_2.length)<|
   let t40:Int:=max (a0_2.getD i6_1.toNat Zz).1 (b1_2.getD k7.toNat Zz).1
   Zc (0≤i6_1∧i6_1<a0_2.length)<|
   Zc (0≤k7∧k7<b1_2.length)<|
   let t51:Int:=min (a0_2.getD i6_1.toNat Zz).2.1 (b1_2.getD k7.toNat Zz).2.1
   Qm 1 (
    Zmc K1 (fun v=>Wg K1 N v.1 v.2.1 v.2.2.1 v.2.2.2.1 v.2.2.2.2.1) a0_2 b1_2 out5_1 i6_1 k7 (t40,(t51,()))
   )
  else
   K1 (a0_2,b1_2,out5_1,IntKind.i64.wrap (i6_1+1),())
abbrev Z0r:List PE:=[.val 0 (.slice 195 (Zt)) (.u false),.val 1 (.slice 195 (Zt)) (.u false),.val 5 (.slice 195 (Zt)) (.u true),.val 6 (.int .i64) (.u false)]
def Zar(a0_1:List Ze)(b1_1:List Ze)(out5:List Ze)(i6:Int):Nat:=((a0_1.length:Int)-i6).toNat+1
def Jf:Nat→List Ze→List Ze→List Ze→Int→Option (List Ze×Unit)
 |0,_,_,_,_=>none
 |N+1,a0_1,b1_1,out5,i6=>
  (bif(decide (i6< (a0_1.length:Int)))then(Y7 a0_1)else some (false,())).bind fun t16=>
  let t17:Bool:=(decide (i6< (a0_1.length:Int)))&&t16.1
  (bif t17 then(Y7 b1_1)else some (false,())).bind fun t20=>
  bif t17&&t20.1 then
   Wg (fun v=>Jf N v.1 v.2.1 v.2.2.1 v.2.2.2.1) (Zas a0_1 b1_1 out5 i6 (0:Int)) a0_1 b1_1 out5 i6 (0:Int)
  else
   some (out5,())
def Zck(a0:List Ze)(b1:List Ze):Option (List Ze×Unit):=
 Jf (Zar a0 b1 ([]:List Ze) (0:Int)) a0 b1 ([]:List Ze) (0:Int)
abbrev Z21:List PE:=[.val 0 (.slice 195 (Zt)) (.u false),.box 3 195 (Zt) (.u false),.val 5 (.slice 195 (Zt)) (.u true),.val 6 (.int .i64) (.u false)]
def Zhh(K1: (List Ze×Ze×List Ze×Int×Unit)→Option (List Ze×Unit))(l0_2:List Ze)(r3_1:Ze)(out5_1:List Ze)(i6_1:Int):Option (List Ze×Unit):=
 K1 (l0_2,r3_1,out5_1,IntKind.i64.wrap (i6_1+1),())
abbrev Z22:List PE:=[.val 0 (.slice 195 (Zt)) (.u false),.box 3 195 (Zt) (.u false),.val 5 (.slice 195 (Zt)) (.u true),.val 6 (.int .i64) (.u false)]
def Zde(K1: (List Ze×Ze×List Ze×Int×Unit)→Option (List Ze×Unit))(l0_3:List Ze)(r3_2:Ze)(out5_2:List Ze)(i6_2:Int):Option (List Ze×Unit):=
 Zc (0≤i6_2∧i6_2<l0_3.length)<|
 Zc (0≤i6_2∧i6_2<l0_3.length)<|
 bif decide ((max (l0_3.getD i6_2.toNat Zz).1 r3_2.2.1)< (l0_3.getD i6_2.toNat Zz).2.1)then
  Zc (0≤i6_2∧i6_2<l0_3.length)<|
  Zc (0≤i6_2∧i6_2<l0_3.length)<|
  let t84:List Ze:=[(max (l0_3.getD i6_2.toNat Zz).1 r3_2.2.1,((l0_3.getD i6_2.toNat Zz).2.1,()))]
  Zc (out5_2.length+t84.length≤Qp)<|
  Zhh K1 l0_3 r3_2 (out5_2++t84) i6_2
 else
  Zhh K1 l0_3 r3_2 out5_2 i6_2
abbrev Z23:List PE:=[.val 0 (.slice 195 (Zt)) (.u false),.box 3 195 (Zt) (.u false),.val 5 (.slice 195 (Zt)) (.u true),.val 6 (.int .i64) (.u false)]
def Zbr(l0_1:List Ze)(r3:Ze)(out5:List Ze)(i6:Int):Nat:=((l0_1.length:Int)-i6).toNat+1
def Kt:Nat→List Ze→Ze→List Ze→Int→Option (List Ze×Unit)
 |0,_,_,_,_=>none
 |N+1,l0_1,r3,out5,i6=>
  bif decide (i6< (l0_1.length:Int))then
   Zc (0≤i6∧i6<l0_1.length)<|
   Zc (0≤i6∧i6<l0_1.length)<|
   bif decide ((l0_1.getD i6.toNat Zz).1< (min (l0_1.getD i6.toNat Zz).2.1 r3.1))then
    Zc (0≤i6∧i6<l0_1.length)<|
    Zc (0≤i6∧i6<l0_1.length)<|
    let t53:List Ze:=[((l0_1.getD i6.toNat Zz).1,(min (l0_1.getD i6.toNat Zz).2.1 r3.1,()))]
    Zc (out5.length+t53.length≤Qp)<|
    Zde (fun v=>Kt N v.1 v.2.1 v.2.2.1 v.2.2.2.1) l0_1 r3 (out5++t53) i6
   else
    Zde (fun v=>Kt N v.1 v.2.1 v.2.2.1 v.2.2.2.1) l0_1 r3 out5 i6
  else
   some (out5,())
def Zd9(l0:List Ze)(r1:Ze):Option (List Ze×Unit):=
 (Y7 l0).bind fun t8=>
 (bif(!t8.1)then some (false,())else(Ztq r1)).bind fun t12=>
 bif(!t8.1)|| (!t12.1)then
  (Zgx l0).bind fun t16=>
  some (t16.1,())
 else
  Kt (Zbr l0 r1 ([]:List Ze) (0:Int)) l0 r1 ([]:List Ze) (0:Int)
abbrev Z74:List PE:=[.box 4 79 (Qc) (.u true),.box 6 79 (Qc) (.p (.u false) (.p (.u true) (.p (.u true) (.p (.u true) (.p (.u true) (.u false))))))]
def Zgq(t4_1:Zs)(x6_1:Zs):Option (Zs×Bool×Unit):=
 (Vw x6_1).bind fun t86=>
 some ((t86.1,x6_1.2),true,())
abbrev Z73:List PE:=[.box 3 278 (Zbv) (.u false),.box 4 79 (Qc) (.u true),.box 6 79 (Qc) (.p (.u false) (.p (.u true) (.p (.u true) (.p (.u true) (.p (.u true) (.u false))))))]
def Zgp(p3:Ku)(t4:Zs)(x6:Zs):Option (Zs×Bool×Unit):=
 bif p3.2.2.1 then
  Zgq t4 (x6.1,(x6.2.1,(x6.2.2.1,(x6.2.2.2.1,(x6.2.2.2.2.1,(x6.2.2.2.2.2.1,((2:Int),x6.2.2.2.2.2.2.2)))))))
 else
  Zgq t4 x6
def Zrg(s0:Zs)(p1:Ku):Option (Zs×Bool×Unit):=
 (Zcc s0).bind fun t10=>
 (Yg s0).bind fun t12=>
 let t18:Bool:=(!t12.1)|| (decide (s0.1>(2:Int)))
 (bif t18 then some (false,())else(Zrt s0 p1)).bind fun t22=>
 bif((t18|| (!t22.1))|| ((p1.2.1==([]:List UInt8))&& (!p1.2.2.1)))|| (p1.2.2.1&& (s0.2.2.2.2.2.2.1 !=1))then
  some (t10.1,false,())
 else
  bif !(p1.2.1==([]:List UInt8))then
   (Znm p1).bind fun t49=>
   (Zck s0.2.2.1 ([t49.1])).bind fun t54=>
   Zc ((((t54.1.length:Int) !=(1:Int))=false→(0≤(0:Int)∧(0:Int)<t54.1.length)))<|
   bif((t54.1.length:Int) !=(1:Int))|| (!(eqV (Zt) (t54.1.getD (0:Int).toNat Zz) t49.1))then
    some (t10.1,false,())
   else
    (Zd9 s0.2.2.1 t49.1).bind fun t69=>
    (Jm s0.2.2.2.1 t49.1).bind fun t74=>
    Zgp p1 Zdt (t10.1.1,(t10.1.2.1,(t69.1,(t74.1,(t10.1.2.2.2.2.1,(t10.1.2.2.2.2.2.1,(t10.1.2.2.2.2.2.2.1,(max s0.2.2.2.2.2.2.2.1 t49.1.2.1,t10.1.2.2.2.2.2.2.2.2))))))))
  else
   Zgp p1 Zdt t10.1
def Zml(c0:K5)(n1:Int):Option (K5×Bool×Unit):=
 (Y6 c0).bind fun t7=>
 bif((!t7.1)|| (decide (n1< (0:Int))))|| (decide (n1>(IntKind.i64.wrap (c0.1-c0.2.1))))then
  some (c0,false,())
 else
  some ((c0.1,(IntKind.i64.wrap (c0.2.1+n1),c0.2.2)),true,())
def Zmg(c0:Zg)(id1:Int)(p2:Ku):Option (Zg×Bool×Unit):=
 (Zy c0).bind fun t19=>
 (Q0 c0 id1).bind fun t23=>
 (Z5 c0).bind fun t27=>
 bif((!t27.1)|| (!t23.2.1))|| (!t23.1.2.2.2.2.2.2.1)then
  some (t19.1,false,())
 else
  (Zrg t23.1.2.1 p2).bind fun t43=>
  (Zml t23.1.2.2.1 (IntKind.i64.wrap (t43.1.2.2.2.2.2.2.2.1-t23.1.2.1.2.2.2.2.2.2.2.1))).bind fun t56=>
  (Zml c0.2.2.2.2.1 (IntKind.i64.wrap (t43.1.2.2.2.2.2.2.2.1-t23.1.2.1.2.2.2.2.2.2.2.1))).bind fun t63=>
  bif((!t43.2.1)|| (!t56.2.1))|| (!t63.2.1)then
   some (t19.1,false,())
  else
   (Xo t19.1.2.2.2.1 (t23.1.1,(t43.1,(t56.1,t23.1.2.2.2)))).bind fun t88=>
   some ((t19.1.1,(t19.1.2.1,(t19.1.2.2.1,(t88.1,(t63.1,(t19.1.2.2.2.2.2.1,(t19.1.2.2.2.2.2.2.1,(t19.1.2.2.2.2.2.2.2.1,(t19.1.2.2.2.2.2.2.2.2.1,(t19.1.2.2.2.2.2.2.2.2.2.1,(t19.1.2.2.2.2.2.2.2.2.2.2.1,(t19.1.2.2.2.2.2.2.2.2.2.2.2.1,(t19.1.2.2.2.2.2.2.2.2.2.2.2.2.1,(id1,t19.1.2.2.2.2.2.2.2.2.2.2.2.2.2.2)))))))))))))),true,())
abbrev Qgi:List PE:=[.box 0 37 (Zl) (.u true),.val 1 (.slice 106 (Zu)) (.u true),.val 2 (.int .i64) (.u false),.val 7 (.slice 3 (.int .i64)) (.u true),.val 8 (.int .i64) (.u false)]
def Zkl(K1: (Zg×List Zh×Int×List Int×Int×Unit)→Option ((List Zh×Unit)×(Zg×Unit)))(x0_2:Zg)(frames1_2:List Zh)(room2_2:Int)(skip7_1:List Int)(i8_1:Int):Option ((List Zh×Unit)×(Zg×Unit)):=
 K1 (x0_2,frames1_2,room2_2,skip7_1,IntKind.i64.wrap (i8_1+1),())
abbrev Qgj:List PE:=[.box 0 37 (Zl) (.u true),.val 1 (.slice 106 (Zu)) (.u true),.val 2 (.int .i64) (.u false),.val 7 (.slice 3 (.int .i64)) (.u true),.val 8 (.int .i64) (.u false),.val 11 (.int .i64) (.u false),.box 12 278 (Zbv) (.u false),.box 14 37 (Zl) (.u true),.val 15 (.bool) (.u false)]
def Y1(K1: (Zg×List Zh×Int×List Int×Int×Unit)→Option ((List Zh×Unit)×(Zg×Unit)))(x0_4:Zg)(frames1_4:List Zh)(room2_4:Int)(skip7_3:List Int)(i8_3:Int)(id11:Int)(p12:Ku)(y14:Zg)(fine15:Bool):Option ((List Zh×Unit)×(Zg×Unit)):=
 bif !fine15 then
  some ((frames1_4,()),(x0_4,()))
 else
  (Zt9 id11 p12).bind fun t82=>
  Zc (frames1_4.length+ ([t82.1]).length≤Qp)<|
  (Zen t82.1).bind fun t89=>
  Zkl K1 y14 (frames1_4++ ([t82.1])) (IntKind.i64.wrap (room2_4-t89.1)) skip7_3 i8_3
abbrev Qgl:List PE:=[.box 0 37 (Zl) (.u true),.val 1 (.slice 106 (Zu)) (.u true),.val 2 (.int .i64) (.u false),.val 7 (.slice 3 (.int .i64)) (.u true),.val 8 (.int .i64) (.u false),.val 9 (.slice 323 (Xi)) (.u true),.val 10 (.int .i64) (.u false)]
def Zmr(x0_3:Zg)(frames1_3:List Zh)(room2_3:Int)(skip7_2:List Int)(i8_2:Int)(l9:List Z1)(k10:Int):Nat:=((skip7_2.length:Int)-k10).toNat+1
def Zkm(K1: (Zg×List Zh×Int×List Int×Int×Unit)→Option ((List Zh×Unit)×(Zg×Unit))):Nat→Zg→List Zh→Int→List Int→Int→List Z1→Int→Option ((List Zh×Unit)×(Zg×Unit))
 |0,_,_,_,_,_,_,_=>none
 |N+1,x0_3,frames1_3,room2_3,skip7_2,i8_2,l9,k10=>
  bif decide (k10< (skip7_2.length:Int))then
   Zc (0≤k10∧k10<skip7_2.length)<|
   (Zpe l9 (skip7_2.getD k10.toNat (0:Int))).bind fun t37=>
   Zkm K1 N x0_3 frames1_3 room2_3 skip7_2 i8_2 t37.1 (IntKind.i64.wrap (k10+1))
  else
   (Zo8 l9 x0_3.2.2.2.2.2.2.2.2.2.2.2.2.2.1).bind fun t43=>
   bif decide (t43.1< (0:Int))then
    some ((frames1_3,()),(x0_3,()))
   else
    (Zs1 x0_3 t43.1 room2_3).bind fun t53=>
    bif !t53.2.1 then
     (Zs4 x0_3 t43.1).bind fun t60=>
     Zc (skip7_2.length+ ([t43.1]).length≤Qp)<|
     Zkl K1 t60.2.1 frames1_3 room2_3 (skip7_2++ ([t43.1])) i8_2
    else
     Z6 (
      (Zmg x0_3 t43.1 t53.1).bind fun t71=>
      Z6 (
       Z6 (
        Z6 (
         Y1 K1 x0_3 frames1_3 room2_3 skip7_2 i8_2 t43.1 t53.1 t71.1 t71.2.1
        ) (
         Qm 1 (
          Y1 K1 x0_3 frames1_3 room2_3 skip7_2 i8_2 t43.1 t53.1 t71.1 t71.2.1
         )
        )
       ) (
       Z6 (
        Qm 1 (
         Y1 K1 x0_3 frames1_3 room2_3 skip7_2 i8_2 t43.1 t53.1 t71.1 t71.2.1
        )
       ) (
        Z6 (
         Qm 1 (
          Y1 K1 x0_3 frames1_3 room2_3 skip7_2 i8_2 t43.1 t53.1 t71.1 t71.2.1
         )
        ) (
         Y1 K1 x0_3 frames1_3 room2_3 skip7_2 i8_2 t43.1 t53.1 t71.1 t71.2.1
        )
       )
       )
      ) (
       Z6 (
        Qm 1 (
         Y1 K1 x0_3 frames1_3 room2_3 skip7_2 i8_2 t43.1 t53.1 t71.1 t71.2.1
        )
       ) (
        Y1 K1 x0_3 frames1_3 room2_3 skip7_2 i8_2 t43.1 t53.1 t71.1 t71.2.1
       )
      )
     ) (
      (Zmg x0_3 t43.1 t53.1).bind fun t71=>
      Z6 (
       Qm 1 (
        Y1 K1 x0_3 frames1_3 room2_3 skip7_2 i8_2 t43.1 t53.1 t71.1 t71.2.1
       )
      ) (
       Y1 K1 x0_3 frames1_3 room2_3 skip7_2 i8_2 t43.1 t53.1 t71.1 t71.2.1
      )
     )
abbrev Qgk:List PE:=[.box 0 37 (Zl) (.u true),.val 1 (.slice 106 (Zu)) (.u true),.val 2 (.int .i64) (.u false),.val 7 (.slice 3 (.int .i64)) (.u true),.val 8 (.int .i64) (.u false)]
def Zmq(x0_1:Zg)(frames1_1:List Zh)(room2_1:Int)(skip7:List Int)(i8:Int):Nat:=((200:Int)-i8).toNat+1
def Zal:Nat→Zg→List Zh→Int→List Int→Int→Option ((List Zh×Unit)×(Zg×Unit))
 |0,_,_,_,_,_=>none
 |N+1,x0_1,frames1_1,room2_1,skip7,i8=>
  bif decide (i8< (200:Int))then
   (Zpd x0_1).bind fun t25=>
   Zkm (fun v=>Zal N v.1 v.2.1 v.2.2.1 v.2.2.2.1 v.2.2.2.2.1) (Zmr x0_1 frames1_1 room2_1 skip7 i8 t25.1 (0:Int)) x0_1 frames1_1 room2_1 skip7 i8 t25.1 (0:Int)
  else
   some ((frames1_1,()),(x0_1,()))
def Zvb(x0:Zg)(frames1:List Zh)(room2:Int):Option ((List Zh×Unit)×(Zg×Unit)):=
 Zal (Zmq x0 frames1 room2 ([]:List Int) (0:Int)) x0 frames1 room2 ([]:List Int) (0:Int)
abbrev Zy6:List PE:=[.val 0 (.slice 106 (Zu)) (.u false),.val 3 (.str) (.u false),.val 4 (.int .i64) (.u false)]
def Zel(l0_1:List Zh)(s3_1:List UInt8)(i4:Int):Nat:=((l0_1.length:Int)-i4).toNat+1
def Za4:Nat→List Zh→List UInt8→Int→Option (List UInt8×Unit)
 |0,_,_,_=>none
 |N+1,l0_1,s3_1,i4=>
  bif decide (i4< (l0_1.length:Int))then
   Zc (0≤i4∧i4<l0_1.length)<|
   (Zd5 (l0_1.getD i4.toNat Xk)).bind fun t16=>
   bif t16.1==([]:List UInt8)then
    some (([]:List UInt8),())
   else
    Zc (s3_1.length+t16.1.length≤Z8)<|
    Za4 N l0_1 (s3_1++t16.1) (IntKind.i64.wrap (i4+1))
  else
   bif decide ((s3_1.length:Int)>(400:Int))then
    some (([]:List UInt8),())
   else
    some (s3_1,())
def Zjq(l0:List Zh):Option (List UInt8×Unit):=
 Za4 (Zel l0 ([]:List UInt8) (0:Int)) l0 ([]:List UInt8) (0:Int)
abbrev Z4y:List PE:=[.box 2 37 (Zl) (.u false),.box 6 37 (Zl) (.u true),.box 7 37 (Zl) (.u true),.val 8 (.slice 106 (Zu)) (.u true),.val 9 (.int .i64) (.u false),.val 10 (.slice 106 (Zu)) (.u true),.val 11 (.int .i64) (.u false)]
def V2(K1: (Zg×Zg×Zg×List Zh×Int×List Zh×Int×Unit)→Option ((List UInt8×Int×Zg×Unit)×(Unit)))(c2_1:Zg)(t6_1:Zg)(x7_1:Zg)(frames8_1:List Zh)(room9_1:Int)(l10_1:List Zh)(i11_1:Int):Option ((List UInt8×Int×Zg×Unit)×(Unit)):=
 K1 (c2_1,t6_1,x7_1,frames8_1,room9_1,l10_1,IntKind.i64.wrap (i11_1+1),())
abbrev Z4z:List PE:=[.box 2 37 (Zl) (.u false),.box 6 37 (Zl) (.u true),.box 7 37 (Zl) (.u true),.val 8 (.slice 106 (Zu)) (.u true),.val 9 (.int .i64) (.u false),.val 10 (.slice 106 (Zu)) (.u true),.val 11 (.int .i64) (.u false)]
def Zcl(c2:Zg)(t6:Zg)(x7:Zg)(frames8:List Zh)(room9:Int)(l10:List Zh)(i11:Int):Nat:=((l10.length:Int)-i11).toNat+1
def Yp:Nat→Zg→Zg→Zg→List Zh→Int→List Zh→Int→Option ((List UInt8×Int×Zg×Unit)×(Unit))
 |0,_,_,_,_,_,_,_=>none
 |N+1,c2,t6,x7,frames8,room9,l10,i11=>
  bif decide (i11< (l10.length:Int))then
   Zc (0≤i11∧i11<l10.length)<|
   (Zen (l10.getD i11.toNat Xk)).bind fun t42=>
   bif decide (t42.1≤room9)then
    Zc (0≤i11∧i11<l10.length)<|
    (Zen (l10.getD i11.toNat Xk)).bind fun t50=>
    Zc (0≤i11∧i11<l10.length)<|
    (Znf x7 (l10.getD i11.toNat Xk)).bind fun t57=>
    Zc (0≤i11∧i11<l10.length)<|
    Zc (frames8.length+ ([(l10.getD i11.toNat Xk)]).length≤Qp)<|
    V2 (fun v=>Yp N v.1 v.2.1 v.2.2.1 v.2.2.2.1 v.2.2.2.2.1 v.2.2.2.2.2.1 v.2.2.2.2.2.2.1) c2 t6 t57.1 (frames8++ ([(l10.getD i11.toNat Xk)])) (IntKind.i64.wrap (room9-t50.1)) l10 i11
   else
    V2 (fun v=>Yp N v.1 v.2.1 v.2.2.1 v.2.2.2.1 v.2.2.2.2.1 v.2.2.2.2.2.1 v.2.2.2.2.2.2.1) c2 t6 x7 frames8 room9 l10 i11
  else
   (Zvb x7 frames8 room9).bind fun t67=>
   bif(t67.1.1.length:Int)==(0:Int)then
    some ((([]:List UInt8),((-1:Int),(t67.2.1,()))),())
   else
    Zc (t67.2.1.2.2.2.2.2.2.2.2.2.2.2.2.2.2.2.1.length+ ([(c2.2.2.2.2.2.2.2.2.2.2.2.2.2.2.1,(t67.1.1,()))]).length≤Qp)<|
    (Zjq t67.1.1).bind fun t86=>
    some ((t86.1,(c2.2.2.2.2.2.2.2.2.2.2.2.2.2.2.1,((t67.2.1.1,(t67.2.1.2.1,(t67.2.1.2.2.1,(t67.2.1.2.2.2.1,(t67.2.1.2.2.2.2.1,(t67.2.1.2.2.2.2.2.1,(t67.2.1.2.2.2.2.2.2.1,(t67.2.1.2.2.2.2.2.2.2.1,(t67.2.1.2.2.2.2.2.2.2.2.1,(t67.2.1.2.2.2.2.2.2.2.2.2.1,(t67.2.1.2.2.2.2.2.2.2.2.2.2.1,(t67.2.1.2.2.2.2.2.2.2.2.2.2.2.1,(t67.2.1.2.2.2.2.2.2.2.2.2.2.2.2.1,(t67.2.1.2.2.2.2.2.2.2.2.2.2.2.2.2.1,(IntKind.i64.wrap (c2.2.2.2.2.2.2.2.2.2.2.2.2.2.2.1+1),(t67.2.1.2.2.2.2.2.2.2.2.2.2.2.2.2.2.2.1++ ([(c2.2.2.2.2.2.2.2.2.2.2.2.2.2.2.1,(t67.1.1,()))]),t67.2.1.2.2.2.2.2.2.2.2.2.2.2.2.2.2.2.2)))))))))))))))),()))),())
def Zah(c0:Zg)(budget1:Int):Option ((List UInt8×Int×Zg×Unit)×(Unit)):=
 (Zy c0).bind fun t13=>
 (Yw c0).bind fun t15=>
 (bif(!t15.1)then some (false,())else(Zx budget1 (1:Int) (400:Int))).bind fun t19=>
 bif((!t15.1)|| (!t19.1))|| (decide (c0.2.2.2.2.2.2.2.2.2.2.2.2.2.2.1≥(1000000:Int)))then
  some ((([]:List UInt8),((-1:Int),(t13.1,()))),())
 else
  (Zjk c0).bind fun t31=>
  Yp (Zcl c0 Km t13.1 ([]:List Zh) budget1 t31.1 (0:Int)) c0 Km t13.1 ([]:List Zh) budget1 t31.1 (0:Int)
def Zdr(p0:Z7)(server1:Bool)(c2:Zg):Option ((Unit)×(Z7×Unit)):=
 bif server1 then
  some ((),((p0.1,(c2,p0.2.2)),()))
 else
  some ((),((c2,p0.2),()))
def Zmi(l0:List Z0)(x1:Z0):Option (List Z0×Bool×Unit):=
 (Yx l0).bind fun t8=>
 bif decide ((l0.length:Int)≥(60:Int))then
  some (t8.1,false,())
 else
  Zc (t8.1.length+ ([x1]).length≤Qp)<|
  some (t8.1++ ([x1]),true,())
abbrev Z7t:List PE:=[.val 0 (.int .i64) (.u false),.val 3 (.str) (.u false),.val 4 (.bool) (.u false),.val 5 (.int .i64) (.u false)]
def Va(K1: (Int×List UInt8×Bool×Unit)→Option (List UInt8×Unit))(n0_2:Int)(out3_2:List UInt8)(neg4_1:Bool)(d5:Int):Option (List UInt8×Unit):=
 let t22:List UInt8:=Ws ([(IntKind.u8.wrap (IntKind.i64.wrap ((48:Int)+d5)))])
 Zc (t22.length+out3_2.length≤Z8)<|
 Zc ((10:Int)≠0)<|
 K1 (IntKind.i64.wrap (Int.tdiv n0_2 (10:Int)),t22++out3_2,neg4_1,())
abbrev Z7u:List PE:=[.val 0 (.int .i64) (.u false),.val 3 (.str) (.u false),.val 4 (.bool) (.u false)]
def Zdl(n0_1:Int)(out3_1:List UInt8)(neg4:Bool):Nat:=1048577+ (n0_1.toNat-n0_1.toNat)
def Xh:Nat→Int→List UInt8→Bool→Option (List UInt8×Unit)
 |0,_,_,_=>none
 |N+1,n0_1,out3_1,neg4=>
  bif n0_1 !=0 then
   Zc ((10:Int)≠0)<|
   bif decide ((Int.tmod n0_1 (10:Int))<0)then
    Va (fun v=>Xh N v.1 v.2.1 v.2.2.1) n0_1 out3_1 neg4 (IntKind.i64.wrap (0- (Int.tmod n0_1 (10:Int))))
   else
    Va (fun v=>Xh N v.1 v.2.1 v.2.2.1) n0_1 out3_1 neg4 (Int.tmod n0_1 (10:Int))
  else
   bif neg4 then
    Zc (([45]:List UInt8).length+out3_1.length≤Z8)<|
    some (([45]:List UInt8)++out3_1,())
   else
    some (out3_1,())
def Zv(n0:Int):Option (List UInt8×Unit):=
 bif n0==0 then
  some (([48]:List UInt8),())
 else
  Xh (Zdl n0 ([]:List UInt8) (decide (n0< (0:Int)))) n0 ([]:List UInt8) (decide (n0< (0:Int)))
def Zsx(c0:Zk2):Option (Int×Zk2×Bool×Unit):=
 (Zbq c0).bind fun t7=>
 bif !t7.1 then
  some ((-1:Int),c0,false,())
 else
  bif c0.2.1==c0.1 then
   some ((-1:Int),(c0.1,(c0.2.1,(c0.1,c0.2.2.2))),false,())
  else
   some (c0.2.1,(c0.1,(IntKind.i64.wrap (c0.2.1+1),c0.2.2)),true,())
abbrev Qkv:List PE:=[.val 2 (.bool) (.u false),.val 7 (.int .i64) (.u false)]
def Zmf(uni2_1:Bool)(id7:Int):Option (Int×Unit):=
 bif uni2_1 then
  some (IntKind.i64.wrap (id7+2),())
 else
  some (id7,())
def Zxi(index0:Int)(server1:Bool)(uni2:Bool):Option (Int×Unit):=
 (Zx index0 (0:Int) (1152921504606846975:Int)).bind fun t9=>
 bif !t9.1 then
  some ((-1:Int),())
 else
  Zc (0≤(2:Int))<|
  let t12:Int:=IntKind.i64.wrap (index0*2^ (min (2:Int).toNat IntKind.i64.bits))
  bif server1 then
   Zmf uni2 (IntKind.i64.wrap (t12+1))
  else
   Zmf uni2 t12
def Wh:Option (Xq×Unit):=
 some (((3:Int),(false,())),())
def Zse:Option (Qo×Unit):=
 some (((0:Int),(((0:Int),(([]:List Z0),())),((-1:Int),((0:Int),((0:Int),()))))),())
def Vv(id0:Int):Option (Bool×Unit):=
 (Qh id0).bind fun t4=>
 some (t4.1&& ((bits .and .i64 id0 (2:Int))==2),())
def Zkc(id0:Int):Option (Bool×Unit):=
 (Qh id0).bind fun t4=>
 some (t4.1&& ((bits .and .i64 id0 (1:Int))==1),())
def Zer(server0:Bool)(id1:Int):Option (Bool×Unit):=
 (Qh id1).bind fun t6=>
 (bif t6.1 then(Zkc id1)else some (false,())).bind fun t9=>
 some (t6.1&& (t9.1==server0),())
def Zeh(server0:Bool)(id1:Int):Option (Bool×Unit):=
 (Qh id1).bind fun t6=>
 (bif t6.1 then(Vv id1)else some (false,())).bind fun t9=>
 (bif(!t9.1)then some (false,())else(bif t6.1 then(Zer server0 id1)else some (false,()))).bind fun t14=>
 some (t6.1&& ((!t9.1)||t14.1),())
def J9(server0:Bool)(id1:Int):Option (Bool×Unit):=
 (Qh id1).bind fun t6=>
 (bif t6.1 then(Vv id1)else some (false,())).bind fun t9=>
 (bif(!t9.1)then some (false,())else(bif t6.1 then(Zer server0 id1)else some (false,()))).bind fun t14=>
 some (t6.1&& ((!t9.1)|| (!t14.1)),())
def Zu5(size0:Int):Option (Kx×Bool×Unit):=
 (Zbu size0).bind fun t5=>
 bif !t5.1 then
  some (Q1k,false,())
 else
  Zc (0≤size0∧size0≤size0∧size0≤Qp)<|
  some ((size0,((0:Int),((0:Int),(List.replicate size0.toNat (0:Int),())))),true,())
def Zh9(size0:Int):Option (Zs×Bool×Unit):=
 (Zu5 size0).bind fun t8=>
 bif !t8.2.1 then
  some (Zdt,false,())
 else
  some (((0:Int),(t8.1,(([]:List Ze),(([]:List Ze),(([]:List Ze),((-1:Int),Q3i)))))),true,())
def Zb9(server0:Bool)(id1:Int)(own2:Zqf)(peer3:Zqf):Option (Zp×Bool×Unit):=
 (Qh id1).bind fun t18=>
 (bif(!t18.1)then some (false,())else(Zb6 own2)).bind fun t22=>
 (bif((!t18.1)|| (!t22.1))then some (false,())else(Zb6 peer3)).bind fun t27=>
 bif((!t18.1)|| (!t22.1))|| (!t27.1)then
  some (Zm,false,())
 else
  Option.bind Wh fun t32=>
  Option.bind Zse fun t33=>
  (Zeh server0 id1).bind fun t36=>
  (J9 server0 id1).bind fun t39=>
  (Zh9 own2.1).bind fun t44=>
  (Zh8 peer3.2.1).bind fun t52=>
  (Zia own2.2.1 own2.2.2.1).bind fun t62=>
  some ((id1,(t44.1,(t52.1,(t33.1,(t62.1,(t32.1,(t36.1,(t39.1,(false,(false,(false,(false,((0:Int),(false,())))))))))))))),true,())
abbrev Z5g:List PE:=[.val 1 (.bool) (.u false),.box 2 37 (Zl) (.u false),.box 5 37 (Zl) (.u true),.box 7 37 (Zl) (.p (.u false) (.p (.u false) (.p (.u false) (.p (.u true) (.p (.u false) (.p (.u false) (.p (.u false) (.p (.u false) (.u true))))))))),.val 9 (.int .i64) (.u false),.val 11 (.bool) (.u false)]
def Ze0(uni1_2:Bool)(c2_1:Zg)(t5_1:Zg)(x7_1:Zg)(index9:Int)(is11:Bool):Option (Int×Zg×Bool×Unit):=
 bif !is11 then
  some ((-1:Int),x7_1,false,())
 else
  (Zxi index9 c2_1.1 uni1_2).bind fun t50=>
  (Zb9 c2_1.1 t50.1 c2_1.2.1 c2_1.2.2.1).bind fun t59=>
  (Xo x7_1.2.2.2.1 t59.1).bind fun t65=>
  some (t50.1,(x7_1.1,(x7_1.2.1,(x7_1.2.2.1,(t65.1,x7_1.2.2.2.2)))),true,())
abbrev Z5f:List PE:=[.val 1 (.bool) (.u false),.box 2 37 (Zl) (.u false),.box 5 37 (Zl) (.u true),.box 7 37 (Zl) (.u true),.box 8 32 (Zls) (.u false)]
def Zez(uni1_1:Bool)(c2:Zg)(t5:Zg)(x7:Zg)(n8:Zk2):Option (Int×Zg×Bool×Unit):=
 (Zsx n8).bind fun t34=>
 bif uni1_1 then
  Ze0 uni1_1 c2 t5 (x7.1,(x7.2.1,(x7.2.2.1,(x7.2.2.2.1,(x7.2.2.2.2.1,(x7.2.2.2.2.2.1,(x7.2.2.2.2.2.2.1,(t34.2.1,x7.2.2.2.2.2.2.2.2)))))))) t34.1 t34.2.2.1
 else
  Ze0 uni1_1 c2 t5 (x7.1,(x7.2.1,(x7.2.2.1,(x7.2.2.2.1,(x7.2.2.2.2.1,(x7.2.2.2.2.2.1,(t34.2.1,x7.2.2.2.2.2.2.2))))))) t34.1 t34.2.2.1
def Zkd(c0:Zg)(uni1:Bool):Option (Int×Zg×Bool×Unit):=
 (Zy c0).bind fun t16=>
 (Yw c0).bind fun t18=>
 bif(!t18.1)|| (decide ((c0.2.2.2.1.length:Int)≥(24:Int)))then
  some ((-1:Int),t16.1,false,())
 else
  bif uni1 then
   Zez uni1 c0 Km t16.1 c0.2.2.2.2.2.2.2.1
  else
   Zez uni1 c0 Km t16.1 c0.2.2.2.2.2.2.1
def Z5i(r0:Kx):Option (Int×Unit):=
 (Zb7 r0).bind fun t4=>
 bif !t4.1 then
  some ((0:Int),())
 else
  some (min (IntKind.i64.wrap (r0.1- (IntKind.i64.wrap (r0.2.2.1-r0.2.1)))) (IntKind.i64.wrap ((4611686018427387903:Int)-r0.2.2.1)),())
abbrev Z78:List PE:=[.val 1 (.str) (.u false),.box 2 76 (Zcz) (.u false),.box 4 76 (Zcz) (.u true),.box 6 76 (Zcz) (.u true),.val 7 (.int .i64) (.u false),.val 8 (.int .i64) (.u false)]
def Zdm(data1_1:List UInt8)(r2:Kx)(t4:Kx)(x6:Kx)(n7:Int)(i8:Int):Nat:=(n7-i8).toNat+1
def Wz:Nat→List UInt8→Kx→Kx→Kx→Int→Int→Option (Kx×Int×Unit)
 |0,_,_,_,_,_,_=>none
 |N+1,data1_1,r2,t4,x6,n7,i8=>
  bif decide (i8<n7)then
   Zc (r2.1≠0)<|
   let t29:Int:=Int.tmod (IntKind.i64.wrap (r2.2.2.1+i8)) r2.1
   Zc (0≤i8∧i8<data1_1.length)<|
   Zc (0≤t29∧t29<x6.2.2.2.1.length)<|
   Wz N data1_1 r2 t4 (x6.1,(x6.2.1,(x6.2.2.1,(x6.2.2.2.1.set t29.toNat (IntKind.i64.wrap ((data1_1.getD i8.toNat 0).toNat:Int)),x6.2.2.2.2)))) n7 (IntKind.i64.wrap (i8+1))
  else
   some ((x6.1,(x6.2.1,(IntKind.i64.wrap (r2.2.2.1+n7),x6.2.2.2))),n7,())
def Zri(r0:Kx)(data1:List UInt8):Option (Kx×Int×Unit):=
 (Zp9 r0).bind fun t10=>
 (Z5i r0).bind fun t12=>
 Wz (Zdm data1 r0 Q1k t10.1 (min t12.1 (data1.length:Int)) (0:Int)) data1 r0 Q1k t10.1 (min t12.1 (data1.length:Int)) (0:Int)
abbrev Z25:List PE:=[.box 4 79 (Qc) (.u true),.box 6 79 (Qc) (.p (.u false) (.u true)),.box 7 76 (Zcz) (.u true),.val 8 (.int .i64) (.u false)]
def Zdf(t4:Zs)(x6:Zs)(r7:Kx)(n8:Int):Option (Zs×Int×Unit):=
 some ((x6.1,(r7,x6.2.2)),n8,())
def Zbi(s0:Zs)(data1:List UInt8):Option (Zs×Int×Unit):=
 (Zcc s0).bind fun t10=>
 (Yg s0).bind fun t12=>
 bif((!t12.1)|| (decide (s0.1>(1:Int))))|| (s0.2.2.2.2.2.1 !=(-1:Int))then
  some (t10.1,(0:Int),())
 else
  (Zri s0.2.1 data1).bind fun t29=>
  bif decide (t29.2.1>(0:Int))then
   (Jm s0.2.2.1 (s0.2.1.2.2.1,(t29.1.2.2.1,()))).bind fun t42=>
   Zdf Zdt (t10.1.1,(t10.1.2.1,(t42.1,t10.1.2.2.2))) t29.1 t29.2.1
  else
   Zdf Zdt t10.1 t29.1 t29.2.1
def Zbj(c0:Zg)(id1:Int)(data2:List UInt8):Option (Int×Zg×Unit):=
 (Zy c0).bind fun t14=>
 (Q0 c0 id1).bind fun t18=>
 (Yw c0).bind fun t22=>
 bif((!t22.1)|| (!t18.2.1))|| (!t18.1.2.2.2.2.2.2.1)then
  some ((0:Int),t14.1,())
 else
  (Zbi t18.1.2.1 data2).bind fun t38=>
  (Xo t14.1.2.2.2.1 (t18.1.1,(t38.1,t18.1.2.2))).bind fun t46=>
  some (t38.2.1,(t14.1.1,(t14.1.2.1,(t14.1.2.2.1,(t46.1,t14.1.2.2.2.2)))),())
def Zna(s0:Zs):Option (Zs×Bool×Unit):=
 (Zcc s0).bind fun t6=>
 (Yg s0).bind fun t8=>
 bif((!t8.1)|| (decide (s0.1>(1:Int))))|| (s0.2.2.2.2.2.1 !=(-1:Int))then
  some (t6.1,false,())
 else
  some ((t6.1.1,(t6.1.2.1,(t6.1.2.2.1,(t6.1.2.2.2.1,(t6.1.2.2.2.2.1,(s0.2.1.2.2.1,((1:Int),t6.1.2.2.2.2.2.2.2))))))),true,())
def Zgf(c0:Zg)(id1:Int):Option (Zg×Bool×Unit):=
 (Zy c0).bind fun t12=>
 (Q0 c0 id1).bind fun t16=>
 (Yw c0).bind fun t20=>
 bif((!t20.1)|| (!t16.2.1))|| (!t16.1.2.2.2.2.2.2.1)then
  some (t12.1,false,())
 else
  (Zna t16.1.2.1).bind fun t35=>
  bif !t35.2.1 then
   some (t12.1,false,())
  else
   (Xo t12.1.2.2.2.1 (t16.1.1,(t35.1,t16.1.2.2))).bind fun t46=>
   some ((t12.1.1,(t12.1.2.1,(t12.1.2.2.1,(t46.1,t12.1.2.2.2.2)))),true,())
def Zrh(b0:Z4)(most1:Int):Option (List UInt8×Z4×Unit):=
 (Zak b0).bind fun t10=>
 (Zja b0).bind fun t15=>
 bif(min t10.1 (max most1 (0:Int)))==0 then
  some (([]:List UInt8),t15.1,())
 else
  Zc (0≤(0:Int)∧(0:Int)<t15.1.2.1.length)<|
  let t27:Int:=IntKind.i64.wrap (t15.1.1+ (min t10.1 (max most1 (0:Int))))
  bif(min t10.1 (max most1 (0:Int)))==((t15.1.2.1.getD (0:Int).toNat Qv).2.1.length:Int)then
   Zc (0≤(1:Int)∧(1:Int)≤(t15.1.2.1.length:Int)∧(t15.1.2.1.length:Int)≤t15.1.2.1.length)<|
   (Zja (t27,((t15.1.2.1.drop (1:Int).toNat).take ((t15.1.2.1.length:Int).toNat- (1:Int).toNat),t15.1.2.2))).bind fun t39=>
   some ((t15.1.2.1.getD (0:Int).toNat Qv).2.1,t39.1,())
  else
   Zc (0≤(min t10.1 (max most1 (0:Int)))∧(min t10.1 (max most1 (0:Int)))≤((t15.1.2.1.getD (0:Int).toNat Qv).2.1.length:Int)∧((t15.1.2.1.getD (0:Int).toNat Qv).2.1.length:Int)≤(t15.1.2.1.getD (0:Int).toNat Qv).2.1.length)<|
   Zc (0≤(0:Int)∧(0:Int)<t15.1.2.1.length)<|
   Zc (0≤(0:Int)∧(0:Int)≤(min t10.1 (max most1 (0:Int)))∧(min t10.1 (max most1 (0:Int)))≤(t15.1.2.1.getD (0:Int).toNat Qv).2.1.length)<|
   some (((t15.1.2.1.getD (0:Int).toNat Qv).2.1.drop (0:Int).toNat).take ((min t10.1 (max most1 (0:Int))).toNat- (0:Int).toNat),(t27,(t15.1.2.1.set (0:Int).toNat (t27,(((t15.1.2.1.getD (0:Int).toNat Qv).2.1.drop (min t10.1 (max most1 (0:Int))).toNat).take (((t15.1.2.1.getD (0:Int).toNat Qv).2.1.length:Int).toNat- (min t10.1 (max most1 (0:Int))).toNat),())),t15.1.2.2)),())
abbrev Z0z:List PE:=[.box 5 84 (Q8) (.u true),.box 6 84 (Q8) (.u false),.val 7 (.str) (.u false)]
def Zgo(t5:Qo)(x6:Qo)(s7:List UInt8):Option ((List UInt8×Qo×Unit)×(Unit)):=
 some ((s7,(x6,())),())
def Zlp(r0:Qo)(most1:Int):Option ((List UInt8×Qo×Unit)×(Unit)):=
 (Zmy r0).bind fun t10=>
 (Yk r0).bind fun t12=>
 bif !t12.1 then
  some ((([]:List UInt8),(t10.1,())),())
 else
  bif r0.1==4 then
   some ((([]:List UInt8),(((5:Int),t10.1.2),())),())
  else
   (Zrh r0.2.1 most1).bind fun t24=>
   bif(r0.1==2)&& (t24.2.1.1==r0.2.2.1)then
    Zgo Z6c ((3:Int),(t24.2.1,t10.1.2.2)) t24.1
   else
    Zgo Z6c (t10.1.1,(t24.2.1,t10.1.2.2)) t24.1
def Zmj(w0:Kn)(n1:Int):Option (Kn×Bool×Unit):=
 (Jn w0).bind fun t7=>
 bif((!t7.1)|| (decide (n1< (0:Int))))|| (decide (n1>(IntKind.i64.wrap (w0.2.2.2.1-w0.2.2.2.2.1))))then
  some (w0,false,())
 else
  some ((w0.1,(w0.2.1,(w0.2.2.1,(w0.2.2.2.1,(IntKind.i64.wrap (w0.2.2.2.2.1+n1),w0.2.2.2.2.2))))),true,())
def Zrk(x0:Zg)(s1:Zp)(to2:Int):Option ((Unit)×(Zg×Zp×Unit)):=
 let t18:Int:=max (0:Int) (IntKind.i64.wrap (to2-s1.2.2.2.2.1.2.2.2.2.1))
 (Zmj s1.2.2.2.2.1 t18).bind fun t25=>
 (Zmj x0.2.2.2.2.2.1 t18).bind fun t38=>
 some ((),((x0.1,(x0.2.1,(x0.2.2.1,(x0.2.2.2.1,(x0.2.2.2.2.1,(t38.1,x0.2.2.2.2.2.2)))))),((s1.1,(s1.2.1,(s1.2.2.1,(s1.2.2.2.1,(t25.1,s1.2.2.2.2.2))))),())))
def Zo6(s0:Zp):Option (Bool×Unit):=
 some (((!s0.2.2.2.2.2.2.1)|| (s0.2.1.1==3))|| (s0.2.1.1==5),())
def Zkb(r0:Qo):Option (Bool×Unit):=
 (Yk r0).bind fun t4=>
 some (t4.1&& ((r0.1==3)|| (r0.1==5)),())
def Zo5(s0:Zp):Option (Bool×Unit):=
 (bif(!s0.2.2.2.2.2.2.2.1)then some (false,())else(Zkb s0.2.2.2.1)).bind fun t9=>
 some ((!s0.2.2.2.2.2.2.2.1)||t9.1,())
def Zme(s0:Zp):Option (Bool×Unit):=
 (Vo s0).bind fun t4=>
 (bif t4.1 then(Zo6 s0)else some (false,())).bind fun t7=>
 (bif(t4.1&&t7.1)then(Zo5 s0)else some (false,())).bind fun t11=>
 some ((t4.1&&t7.1)&&t11.1,())
def Zoh(a0:K5):Option (K5×Bool×Unit):=
 (Wy a0).bind fun t5=>
 bif(!t5.1)|| (a0.2.2.2.1==a0.2.2.1)then
  some (a0,false,())
 else
  some ((a0.1,(a0.2.1,(a0.2.2.1,(IntKind.i64.wrap (a0.2.2.2.1+1),a0.2.2.2.2)))),true,())
def Zu8(x0:Zg)(s1:Zp):Option ((Unit)×(Zg×Zp×Unit)):=
 (bif s1.2.2.2.2.2.2.2.2.2.2.2.2.2.1 then some (false,())else(Zer x0.1 s1.1)).bind fun t21=>
 (bif(s1.2.2.2.2.2.2.2.2.2.2.2.2.2.1||t21.1)then some (false,())else(Zme s1)).bind fun t27=>
 bif(s1.2.2.2.2.2.2.2.2.2.2.2.2.2.1||t21.1)|| (!t27.1)then
  some ((),(x0,(s1,())))
 else
  (Vv s1.1).bind fun t37=>
  bif t37.1 then
   (Zoh x0.2.2.2.2.2.2.2.2.2.1).bind fun t43=>
   some ((),((x0.1,(x0.2.1,(x0.2.2.1,(x0.2.2.2.1,(x0.2.2.2.2.1,(x0.2.2.2.2.2.1,(x0.2.2.2.2.2.2.1,(x0.2.2.2.2.2.2.2.1,(x0.2.2.2.2.2.2.2.2.1,(t43.1,x0.2.2.2.2.2.2.2.2.2.2)))))))))),((s1.1,(s1.2.1,(s1.2.2.1,(s1.2.2.2.1,(s1.2.2.2.2.1,(s1.2.2.2.2.2.1,(s1.2.2.2.2.2.2.1,(s1.2.2.2.2.2.2.2.1,(s1.2.2.2.2.2.2.2.2.1,(s1.2.2.2.2.2.2.2.2.2.1,(s1.2.2.2.2.2.2.2.2.2.2.1,(s1.2.2.2.2.2.2.2.2.2.2.2.1,(s1.2.2.2.2.2.2.2.2.2.2.2.2.1,(true,s1.2.2.2.2.2.2.2.2.2.2.2.2.2.2)))))))))))))),())))
  else
   (Zoh x0.2.2.2.2.2.2.2.2.1).bind fun t55=>
   some ((),((x0.1,(x0.2.1,(x0.2.2.1,(x0.2.2.2.1,(x0.2.2.2.2.1,(x0.2.2.2.2.2.1,(x0.2.2.2.2.2.2.1,(x0.2.2.2.2.2.2.2.1,(t55.1,x0.2.2.2.2.2.2.2.2.2))))))))),((s1.1,(s1.2.1,(s1.2.2.1,(s1.2.2.2.1,(s1.2.2.2.2.1,(s1.2.2.2.2.2.1,(s1.2.2.2.2.2.2.1,(s1.2.2.2.2.2.2.2.1,(s1.2.2.2.2.2.2.2.2.1,(s1.2.2.2.2.2.2.2.2.2.1,(s1.2.2.2.2.2.2.2.2.2.2.1,(s1.2.2.2.2.2.2.2.2.2.2.2.1,(s1.2.2.2.2.2.2.2.2.2.2.2.2.1,(true,s1.2.2.2.2.2.2.2.2.2.2.2.2.2.2)))))))))))))),())))
def Zdp(x0:Zg)(s1:Zp):Option ((Unit)×(Zg×Unit)):=
 (Zu8 x0 s1).bind fun t5=>
 (Xo t5.2.1.2.2.2.1 t5.2.2.1).bind fun t12=>
 some ((),((t5.2.1.1,(t5.2.1.2.1,(t5.2.1.2.2.1,(t12.1,t5.2.1.2.2.2.2)))),()))
abbrev Z5h:List PE:=[.box 8 37 (Zl) (.u true),.box 9 37 (Zl) (.p (.u true) (.p (.p (.u true) (.p (.u true) (.p (.u true) (.p (.u true) (.p (.u true) (.p (.u true) (.p (.u true) (.p (.u true) (.u true))))))))) (.p (.p (.u true) (.p (.u true) (.p (.u true) (.p (.u true) (.p (.u true) (.p (.u true) (.p (.u true) (.p (.u true) (.u true))))))))) (.p (.u false) (.p (.p (.u true) (.p (.u true) (.p (.u true) (.p (.u true) (.u true))))) (.p (.p (.u true) (.p (.u true) (.p (.u true) (.p (.u true) (.p (.u true) (.p (.u true) (.u true))))))) (.p (.p (.u true) (.p (.u true) (.p (.u true) (.u true)))) (.p (.p (.u true) (.p (.u true) (.p (.u true) (.u true)))) (.p (.p (.u true) (.p (.u true) (.p (.u true) (.p (.u true) (.u true))))) (.p (.p (.u true) (.p (.u true) (.p (.u true) (.p (.u true) (.u true))))) (.p (.u true) (.p (.u true) (.p (.u true) (.p (.u true) (.p (.u true) (.p (.u false) (.p (.u true) (.p (.u true) (.u true))))))))))))))))))),.box 10 88 (Z2) (.u false),.val 12 (.str) (.u false),.box 13 84 (Q8) (.u false)]
def V5(t8:Zg)(x9:Zg)(s10:Zp)(data12:List UInt8)(r13:Qo):Option ((List UInt8×Bool×Zg×Unit)×(Unit)):=
 (Zdp x9 s10).bind fun t52=>
 some ((data12,((r13.1==3)|| (r13.1==5),(t52.2.1,()))),())
def Zaj(c0:Zg)(id1:Int)(most2:Int):Option ((List UInt8×Bool×Zg×Unit)×(Unit)):=
 (Zy c0).bind fun t15=>
 (Q0 c0 id1).bind fun t19=>
 (Yw c0).bind fun t23=>
 bif((!t23.1)|| (!t19.2.1))|| (!t19.1.2.2.2.2.2.2.2.1)then
  some ((([]:List UInt8),(false,(t15.1,()))),())
 else
  (Zlp t19.1.2.2.2.1 most2).bind fun t39=>
  bif decide (t39.1.2.1.1< (4:Int))then
   (Zrk t15.1 (t19.1.1,(t19.1.2.1,(t19.1.2.2.1,(t39.1.2.1,t19.1.2.2.2.2)))) t39.1.2.1.2.1.1).bind fun t50=>
   V5 Km t50.2.1 t50.2.2.1 t39.1.1 t39.1.2.1
  else
   V5 Km t15.1 (t19.1.1,(t19.1.2.1,(t19.1.2.2.1,(t39.1.2.1,t19.1.2.2.2.2)))) t39.1.1 t39.1.2.1
abbrev Z7s:List PE:=[.val 0 (.str) (.u false),.val 3 (.slice 5 (.int .u8)) (.u true),.val 4 (.int .i64) (.u false)]
def Zjp(s0_1:List UInt8)(out3:List Int)(i4:Int):Nat:=((s0_1.length:Int)-i4).toNat+1
def Zge:Nat→List UInt8→List Int→Int→Option (List UInt8×Unit)
 |0,_,_,_=>none
 |N+1,s0_1,out3,i4=>
  bif decide (i4< (s0_1.length:Int))then
   Zc (0≤i4∧i4<s0_1.length)<|
   Zc ((16:Int)≠0)<|
   Zc (0≤i4∧i4<s0_1.length)<|
   Zc ((16:Int)≠0)<|
   (Zgt (IntKind.i64.wrap (Int.tdiv (IntKind.i64.wrap ((s0_1.getD i4.toNat 0).toNat:Int)) (16:Int)))).bind fun t18=>
   (Zgt (Int.tmod (IntKind.i64.wrap ((s0_1.getD i4.toNat 0).toNat:Int)) (16:Int))).bind fun t24=>
   Zc (out3.length+ ([t18.1,t24.1]).length≤Qp)<|
   Zge N s0_1 (out3++ ([t18.1,t24.1])) (IntKind.i64.wrap (i4+1))
  else
   some (Ws out3,())
def Ww(s0:List UInt8):Option (List UInt8×Unit):=
 Zge (Zjp s0 ([]:List Int) (0:Int)) s0 ([]:List Int) (0:Int)
abbrev Z24:List PE:=[.val 1 (.int .i64) (.u false),.box 2 79 (Qc) (.u false),.box 4 79 (Qc) (.u true),.box 6 76 (Zcz) (.p (.u false) (.p (.u false) (.p (.u false) (.p (.u true) (.u false)))))]
def Zn2(code1_1:Int)(s2:Zs)(t4:Zs)(r6:Kx):Option (Zs×Bool×Unit):=
 some (((4:Int),(r6,(([]:List Ze),(([]:List Ze),(([]:List Ze),(s2.2.2.2.2.2.2.2.1,((0:Int),(s2.2.2.2.2.2.2.2.1,(code1_1,()))))))))),true,())
def Zij(s0:Zs)(code1:Int):Option (Zs×Bool×Unit):=
 (Yg s0).bind fun t8=>
 let t14:Bool:=(!t8.1)|| (decide (s0.1>(2:Int)))
 (bif t14 then some (false,())else(Qh code1)).bind fun t17=>
 bif t14|| (!t17.1)then
  (Zcc s0).bind fun t21=>
  some (t21.1,false,())
 else
  Z6 (
   Zc (0≤s0.2.1.1∧s0.2.1.1≤s0.2.1.1∧s0.2.1.1≤Qp)<|
   Qm 1 (
    Zn2 code1 s0 Zdt (s0.2.1.1,(s0.2.2.2.2.2.2.2.1,(s0.2.2.2.2.2.2.2.1,(List.replicate s0.2.1.1.toNat (0:Int),()))))
   )
  ) (
   Zc (0≤s0.2.1.1∧s0.2.1.1≤s0.2.1.1∧s0.2.1.1≤Qp)<|
   Zn2 code1 s0 Zdt (s0.2.1.1,(s0.2.2.2.2.2.2.2.1,(s0.2.2.2.2.2.2.2.1,(List.replicate s0.2.1.1.toNat (0:Int),()))))
  )
def Zik(c0:Zg)(id1:Int)(code2:Int):Option ((Zg×Bool×Unit)×(Unit)):=
 (Zy c0).bind fun t14=>
 (Q0 c0 id1).bind fun t18=>
 (Yw c0).bind fun t22=>
 bif((!t22.1)|| (!t18.2.1))|| (!t18.1.2.2.2.2.2.2.1)then
  some ((t14.1,(false,())),())
 else
  (Zij t18.1.2.1 code2).bind fun t38=>
  bif !t38.2.1 then
   some ((t14.1,(false,())),())
  else
   Option.bind (Zdp t14.1 (t18.1.1,(t38.1,(t18.1.2.2.1,(t18.1.2.2.2.1,(t18.1.2.2.2.2.1,(t18.1.2.2.2.2.2.1,(t18.1.2.2.2.2.2.2.1,(t18.1.2.2.2.2.2.2.2.1,(true,t18.1.2.2.2.2.2.2.2.2.2)))))))))) fun t48=>
   some ((t48.2.1,(true,())),())
def Zpa(c0:Zg)(id1:Int)(code2:Int):Option (Zg×Bool×Unit):=
 (Zy c0).bind fun t12=>
 (Q0 c0 id1).bind fun t16=>
 (Yw c0).bind fun t20=>
 let t40:Bool:=((((!t20.1)|| (!t16.2.1))|| (!t16.1.2.2.2.2.2.2.2.1))||t16.1.2.2.2.2.2.2.2.2.2.2.2.1)|| (decide (t16.1.2.2.2.1.1>(1:Int)))
 (bif t40 then some (false,())else(Qh code2)).bind fun t43=>
 bif t40|| (!t43.1)then
  some (t12.1,false,())
 else
  Option.bind (Xo t12.1.2.2.2.1 (t16.1.1,(t16.1.2.1,(t16.1.2.2.1,(t16.1.2.2.2.1,(t16.1.2.2.2.2.1,(t16.1.2.2.2.2.2.1,(t16.1.2.2.2.2.2.2.1,(t16.1.2.2.2.2.2.2.2.1,(t16.1.2.2.2.2.2.2.2.2.1,(true,(t16.1.2.2.2.2.2.2.2.2.2.2.1,(true,(code2,t16.1.2.2.2.2.2.2.2.2.2.2.2.2.2)))))))))))))) fun t54=>
  some ((t12.1.1,(t12.1.2.1,(t12.1.2.2.1,(t54.1,t12.1.2.2.2.2)))),true,())
abbrev Qkw:List PE:=[.val 0 (.str) (.u false),.val 1 (.int .u8) (.u false),.val 5 (.slice 9 (.str)) (.u true),.val 6 (.str) (.u false),.val 7 (.int .i64) (.u false)]
def Ze6(K1: (List UInt8×Int×List (List UInt8)×List UInt8×Int×Unit)→Option (List (List UInt8)×Unit))(s0_2:List UInt8)(by1_2:Int)(out5_1:List (List UInt8))(part6_2:List UInt8)(i7_1:Int):Option (List (List UInt8)×Unit):=
 K1 (s0_2,by1_2,out5_1,part6_2,IntKind.i64.wrap (i7_1+1),())
abbrev Qkx:List PE:=[.val 0 (.str) (.u false),.val 1 (.int .u8) (.u false),.val 5 (.slice 9 (.str)) (.u true),.val 6 (.str) (.u false),.val 7 (.int .i64) (.u false)]
def Zhi(s0_1:List UInt8)(by1_1:Int)(out5:List (List UInt8))(part6_1:List UInt8)(i7:Int):Nat:=((s0_1.length:Int)-i7).toNat+1
def W1:Nat→List UInt8→Int→List (List UInt8)→List UInt8→Int→Option (List (List UInt8)×Unit)
 |0,_,_,_,_,_=>none
 |N+1,s0_1,by1_1,out5,part6_1,i7=>
  bif decide (i7< (s0_1.length:Int))then
   Zc (0≤i7∧i7<s0_1.length)<|
   bif((s0_1.getD i7.toNat 0).toNat:Int)==by1_1 then
    Zc (out5.length+ ([part6_1]).length≤Qp)<|
    Ze6 (fun v=>W1 N v.1 v.2.1 v.2.2.1 v.2.2.2.1 v.2.2.2.2.1) s0_1 by1_1 (out5++ ([part6_1])) ([]:List UInt8) i7
   else
    Zc (0≤i7∧i7≤(IntKind.i64.wrap (i7+1))∧(IntKind.i64.wrap (i7+1))≤s0_1.length)<|
    let t29:List UInt8:=(s0_1.drop i7.toNat).take ((IntKind.i64.wrap (i7+1)).toNat-i7.toNat)
    Zc (part6_1.length+t29.length≤Z8)<|
    Ze6 (fun v=>W1 N v.1 v.2.1 v.2.2.1 v.2.2.2.1 v.2.2.2.2.1) s0_1 by1_1 out5 (part6_1++t29) i7
  else
   Zc (out5.length+ ([part6_1]).length≤Qp)<|
   some (out5++ ([part6_1]),())
def Zp5(s0:List UInt8)(by1:Int):Option (List (List UInt8)×Unit):=
 W1 (Zhi s0 by1 ([]:List (List UInt8)) ([]:List UInt8) (0:Int)) s0 by1 ([]:List (List UInt8)) ([]:List UInt8) (0:Int)
abbrev Qgd:List PE:=[.val 0 (.str) (.u false)]
def Zmn(s0_2:List UInt8):Nat:=((s0_2.length:Int)- (0:Int)).toNat+1
def Zki:Nat→List UInt8→Option (List UInt8×Unit)
 |0,_=>none
 |N+1,s0_2=>
  let t20:Int:=IntKind.i64.wrap ((s0_2.length:Int)- (1:Int))
  Zc (((decide ((s0_2.length:Int)>(0:Int)))=true→(0≤t20∧t20<s0_2.length)))<|
  bif(decide ((s0_2.length:Int)>(0:Int)))&& (((s0_2.getD t20.toNat 0).toNat:Int)==(32:Int))then
   let t27:Int:=IntKind.i64.wrap ((s0_2.length:Int)- (1:Int))
   Zc (0≤(0:Int)∧(0:Int)≤t27∧t27≤s0_2.length)<|
   Zki N ((s0_2.drop (0:Int).toNat).take (t27.toNat- (0:Int).toNat))
  else
   some (s0_2,())
abbrev Qgc:List PE:=[.val 0 (.str) (.u false)]
def Zmm(s0_1:List UInt8):Nat:=((s0_1.length:Int)- (0:Int)).toNat+1
def Zkh:Nat→List UInt8→Option (List UInt8×Unit)
 |0,_=>none
 |N+1,s0_1=>
  Zc (((decide ((s0_1.length:Int)>(0:Int)))=true→(0≤(0:Int)∧(0:Int)<s0_1.length)))<|
  bif(decide ((s0_1.length:Int)>(0:Int)))&& (((s0_1.getD (0:Int).toNat 0).toNat:Int)==(32:Int))then
   Zc (0≤(1:Int)∧(1:Int)≤(s0_1.length:Int)∧(s0_1.length:Int)≤s0_1.length)<|
   Zkh N ((s0_1.drop (1:Int).toNat).take ((s0_1.length:Int).toNat- (1:Int).toNat))
  else
   Zki (Zmn s0_1) s0_1
def Zu7(s0:List UInt8):Option (List UInt8×Unit):=
 Zkh (Zmm s0) s0
abbrev Zzb:List PE:=[.box 2 86 (Jl) (.u false),.box 4 86 (Jl) (.u false),.val 5 (.slice 9 (.str)) (.u true),.val 6 (.int .i64) (.u false)]
def Kv(K1: (Xq×Xq×List (List UInt8)×Int×Unit)→Option (Xq×Unit))(base2_2:Xq)(t4_2:Xq)(l5_1:List (List UInt8))(i6_1:Int):Option (Xq×Unit):=
 K1 (base2_2,t4_2,l5_1,IntKind.i64.wrap (i6_1+1),())
abbrev Zzc:List PE:=[.box 2 86 (Jl) (.u false),.box 4 86 (Jl) (.u false),.val 5 (.slice 9 (.str)) (.u true),.val 6 (.int .i64) (.u false)]
def Zev(base2_1:Xq)(t4_1:Xq)(l5:List (List UInt8))(i6:Int):Nat:=((l5.length:Int)-i6).toNat+1
def Yf:Nat→Xq→Xq→List (List UInt8)→Int→Option (Xq×Unit)
 |0,_,_,_,_=>none
 |N+1,base2_1,t4_1,l5,i6=>
  bif decide (i6< (l5.length:Int))then
   Zc (0≤i6∧i6<l5.length)<|
   (Zu7 (l5.getD i6.toNat ([]:List UInt8))).bind fun t24=>
   bif(t24.1==([105]:List UInt8))|| (t24.1==([105,61,63,49]:List UInt8))then
    Kv (fun v=>Yf N v.1 v.2.1 v.2.2.1 v.2.2.2.1) (base2_1.1,(true,base2_1.2.2)) t4_1 l5 i6
   else
    bif t24.1==([105,61,63,48]:List UInt8)then
     Kv (fun v=>Yf N v.1 v.2.1 v.2.2.1 v.2.2.2.1) (base2_1.1,(false,base2_1.2.2)) t4_1 l5 i6
    else
     Zc ((((t24.1.length:Int)==(3:Int))=true→(0≤(0:Int)∧(0:Int)≤(2:Int)∧(2:Int)≤t24.1.length)))<|
     let t45:Bool:=((t24.1.length:Int)==(3:Int))&& (((t24.1.drop (0:Int).toNat).take ((2:Int).toNat- (0:Int).toNat))==([117,61]:List UInt8))
     Zc ((t45=true→(0≤(2:Int)∧(2:Int)<t24.1.length)))<|
     let t50:Bool:=t45&& (decide (((t24.1.getD (2:Int).toNat 0).toNat:Int)≥(48:Int)))
     Zc ((t50=true→(0≤(2:Int)∧(2:Int)<t24.1.length)))<|
     bif t50&& (decide (((t24.1.getD (2:Int).toNat 0).toNat:Int)≤(55:Int)))then
      Zc (0≤(2:Int)∧(2:Int)<t24.1.length)<|
      Kv (fun v=>Yf N v.1 v.2.1 v.2.2.1 v.2.2.2.1) (IntKind.i64.wrap (IntKind.u8.wrap (((t24.1.getD (2:Int).toNat 0).toNat:Int)- (48:Int))),base2_1.2) t4_1 l5 i6
     else
      Kv (fun v=>Yf N v.1 v.2.1 v.2.2.1 v.2.2.2.1) base2_1 t4_1 l5 i6
  else
   some (base2_1,())
abbrev Zza:List PE:=[.val 1 (.str) (.u false),.box 2 86 (Jl) (.u false),.box 4 86 (Jl) (.u false)]
def Za8(s1_1:List UInt8)(base2:Xq)(t4:Xq):Option (Xq×Unit):=
 (Zp5 s1_1 (44:Int)).bind fun t13=>
 Yf (Zev base2 t4 t13.1 (0:Int)) base2 t4 t13.1 (0:Int)
def Zjt(base0:Xq)(s1:List UInt8):Option (Xq×Unit):=
 (Zcx base0).bind fun t9=>
 bif !t9.1 then
  Option.bind Wh fun t11=>
  Za8 s1 t11.1 ((0:Int),(false,()))
 else
  Za8 s1 base0 ((0:Int),(false,()))
def Zil(c0:Zg)(id1:Int)(text2:List UInt8):Option (Zg×Bool×Unit):=
 (Zy c0).bind fun t12=>
 (Q0 c0 id1).bind fun t16=>
 (Yw c0).bind fun t20=>
 bif((!t20.1)|| (!t16.2.1))|| (!t16.1.2.2.2.2.2.2.1)then
  some (t12.1,false,())
 else
  (Zjt t16.1.2.2.2.2.2.1 text2).bind fun t35=>
  Option.bind (Xo t12.1.2.2.2.1 (t16.1.1,(t16.1.2.1,(t16.1.2.2.1,(t16.1.2.2.2.1,(t16.1.2.2.2.2.1,(t35.1,t16.1.2.2.2.2.2.2))))))) fun t40=>
  some ((t12.1.1,(t12.1.2.1,(t12.1.2.2.1,(t40.1,t12.1.2.2.2.2)))),true,())
abbrev Qb7:List PE:=[.val 1 (.int .i64) (.u false),.box 2 37 (Zl) (.u false),.box 4 67 (J3) (.u true),.val 6 (.int .i64) (.u false)]
def Zla(number1_1:Int)(c2:Zg)(t4:Q2)(i6:Int):Nat:=((c2.2.2.2.2.2.2.2.2.2.2.2.2.2.2.2.1.length:Int)-i6).toNat+1
def Zie:Nat→Int→Zg→Q2→Int→Option (Q2×Bool×Unit)
 |0,_,_,_,_=>none
 |N+1,number1_1,c2,t4,i6=>
  bif decide (i6< (c2.2.2.2.2.2.2.2.2.2.2.2.2.2.2.2.1.length:Int))then
   Zc (0≤i6∧i6<c2.2.2.2.2.2.2.2.2.2.2.2.2.2.2.2.1.length)<|
   bif(c2.2.2.2.2.2.2.2.2.2.2.2.2.2.2.2.1.getD i6.toNat Qk).1==number1_1 then
    Zc (0≤i6∧i6<c2.2.2.2.2.2.2.2.2.2.2.2.2.2.2.2.1.length)<|
    Zc (([]:List Zh).length+ (c2.2.2.2.2.2.2.2.2.2.2.2.2.2.2.2.1.getD i6.toNat Qk).2.1.length≤Qp)<|
    some ((number1_1,(([]:List Zh)++ (c2.2.2.2.2.2.2.2.2.2.2.2.2.2.2.2.1.getD i6.toNat Qk).2.1,())),true,())
   else
    Zie N number1_1 c2 t4 (IntKind.i64.wrap (i6+1))
  else
   some (((0:Int),(([]:List Zh),())),false,())
def Zok(c0:Zg)(number1:Int):Option (Q2×Bool×Unit):=
 Zie (Zla number1 c0 ((0:Int),(([]:List Zh),())) (0:Int)) number1 c0 ((0:Int),(([]:List Zh),())) (0:Int)
abbrev Qgp:List PE:=[.box 0 37 (Zl) (.u false),.val 1 (.int .i64) (.u false),.val 4 (.slice 67 (J3)) (.p (.u true) (.u false)),.val 5 (.int .i64) (.u false)]
def Zkq(K1: (Zg×Int×List Q2×Int×Unit)→Option ((Unit)×(Zg×Unit)))(x0_2:Zg)(number1_2:Int)(out4_1:List Q2)(i5_1:Int):Option ((Unit)×(Zg×Unit)):=
 K1 (x0_2,number1_2,out4_1,IntKind.i64.wrap (i5_1+1),())
abbrev Qgq:List PE:=[.box 0 37 (Zl) (.u false),.val 1 (.int .i64) (.u false),.val 4 (.slice 67 (J3)) (.p (.u true) (.u false)),.val 5 (.int .i64) (.u false)]
def Zmt(x0_1:Zg)(number1_1:Int)(out4:List Q2)(i5:Int):Nat:=((x0_1.2.2.2.2.2.2.2.2.2.2.2.2.2.2.2.1.length:Int)-i5).toNat+1
def Zcy:Nat→Zg→Int→List Q2→Int→Option ((Unit)×(Zg×Unit))
 |0,_,_,_,_=>none
 |N+1,x0_1,number1_1,out4,i5=>
  bif decide (i5< (x0_1.2.2.2.2.2.2.2.2.2.2.2.2.2.2.2.1.length:Int))then
   Zc (0≤i5∧i5<x0_1.2.2.2.2.2.2.2.2.2.2.2.2.2.2.2.1.length)<|
   bif(x0_1.2.2.2.2.2.2.2.2.2.2.2.2.2.2.2.1.getD i5.toNat Qk).1 !=number1_1 then
    Zc (0≤i5∧i5<x0_1.2.2.2.2.2.2.2.2.2.2.2.2.2.2.2.1.length)<|
    Zc (out4.length+ ([(x0_1.2.2.2.2.2.2.2.2.2.2.2.2.2.2.2.1.getD i5.toNat Qk)]).length≤Qp)<|
    Zkq (fun v=>Zcy N v.1 v.2.1 v.2.2.1 v.2.2.2.1) x0_1 number1_1 (out4++ ([(x0_1.2.2.2.2.2.2.2.2.2.2.2.2.2.2.2.1.getD i5.toNat Qk)])) i5
   else
    Zkq (fun v=>Zcy N v.1 v.2.1 v.2.2.1 v.2.2.2.1) x0_1 number1_1 out4 i5
  else
   some ((),((x0_1.1,(x0_1.2.1,(x0_1.2.2.1,(x0_1.2.2.2.1,(x0_1.2.2.2.2.1,(x0_1.2.2.2.2.2.1,(x0_1.2.2.2.2.2.2.1,(x0_1.2.2.2.2.2.2.2.1,(x0_1.2.2.2.2.2.2.2.2.1,(x0_1.2.2.2.2.2.2.2.2.2.1,(x0_1.2.2.2.2.2.2.2.2.2.2.1,(x0_1.2.2.2.2.2.2.2.2.2.2.2.1,(x0_1.2.2.2.2.2.2.2.2.2.2.2.2.1,(x0_1.2.2.2.2.2.2.2.2.2.2.2.2.2.1,(x0_1.2.2.2.2.2.2.2.2.2.2.2.2.2.2.1,(out4,x0_1.2.2.2.2.2.2.2.2.2.2.2.2.2.2.2.2)))))))))))))))),()))
def Zrn(x0:Zg)(number1:Int):Option ((Unit)×(Zg×Unit)):=
 Zcy (Zmt x0 number1 ([]:List Q2) (0:Int)) x0 number1 ([]:List Q2) (0:Int)
def Zxx(f0:Zh):Option (Ku×Unit):=
 some ((f0.2.2.1,(f0.2.2.2.1,(f0.2.2.2.2.1,()))),())
abbrev Qby:List PE:=[.val 1 (.int .i64) (.u false),.box 2 76 (Zcz) (.u false),.box 4 76 (Zcz) (.u true),.box 6 76 (Zcz) (.u true),.val 7 (.int .i64) (.u false)]
def Zfj(to1_1:Int)(r2:Kx)(t4:Kx)(x6:Kx)(at7:Int):Nat:=(to1_1-at7).toNat+1
def Zh1:Nat→Int→Kx→Kx→Kx→Int→Option (Kx×Bool×Unit)
 |0,_,_,_,_,_=>none
 |N+1,to1_1,r2,t4,x6,at7=>
  bif decide (at7<to1_1)then
   Zc (r2.1≠0)<|
   Zc (0≤(Int.tmod at7 r2.1)∧(Int.tmod at7 r2.1)<x6.2.2.2.1.length)<|
   Zh1 N to1_1 r2 t4 (x6.1,(x6.2.1,(x6.2.2.1,(x6.2.2.2.1.set (Int.tmod at7 r2.1).toNat (0:Int),x6.2.2.2.2)))) (IntKind.i64.wrap (at7+1))
  else
   some ((x6.1,(to1_1,x6.2.2)),true,())
def Zkz(r0:Kx)(to1:Int):Option (Kx×Bool×Unit):=
 (Zp9 r0).bind fun t9=>
 (Zb7 r0).bind fun t11=>
 bif((!t11.1)|| (decide (to1<r0.2.1)))|| (decide (to1>r0.2.2.1))then
  some (t9.1,false,())
 else
  Zh1 (Zfj to1 r0 Q1k t9.1 r0.2.1) to1 r0 Q1k t9.1 r0.2.1
abbrev Qbt:List PE:=[.box 4 79 (Qc) (.u true),.box 5 79 (Qc) (.p (.u false) (.p (.u true) (.p (.u true) (.p (.u true) (.p (.u true) (.u false)))))),.box 8 76 (Zcz) (.u true)]
def X4(t4_2:Zs)(x5_2:Zs)(r8:Kx):Option (Zs×Unit):=
 (Vw (x5_2.1,(r8,x5_2.2.2))).bind fun t78=>
 some ((t78.1,(r8,x5_2.2.2)),())
abbrev Qbs:List PE:=[.box 2 79 (Qc) (.u false),.box 4 79 (Qc) (.u true),.box 5 79 (Qc) (.p (.u false) (.p (.u true) (.p (.u true) (.p (.u true) (.p (.u true) (.u false))))))]
def Zhw(s2_1:Zs)(t4_1:Zs)(x5_1:Zs):Option (Zs×Unit):=
 Z6 (
  (Zg1 x5_1.2.2.2.2.1 (0:Int)).bind fun t71=>
  Z6 (
   (Zkz s2_1.2.1 t71.1).bind fun t72=>
   Z6 (
    Z6 (
     Z6 (
      X4 t4_1 x5_1 t72.1
     ) (
      Qm 1 (
       X4 t4_1 x5_1 t72.1
      )
     )
    ) (
    Z6 (
     Qm 1 (
      X4 t4_1 x5_1 t72.1
     )
    ) (
     Z6 (
      Qm 1 (
       X4 t4_1 x5_1 t72.1
      )
     ) (
      X4 t4_1 x5_1 t72.1
     )
    )
    )
   ) (
    Z6 (
     Qm 1 (
      X4 t4_1 x5_1 t72.1
     )
    ) (
     X4 t4_1 x5_1 t72.1
    )
   )
  ) (
   (Zkz s2_1.2.1 t71.1).bind fun t72=>
   Z6 (
    Qm 1 (
     X4 t4_1 x5_1 t72.1
    )
   ) (
    X4 t4_1 x5_1 t72.1
   )
  )
 ) (
  (Zg1 x5_1.2.2.2.2.1 (0:Int)).bind fun t71=>
  (Zkz s2_1.2.1 t71.1).bind fun t72=>
  Z6 (
   Qm 1 (
    X4 t4_1 x5_1 t72.1
   )
  ) (
   X4 t4_1 x5_1 t72.1
  )
 )
abbrev Qbr:List PE:=[.box 2 79 (Qc) (.u false),.box 3 278 (Zbv) (.u false),.box 4 79 (Qc) (.u true),.box 5 79 (Qc) (.u true)]
def Zhv(s2:Zs)(p3:Ku)(t4:Zs)(x5:Zs):Option (Zs×Unit):=
 bif p3.2.2.1&& (s2.2.2.2.2.2.2.1==2)then
  Zhw s2 t4 (x5.1,(x5.2.1,(x5.2.2.1,(x5.2.2.2.1,(x5.2.2.2.2.1,(x5.2.2.2.2.2.1,((3:Int),x5.2.2.2.2.2.2.2)))))))
 else
  Zhw s2 t4 x5
abbrev Qbu:List PE:=[.box 2 79 (Qc) (.u false),.box 3 278 (Zbv) (.u false),.box 4 79 (Qc) (.u true),.box 5 79 (Qc) (.u true),.val 6 (.slice 195 (Zt)) (.u true),.val 7 (.int .i64) (.u false)]
def Zk7(s2_2:Zs)(p3_1:Ku)(t4_3:Zs)(x5_3:Zs)(c6:List Ze)(i7:Int):Nat:=((c6.length:Int)-i7).toNat+1
def Zhx:Nat→Zs→Ku→Zs→Zs→List Ze→Int→Option (Zs×Unit)
 |0,_,_,_,_,_,_=>none
 |N+1,s2_2,p3_1,t4_3,x5_3,c6,i7=>
  bif decide (i7< (c6.length:Int))then
   Zc (0≤i7∧i7<c6.length)<|
   (Zd9 x5_3.2.2.2.1 (c6.getD i7.toNat Zz)).bind fun t48=>
   Zc (0≤i7∧i7<c6.length)<|
   (Jm x5_3.2.2.2.2.1 (c6.getD i7.toNat Zz)).bind fun t56=>
   Zhx N s2_2 p3_1 t4_3 (x5_3.1,(x5_3.2.1,(x5_3.2.2.1,(t48.1,(t56.1,x5_3.2.2.2.2.2))))) c6 (IntKind.i64.wrap (i7+1))
  else
   Zhv s2_2 p3_1 t4_3 x5_3
def Zss(s0:Zs)(p1:Ku):Option (Zs×Unit):=
 (Zcc s0).bind fun t11=>
 (Yg s0).bind fun t13=>
 let t19:Bool:=(!t13.1)|| (decide (s0.1>(2:Int)))
 (bif t19 then some (false,())else(Zrt s0 p1)).bind fun t23=>
 bif t19|| (!t23.1)then
  some (t11.1,())
 else
  bif !(p1.2.1==([]:List UInt8))then
   (Znm p1).bind fun t33=>
   (Zck s0.2.2.2.1 ([t33.1])).bind fun t35=>
   Zhx (Zk7 s0 p1 Zdt t11.1 t35.1 (0:Int)) s0 p1 Zdt t11.1 t35.1 (0:Int)
  else
   Zhv s0 p1 Zdt t11.1
def Zst(s0:Zs):Option (Zs×Bool×Unit):=
 (Zcc s0).bind fun t6=>
 (Yg s0).bind fun t8=>
 bif(!t8.1)|| (s0.1 !=4)then
  some (t6.1,false,())
 else
  some (((5:Int),t6.1.2),true,())
abbrev Qkz:List PE:=[.box 0 37 (Zl) (.u false),.box 4 88 (Z2) (.p (.u false) (.p (.u true) (.p (.u false) (.p (.u true) (.u false)))))]
def Zca(x0_2:Zg)(s4_1:Zp):Option ((Unit)×(Zg×Unit)):=
 (Zdp x0_2 s4_1).bind fun t51=>
 some ((),(t51.2.1,()))
abbrev Qky:List PE:=[.box 0 37 (Zl) (.u false),.box 3 106 (Zu) (.u false),.box 4 88 (Z2) (.u true),.val 5 (.bool) (.u false)]
def Kk(x0_1:Zg)(f3:Zh)(s4:Zp)(is5:Bool):Option ((Unit)×(Zg×Unit)):=
 (bif(!is5)then some (false,())else(Kd f3)).bind fun t21=>
 bif(!is5)|| (!t21.1)then
  some ((),(x0_1,()))
 else
  bif f3.1==8 then
   (Zxx f3).bind fun t31=>
   (Zss s4.2.1 t31.1).bind fun t32=>
   Zca x0_1 (s4.1,(t32.1,s4.2.2))
  else
   bif f3.1==4 then
    (Zst s4.2.1).bind fun t39=>
    bif t39.2.1 then
     Zca x0_1 (s4.1,(t39.1,(s4.2.2.1,(s4.2.2.2.1,(s4.2.2.2.2.1,(s4.2.2.2.2.2.1,(s4.2.2.2.2.2.2.1,(s4.2.2.2.2.2.2.2.1,(false,s4.2.2.2.2.2.2.2.2.2)))))))))
    else
     Zca x0_1 (s4.1,(t39.1,s4.2.2))
   else
    bif f3.1==5 then
     Zca x0_1 (s4.1,(s4.2.1,(s4.2.2.1,(s4.2.2.2.1,(s4.2.2.2.2.1,(s4.2.2.2.2.2.1,(s4.2.2.2.2.2.2.1,(s4.2.2.2.2.2.2.2.1,(s4.2.2.2.2.2.2.2.2.1,(false,s4.2.2.2.2.2.2.2.2.2.2))))))))))
    else
     Zca x0_1 s4
def Zxj(x0:Zg)(f1:Zh):Option ((Unit)×(Zg×Unit)):=
 Z6 (
  (Q0 x0 f1.2.1).bind fun t14=>
  Z6 (
   Z6 (
    Z6 (
     Kk x0 f1 t14.1 t14.2.1
    ) (
     Qm 1 (
      Kk x0 f1 t14.1 t14.2.1
     )
    )
   ) (
   Z6 (
    Qm 1 (
     Kk x0 f1 t14.1 t14.2.1
    )
   ) (
    Z6 (
     Qm 1 (
      Kk x0 f1 t14.1 t14.2.1
     )
    ) (
     Kk x0 f1 t14.1 t14.2.1
    )
   )
   )
  ) (
   Z6 (
    Qm 1 (
     Kk x0 f1 t14.1 t14.2.1
    )
   ) (
    Kk x0 f1 t14.1 t14.2.1
   )
  )
 ) (
  (Q0 x0 f1.2.1).bind fun t14=>
  Z6 (
   Qm 1 (
    Kk x0 f1 t14.1 t14.2.1
   )
  ) (
   Kk x0 f1 t14.1 t14.2.1
  )
 )
abbrev Z7p:List PE:=[.box 4 37 (Zl) (.u true),.box 6 37 (Zl) (.u false),.box 7 67 (J3) (.u true),.val 9 (.int .i64) (.u false)]
def Zjh(t4:Zg)(x6:Zg)(p7:Q2)(i9:Int):Nat:=((p7.2.1.length:Int)-i9).toNat+1
def Zf9:Nat→Zg→Zg→Q2→Int→Option ((Zg×Bool×Unit)×(Unit))
 |0,_,_,_,_=>none
 |N+1,t4,x6,p7,i9=>
  bif decide (i9< (p7.2.1.length:Int))then
   Zc (0≤i9∧i9<p7.2.1.length)<|
   (Zxj x6 (p7.2.1.getD i9.toNat Xk)).bind fun t40=>
   Zf9 N t4 t40.2.1 p7 (IntKind.i64.wrap (i9+1))
  else
   some ((x6,(true,())),())
def Zb1(c0:Zg)(number1:Int):Option ((Zg×Bool×Unit)×(Unit)):=
 (Zy c0).bind fun t11=>
 (Zok c0 number1).bind fun t15=>
 (Yw c0).bind fun t19=>
 bif(!t19.1)|| (!t15.2.1)then
  some ((t11.1,(false,())),())
 else
  (Zrn t11.1 number1).bind fun t27=>
  Zf9 (Zjh Km t27.2.1 t15.1 (0:Int)) Km t27.2.1 t15.1 (0:Int)
abbrev Z7x:List PE:=[.box 4 79 (Qc) (.u true),.box 5 79 (Qc) (.p (.u false) (.p (.u true) (.p (.u true) (.p (.u true) (.p (.u true) (.u false))))))]
def Zgl(t4_1:Zs)(x5_1:Zs):Option (Zs×Unit):=
 (Vw x5_1).bind fun t65=>
 some ((t65.1,x5_1.2),())
abbrev Z7w:List PE:=[.box 2 79 (Qc) (.u false),.box 3 278 (Zbv) (.u false),.box 4 79 (Qc) (.u true),.box 5 79 (Qc) (.u true)]
def Zgk(s2:Zs)(p3:Ku)(t4:Zs)(x5:Zs):Option (Zs×Unit):=
 bif p3.2.2.1&& (s2.2.2.2.2.2.2.1==2)then
  Zgl t4 (x5.1,(x5.2.1,(x5.2.2.1,(x5.2.2.2.1,(x5.2.2.2.2.1,(x5.2.2.2.2.2.1,((1:Int),x5.2.2.2.2.2.2.2)))))))
 else
  Zgl t4 x5
abbrev Z7y:List PE:=[.box 2 79 (Qc) (.u false),.box 3 278 (Zbv) (.u false),.box 4 79 (Qc) (.u true),.box 5 79 (Qc) (.u true),.val 6 (.slice 195 (Zt)) (.u true),.val 7 (.int .i64) (.u false)]
def Zjs(s2_1:Zs)(p3_1:Ku)(t4_2:Zs)(x5_2:Zs)(c6:List Ze)(i7:Int):Nat:=((c6.length:Int)-i7).toNat+1
def Zgm:Nat→Zs→Ku→Zs→Zs→List Ze→Int→Option (Zs×Unit)
 |0,_,_,_,_,_,_=>none
 |N+1,s2_1,p3_1,t4_2,x5_2,c6,i7=>
  bif decide (i7< (c6.length:Int))then
   Zc (0≤i7∧i7<c6.length)<|
   (Zd9 x5_2.2.2.2.1 (c6.getD i7.toNat Zz)).bind fun t46=>
   Zc (0≤i7∧i7<c6.length)<|
   (Jm x5_2.2.2.1 (c6.getD i7.toNat Zz)).bind fun t54=>
   Zgm N s2_1 p3_1 t4_2 (x5_2.1,(x5_2.2.1,(t54.1,(t46.1,x5_2.2.2.2.2)))) c6 (IntKind.i64.wrap (i7+1))
  else
   Zgk s2_1 p3_1 t4_2 x5_2
def Zre(s0:Zs)(p1:Ku):Option (Zs×Unit):=
 (Zcc s0).bind fun t9=>
 (Yg s0).bind fun t11=>
 let t17:Bool:=(!t11.1)|| (decide (s0.1>(2:Int)))
 (bif t17 then some (false,())else(Zrt s0 p1)).bind fun t21=>
 bif t17|| (!t21.1)then
  some (t9.1,())
 else
  bif !(p1.2.1==([]:List UInt8))then
   (Znm p1).bind fun t31=>
   (Zck s0.2.2.2.1 ([t31.1])).bind fun t33=>
   Zgm (Zjs s0 p1 Zdt t9.1 t33.1 (0:Int)) s0 p1 Zdt t9.1 t33.1 (0:Int)
  else
   Zgk s0 p1 Zdt t9.1
abbrev Qgs:List PE:=[.box 0 37 (Zl) (.u false),.box 4 88 (Z2) (.p (.u false) (.p (.u true) (.p (.u false) (.p (.u true) (.u false)))))]
def Zam(x0_2:Zg)(s4_1:Zp):Option ((Unit)×(Zg×Unit)):=
 (Xo x0_2.2.2.2.1 s4_1).bind fun t72=>
 some ((),((x0_2.1,(x0_2.2.1,(x0_2.2.2.1,(t72.1,x0_2.2.2.2.2)))),()))
abbrev Qgr:List PE:=[.box 0 37 (Zl) (.u false),.box 3 106 (Zu) (.u false),.box 4 88 (Z2) (.u true),.val 5 (.bool) (.u false)]
def Y2(x0_1:Zg)(f3:Zh)(s4:Zp)(is5:Bool):Option ((Unit)×(Zg×Unit)):=
 (bif(!is5)then some (false,())else(Kd f3)).bind fun t36=>
 bif(!is5)|| (!t36.1)then
  some ((),(x0_1,()))
 else
  bif f3.1==8 then
   (Zxx f3).bind fun t46=>
   (Zre s4.2.1 t46.1).bind fun t47=>
   Zam x0_1 (s4.1,(t47.1,s4.2.2))
  else
   bif f3.1==4 then
    Zam x0_1 (s4.1,(s4.2.1,(s4.2.2.1,(s4.2.2.2.1,(s4.2.2.2.2.1,(s4.2.2.2.2.2.1,(s4.2.2.2.2.2.2.1,(s4.2.2.2.2.2.2.2.1,(s4.2.1.1==4,s4.2.2.2.2.2.2.2.2.2)))))))))
   else
    bif f3.1==5 then
     Zam x0_1 (s4.1,(s4.2.1,(s4.2.2.1,(s4.2.2.2.1,(s4.2.2.2.2.1,(s4.2.2.2.2.2.1,(s4.2.2.2.2.2.2.1,(s4.2.2.2.2.2.2.2.1,(s4.2.2.2.2.2.2.2.2.1,(decide (s4.2.2.2.1.1< (2:Int)),s4.2.2.2.2.2.2.2.2.2.2))))))))))
    else
     bif f3.1==17 then
      Zam x0_1 (s4.1,(s4.2.1,(s4.2.2.1,(s4.2.2.2.1,(s4.2.2.2.2.1,(s4.2.2.2.2.2.1,(s4.2.2.2.2.2.2.1,(s4.2.2.2.2.2.2.2.1,(s4.2.2.2.2.2.2.2.2.1,(s4.2.2.2.2.2.2.2.2.2.1,(true,s4.2.2.2.2.2.2.2.2.2.2.2)))))))))))
     else
      Zam x0_1 s4
def Zvd(x0:Zg)(f1:Zh):Option ((Unit)×(Zg×Unit)):=
 bif f1.1==16 then
  some ((),((x0.1,(x0.2.1,(x0.2.2.1,(x0.2.2.2.1,(x0.2.2.2.2.1,(x0.2.2.2.2.2.1,(x0.2.2.2.2.2.2.1,(x0.2.2.2.2.2.2.2.1,(x0.2.2.2.2.2.2.2.2.1,(x0.2.2.2.2.2.2.2.2.2.1,(true,x0.2.2.2.2.2.2.2.2.2.2.2))))))))))),()))
 else
  bif f1.1==18 then
   bif f1.2.2.2.2.2.2.2.2.1 then
    some ((),((x0.1,(x0.2.1,(x0.2.2.1,(x0.2.2.2.1,(x0.2.2.2.2.1,(x0.2.2.2.2.2.1,(x0.2.2.2.2.2.2.1,(x0.2.2.2.2.2.2.2.1,(x0.2.2.2.2.2.2.2.2.1,(x0.2.2.2.2.2.2.2.2.2.1,(x0.2.2.2.2.2.2.2.2.2.2.1,(x0.2.2.2.2.2.2.2.2.2.2.2.1,(true,x0.2.2.2.2.2.2.2.2.2.2.2.2.2))))))))))))),()))
   else
    some ((),((x0.1,(x0.2.1,(x0.2.2.1,(x0.2.2.2.1,(x0.2.2.2.2.1,(x0.2.2.2.2.2.1,(x0.2.2.2.2.2.2.1,(x0.2.2.2.2.2.2.2.1,(x0.2.2.2.2.2.2.2.2.1,(x0.2.2.2.2.2.2.2.2.2.1,(x0.2.2.2.2.2.2.2.2.2.2.1,(true,x0.2.2.2.2.2.2.2.2.2.2.2.2)))))))))))),()))
  else
   Z6 (
    (Q0 x0 f1.2.1).bind fun t29=>
    Z6 (
     Z6 (
      Z6 (
       Y2 x0 f1 t29.1 t29.2.1
      ) (
       Qm 1 (
        Y2 x0 f1 t29.1 t29.2.1
       )
      )
     ) (
     Z6 (
      Qm 1 (
       Y2 x0 f1 t29.1 t29.2.1
      )
     ) (
      Z6 (
       Qm 1 (
        Y2 x0 f1 t29.1 t29.2.1
       )
      ) (
       Y2 x0 f1 t29.1 t29.2.1
      )
     )
     )
    ) (
     Z6 (
      Qm 1 (
       Y2 x0 f1 t29.1 t29.2.1
      )
     ) (
      Y2 x0 f1 t29.1 t29.2.1
     )
    )
   ) (
    (Q0 x0 f1.2.1).bind fun t29=>
    Z6 (
     Qm 1 (
      Y2 x0 f1 t29.1 t29.2.1
     )
    ) (
     Y2 x0 f1 t29.1 t29.2.1
    )
   )
abbrev Z48:List PE:=[.box 4 37 (Zl) (.u true),.box 6 37 (Zl) (.u false),.box 7 67 (J3) (.u true),.val 9 (.int .i64) (.u false)]
def Zh5(t4:Zg)(x6:Zg)(p7:Q2)(i9:Int):Nat:=((p7.2.1.length:Int)-i9).toNat+1
def Zeu:Nat→Zg→Zg→Q2→Int→Option ((Zg×Bool×Unit)×(Unit))
 |0,_,_,_,_=>none
 |N+1,t4,x6,p7,i9=>
  bif decide (i9< (p7.2.1.length:Int))then
   Zc (0≤i9∧i9<p7.2.1.length)<|
   (Zvd x6 (p7.2.1.getD i9.toNat Xk)).bind fun t40=>
   Zeu N t4 t40.2.1 p7 (IntKind.i64.wrap (i9+1))
  else
   some ((x6,(true,())),())
def Zai(c0:Zg)(number1:Int):Option ((Zg×Bool×Unit)×(Unit)):=
 (Zy c0).bind fun t11=>
 (Zok c0 number1).bind fun t15=>
 (Yw c0).bind fun t19=>
 bif(!t19.1)|| (!t15.2.1)then
  some ((t11.1,(false,())),())
 else
  (Zrn t11.1 number1).bind fun t27=>
  Zeu (Zh5 Km t27.2.1 t15.1 (0:Int)) Km t27.2.1 t15.1 (0:Int)
abbrev Z4x:List PE:=[.val 0 (.str) (.u false),.val 1 (.int .i64) (.u false),.val 7 (.int .i64) (.u false),.val 8 (.int .i64) (.u false),.val 9 (.int .i64) (.u false)]
def Zh0(s0_1:List UInt8)(at1_1:Int)(k7:Int)(n8:Int)(i9:Int):Nat:=(k7-i9).toNat+1
def Zek:Nat→List UInt8→Int→Int→Int→Int→Option (Int×Int×Bool×Unit)
 |0,_,_,_,_,_=>none
 |N+1,s0_1,at1_1,k7,n8,i9=>
  bif decide (i9<k7)then
   Zc (0≤(8:Int))<|
   Zc (0≤(IntKind.i64.wrap (at1_1+i9))∧(IntKind.i64.wrap (at1_1+i9))<s0_1.length)<|
   Zek N s0_1 at1_1 k7 (bits .or .i64 (IntKind.i64.wrap (n8*2^ (min (8:Int).toNat IntKind.i64.bits))) (IntKind.i64.wrap ((s0_1.getD (IntKind.i64.wrap (at1_1+i9)).toNat 0).toNat:Int))) (IntKind.i64.wrap (i9+1))
  else
   some (n8,IntKind.i64.wrap (at1_1+k7),true,())
def Zj9(s0:List UInt8)(at1:Int):Option (Int×Int×Bool×Unit):=
 bif(decide (at1< (0:Int)))|| (decide (at1≥(s0.length:Int)))then
  some ((0:Int),(0:Int),false,())
 else
  Zc (0≤at1∧at1<s0.length)<|
  Zc (0≤(6:Int))<|
  let t21:Int:=((s0.getD at1.toNat 0).toNat:Int).fdiv (2^ (min (6:Int).toNat IntKind.u8.bits))
  Zc (0≤t21)<|
  let t22:Int:=IntKind.i64.wrap ((1:Int)*2^ (min t21.toNat IntKind.i64.bits))
  bif decide ((IntKind.i64.wrap ((s0.length:Int)-at1))<t22)then
   some ((0:Int),(0:Int),false,())
  else
   Zc (0≤at1∧at1<s0.length)<|
   let t33:Int:=IntKind.i64.wrap (bits .and .u8 ((s0.getD at1.toNat 0).toNat:Int) (63:Int))
   Zek (Zh0 s0 at1 t22 t33 (1:Int)) s0 at1 t22 t33 (1:Int)
abbrev Qk2:List PE:=[.val 0 (.str) (.u false),.val 1 (.int .i64) (.u false),.val 2 (.int .i64) (.u false),.val 9 (.slice 3 (.int .i64)) (.u true),.val 10 (.int .i64) (.u false)]
def Zn4(s0_1:List UInt8)(at1_1:Int)(n2_1:Int)(out9:List Int)(i10:Int):Nat:=(n2_1-i10).toNat+1
def Zmx:Nat→List UInt8→Int→Int→List Int→Int→Option (List Int×Int×Bool×Unit)
 |0,_,_,_,_,_=>none
 |N+1,s0_1,at1_1,n2_1,out9,i10=>
  bif decide (i10<n2_1)then
   (Zj9 s0_1 at1_1).bind fun t23=>
   bif !t23.2.2.1 then
    some ([(0:Int),(0:Int),(0:Int)],(0:Int),false,())
   else
    Zc (out9.length+ ([t23.1]).length≤Qp)<|
    Zmx N s0_1 t23.2.1 n2_1 (out9++ ([t23.1])) (IntKind.i64.wrap (i10+1))
  else
   some (out9,at1_1,true,())
def Ztr(s0:List UInt8)(at1:Int)(n2:Int):Option (List Int×Int×Bool×Unit):=
 Zmx (Zn4 s0 at1 n2 ([]:List Int) (0:Int)) s0 at1 n2 ([]:List Int) (0:Int)
abbrev Qck:List PE:=[.val 0 (.str) (.u false),.box 6 106 (Zu) (.u false),.box 9 106 (Zu) (.u false),.val 12 (.int .i64) (.u false),.val 14 (.int .i64) (.u false)]
def Ziz(s0_3:List UInt8)(t6_2:Zh)(f9_2:Zh)(next12_1:Int)(size14:Int):Option (Zh×Int×Bool×Unit):=
 Zc (0≤next12_1∧next12_1≤(IntKind.i64.wrap (next12_1+size14))∧(IntKind.i64.wrap (next12_1+size14))≤s0_3.length)<|
 let t78:List UInt8:=(s0_3.drop next12_1.toNat).take ((IntKind.i64.wrap (next12_1+size14)).toNat-next12_1.toNat)
 (Jv (f9_2.1,(f9_2.2.1,(f9_2.2.2.1,(t78,f9_2.2.2.2.2))))).bind fun t81=>
 bif !t81.1 then
  some (Xk,(0:Int),false,())
 else
  some ((f9_2.1,(f9_2.2.1,(f9_2.2.2.1,(t78,f9_2.2.2.2.2)))),IntKind.i64.wrap (next12_1+size14),true,())
abbrev Qcj:List PE:=[.val 0 (.str) (.u false),.val 2 (.int .i64) (.u false),.box 6 106 (Zu) (.u false),.box 9 106 (Zu) (.u false),.val 12 (.int .i64) (.u false)]
def Ziy(s0_2:List UInt8)(kind2_2:Int)(t6_1:Zh)(f9_1:Zh)(next12:Int):Option (Zh×Int×Bool×Unit):=
 bif(bits .and .i64 kind2_2 (2:Int))==2 then
  (Zj9 s0_2 next12).bind fun t56=>
  bif(!t56.2.2.1)|| (decide (t56.1>(IntKind.i64.wrap ((s0_2.length:Int)-t56.2.1))))then
   some (Xk,(0:Int),false,())
  else
   Ziz s0_2 t6_1 f9_1 t56.2.1 t56.1
 else
  Ziz s0_2 t6_1 f9_1 next12 (IntKind.i64.wrap ((s0_2.length:Int)-next12))
abbrev Qci:List PE:=[.val 0 (.str) (.u false),.val 1 (.int .i64) (.u false),.val 2 (.int .i64) (.u false),.box 6 106 (Zu) (.u false),.box 9 106 (Zu) (.u false),.val 10 (.int .i64) (.u false)]
def Zix(s0_1:List UInt8)(at1_1:Int)(kind2_1:Int)(t6:Zh)(f9:Zh)(n10:Int):Option (Zh×Int×Bool×Unit):=
 (Ztr s0_1 at1_1 n10).bind fun t29=>
 bif !t29.2.2.1 then
  some (Xk,(0:Int),false,())
 else
  Zc (0≤(0:Int)∧(0:Int)<t29.1.length)<|
  bif n10==2 then
   Zc (0≤(1:Int)∧(1:Int)<t29.1.length)<|
   Ziy s0_1 kind2_1 t6 (f9.1,(t29.1.getD (0:Int).toNat (0:Int),(t29.1.getD (1:Int).toNat (0:Int),f9.2.2.2))) t29.2.1
  else
   Ziy s0_1 kind2_1 t6 (f9.1,(t29.1.getD (0:Int).toNat (0:Int),f9.2.2)) t29.2.1
def Zs6(s0:List UInt8)(at1:Int)(kind2:Int):Option (Zh×Int×Bool×Unit):=
 bif(bits .and .i64 kind2 (4:Int))==4 then
  Zix s0 at1 kind2 Xk ((8:Int),((0:Int),((0:Int),(([]:List UInt8),((bits .and .i64 kind2 (1:Int))==1,((0:Int),((0:Int),((0:Int),(false,()))))))))) (2:Int)
 else
  Zix s0 at1 kind2 Xk ((8:Int),((0:Int),((0:Int),(([]:List UInt8),((bits .and .i64 kind2 (1:Int))==1,((0:Int),((0:Int),((0:Int),(false,()))))))))) (1:Int)
abbrev Z2f:List PE:=[.box 4 106 (Zu) (.u false),.box 11 106 (Zu) (.u false),.val 14 (.int .i64) (.u false),.val 15 (.bool) (.u false)]
def J6(t4_1:Zh)(f11_1:Zh)(next14:Int)(is15:Bool):Option (Zh×Int×Bool×Unit):=
 (bif(!is15)then some (false,())else(Jv f11_1)).bind fun t135=>
 bif(!is15)|| (!t135.1)then
  some (Xk,(0:Int),false,())
 else
  some (f11_1,next14,true,())
abbrev Z2g:List PE:=[.box 4 106 (Zu) (.u false),.box 11 106 (Zu) (.u false),.val 13 (.slice 3 (.int .i64)) (.u true),.val 14 (.int .i64) (.u false),.val 15 (.bool) (.u false),.val 117 (.bool) (.u false)]
def Zc6(t4_2:Zh)(f11_2:Zh)(l13:List Int)(next14_1:Int)(is15_1:Bool)(t117:Bool):Option (Zh×Int×Bool×Unit):=
 bif t117 then
  Zc (0≤(0:Int)∧(0:Int)<l13.length)<|
  Zc ((l13.length:Int)≠0)<|
  Zc (0≤(Int.tmod (1:Int) (l13.length:Int))∧(Int.tmod (1:Int) (l13.length:Int))<l13.length)<|
  J6 t4_2 (f11_2.1,(l13.getD (0:Int).toNat (0:Int),(f11_2.2.2.1,(f11_2.2.2.2.1,(f11_2.2.2.2.2.1,(f11_2.2.2.2.2.2.1,(l13.getD (Int.tmod (1:Int) (l13.length:Int)).toNat (0:Int),f11_2.2.2.2.2.2.2.2))))))) next14_1 is15_1
 else
  Zc (0≤(0:Int)∧(0:Int)<l13.length)<|
  J6 t4_2 (f11_2.1,(f11_2.2.1,(f11_2.2.2.1,(f11_2.2.2.2.1,(f11_2.2.2.2.2.1,(f11_2.2.2.2.2.2.1,(l13.getD (0:Int).toNat (0:Int),f11_2.2.2.2.2.2.2.2))))))) next14_1 is15_1
abbrev Z2e:List PE:=[.val 0 (.str) (.u false),.val 1 (.int .i64) (.u false),.box 4 106 (Zu) (.u false),.box 11 106 (Zu) (.u false),.val 12 (.int .i64) (.u false)]
def J5(s0_1:List UInt8)(at1_1:Int)(t4:Zh)(f11:Zh)(n12:Int):Option (Zh×Int×Bool×Unit):=
 (Ztr s0_1 (IntKind.i64.wrap (at1_1+1)) n12).bind fun t74=>
 bif f11.1==4 then
  Zc (0≤(0:Int)∧(0:Int)<t74.1.length)<|
  Zc ((t74.1.length:Int)≠0)<|
  Zc (0≤(Int.tmod (1:Int) (t74.1.length:Int))∧(Int.tmod (1:Int) (t74.1.length:Int))<t74.1.length)<|
  Zc ((t74.1.length:Int)≠0)<|
  Zc (0≤(Int.tmod (2:Int) (t74.1.length:Int))∧(Int.tmod (2:Int) (t74.1.length:Int))<t74.1.length)<|
  J6 t4 (f11.1,(t74.1.getD (0:Int).toNat (0:Int),(f11.2.2.1,(f11.2.2.2.1,(f11.2.2.2.2.1,(t74.1.getD (Int.tmod (1:Int) (t74.1.length:Int)).toNat (0:Int),(f11.2.2.2.2.2.2.1,(t74.1.getD (Int.tmod (2:Int) (t74.1.length:Int)).toNat (0:Int),f11.2.2.2.2.2.2.2.2)))))))) t74.2.1 t74.2.2.1
 else
  bif f11.1==5 then
   Zc (0≤(0:Int)∧(0:Int)<t74.1.length)<|
   Zc ((t74.1.length:Int)≠0)<|
   Zc (0≤(Int.tmod (1:Int) (t74.1.length:Int))∧(Int.tmod (1:Int) (t74.1.length:Int))<t74.1.length)<|
   J6 t4 (f11.1,(t74.1.getD (0:Int).toNat (0:Int),(f11.2.2.1,(f11.2.2.2.1,(f11.2.2.2.2.1,(t74.1.getD (Int.tmod (1:Int) (t74.1.length:Int)).toNat (0:Int),f11.2.2.2.2.2.2)))))) t74.2.1 t74.2.2.1
  else
   bif f11.1==17 then
    Zc6 t4 f11 t74.1 t74.2.1 t74.2.2.1 (f11.1==17)
   else
    Zc6 t4 f11 t74.1 t74.2.1 t74.2.2.1 (f11.1==21)
abbrev Z2i:List PE:=[.val 0 (.str) (.u false),.val 1 (.int .i64) (.u false),.box 4 106 (Zu) (.u false),.val 7 (.int .i64) (.u false),.box 11 106 (Zu) (.u false),.val 12 (.int .i64) (.u false),.val 62 (.bool) (.u false)]
def Zc7(s0_3:List UInt8)(at1_3:Int)(t4_4:Zh)(kind7_1:Int)(f11_4:Zh)(n12_2:Int)(t62:Bool):Option (Zh×Int×Bool×Unit):=
 bif t62 then
  J5 s0_3 at1_3 t4_4 (IntKind.i64.wrap (kind7_1-1),(f11_4.2.1,(f11_4.2.2.1,(f11_4.2.2.2.1,(f11_4.2.2.2.2.1,(f11_4.2.2.2.2.2.1,(f11_4.2.2.2.2.2.2.1,(f11_4.2.2.2.2.2.2.2.1,(true,f11_4.2.2.2.2.2.2.2.2.2))))))))) n12_2
 else
  J5 s0_3 at1_3 t4_4 f11_4 n12_2
abbrev Z2h:List PE:=[.val 0 (.str) (.u false),.val 1 (.int .i64) (.u false),.box 4 106 (Zu) (.u false),.val 7 (.int .i64) (.u false),.box 11 106 (Zu) (.u false),.val 12 (.int .i64) (.u false),.val 55 (.int .i64) (.u false),.val 58 (.bool) (.u false)]
def W4(s0_2:List UInt8)(at1_2:Int)(t4_3:Zh)(kind7:Int)(f11_3:Zh)(n12_1:Int)(t55:Int)(t58:Bool):Option (Zh×Int×Bool×Unit):=
 bif t58 then
  J5 s0_2 at1_2 t4_3 f11_3 (2:Int)
 else
  bif t55==19 then
   Zc7 s0_2 at1_2 t4_3 kind7 f11_3 n12_1 (t55==19)
  else
   Zc7 s0_2 at1_2 t4_3 kind7 f11_3 n12_1 (t55==23)
def Znb(s0:List UInt8)(at1:Int):Option (Zh×Int×Bool×Unit):=
 let t23:Bool:=(decide (at1< (0:Int)))|| (decide (at1≥(s0.length:Int)))
 Zc ((t23=false→(0≤at1∧at1<s0.length)))<|
 bif t23|| (decide (((s0.getD at1.toNat 0).toNat:Int)>(23:Int)))then
  some (Xk,(0:Int),false,())
 else
  Zc (0≤at1∧at1<s0.length)<|
  let t34:Int:=IntKind.i64.wrap ((s0.getD at1.toNat 0).toNat:Int)
  bif(decide (t34≥(8:Int)))&& (decide (t34< (16:Int)))then
   (Zs6 s0 (IntKind.i64.wrap (at1+1)) t34).bind fun t46=>
   some (t46.1,t46.2.1,t46.2.2.1,())
  else
   bif t34==4 then
    J5 s0 at1 Xk (t34,((0:Int),((0:Int),(([]:List UInt8),(false,((0:Int),((0:Int),((0:Int),(false,()))))))))) (3:Int)
   else
    bif t34==5 then
     W4 s0 at1 Xk t34 (t34,((0:Int),((0:Int),(([]:List UInt8),(false,((0:Int),((0:Int),((0:Int),(false,()))))))))) (1:Int) t34 (t34==5)
    else
     bif t34==17 then
      W4 s0 at1 Xk t34 (t34,((0:Int),((0:Int),(([]:List UInt8),(false,((0:Int),((0:Int),((0:Int),(false,()))))))))) (1:Int) t34 (t34==17)
     else
      W4 s0 at1 Xk t34 (t34,((0:Int),((0:Int),(([]:List UInt8),(false,((0:Int),((0:Int),((0:Int),(false,()))))))))) (1:Int) t34 (t34==21)
abbrev Zy5:List PE:=[.val 0 (.str) (.u false),.val 4 (.slice 106 (Zu)) (.u true),.val 5 (.int .i64) (.u false)]
def Zej(s0_1:List UInt8)(out4:List Zh)(at5:Int):Nat:=((s0_1.length:Int)-at5).toNat+1
def Vh:Nat→List UInt8→List Zh→Int→Option (List Zh×Bool×Unit)
 |0,_,_,_=>none
 |N+1,s0_1,out4,at5=>
  bif decide (at5< (s0_1.length:Int))then
   Zc (0≤at5∧at5<s0_1.length)<|
   bif((s0_1.getD at5.toNat 0).toNat:Int)==(0:Int)then
    Vh N s0_1 out4 (IntKind.i64.wrap (at5+1))
   else
    (Znb s0_1 at5).bind fun t23=>
    bif !t23.2.2.1 then
     some (([]:List Zh),false,())
    else
     Zc (out4.length+ ([t23.1]).length≤Qp)<|
     Vh N s0_1 (out4++ ([t23.1])) t23.2.1
  else
   (Zx (s0_1.length:Int) (1:Int) (400:Int)).bind fun t38=>
   some (out4,t38.1,())
def Zjm(s0:List UInt8):Option (List Zh×Bool×Unit):=
 Vh (Zej s0 ([]:List Zh) (0:Int)) s0 ([]:List Zh) (0:Int)
def Zmb(c0:Zg)(code1:Int):Option (Zg×Unit):=
 (Zy c0).bind fun t7=>
 (bif(c0.2.2.2.2.2.2.2.2.2.2.2.2.2.2.2.2.2.1==0)then(Zx code1 (1:Int) (255:Int))else some (false,())).bind fun t13=>
 bif(c0.2.2.2.2.2.2.2.2.2.2.2.2.2.2.2.2.2.1==0)&&t13.1 then
  some ((t7.1.1,(t7.1.2.1,(t7.1.2.2.1,(t7.1.2.2.2.1,(t7.1.2.2.2.2.1,(t7.1.2.2.2.2.2.1,(t7.1.2.2.2.2.2.2.1,(t7.1.2.2.2.2.2.2.2.1,(t7.1.2.2.2.2.2.2.2.2.1,(t7.1.2.2.2.2.2.2.2.2.2.1,(t7.1.2.2.2.2.2.2.2.2.2.2.1,(t7.1.2.2.2.2.2.2.2.2.2.2.2.1,(t7.1.2.2.2.2.2.2.2.2.2.2.2.2.1,(t7.1.2.2.2.2.2.2.2.2.2.2.2.2.2.1,(t7.1.2.2.2.2.2.2.2.2.2.2.2.2.2.2.1,(t7.1.2.2.2.2.2.2.2.2.2.2.2.2.2.2.2.1,(t7.1.2.2.2.2.2.2.2.2.2.2.2.2.2.2.2.2.1,(code1,t7.1.2.2.2.2.2.2.2.2.2.2.2.2.2.2.2.2.2.2)))))))))))))))))),())
 else
  some (t7.1,())
def Zrb(id0:Int):Option (Int×Unit):=
 (Qh id0).bind fun t4=>
 bif !t4.1 then
  some ((-1:Int),())
 else
  Zc (0≤(2:Int))<|
  some (id0.fdiv (2^ (min (2:Int).toNat IntKind.i64.bits)),())
def Zk0(a0:K5)(index1:Int):Option (K5×Int×Bool×Unit):=
 (Wy a0).bind fun t9=>
 bif((!t9.1)|| (decide (index1< (0:Int))))|| (decide (index1≥a0.2.1))then
  some (a0,(0:Int),false,())
 else
  let t27:Int:=max (0:Int) (IntKind.i64.wrap ((IntKind.i64.wrap (index1+1))-a0.2.2.1))
  some ((a0.1,(a0.2.1,(IntKind.i64.wrap (a0.2.2.1+t27),a0.2.2.2))),t27,true,())
abbrev Qgf:List PE:=[.box 0 37 (Zl) (.u true),.val 1 (.int .i64) (.u false),.val 6 (.int .i64) (.u false),.box 7 88 (Z2) (.u true)]
def Y0(K1: (Zg×Int×Int×Unit)→Option ((Unit)×(Zg×Unit)))(x0_2:Zg)(id1_2:Int)(i6_1:Int)(s7:Zp):Option ((Unit)×(Zg×Unit)):=
 (Xo x0_2.2.2.2.1 s7).bind fun t41=>
 K1 ((x0_2.1,(x0_2.2.1,(x0_2.2.2.1,(t41.1,x0_2.2.2.2.2)))),id1_2,IntKind.i64.wrap (i6_1-1),())
abbrev Qgg:List PE:=[.box 0 37 (Zl) (.u true),.val 1 (.int .i64) (.u false),.val 6 (.int .i64) (.u false)]
def Zgs(x0_1:Zg)(id1_1:Int)(i6:Int):Nat:=(i6-0).toNat+2
def Xc:Nat→Zg→Int→Int→Option ((Unit)×(Zg×Unit))
 |0,_,_,_=>none
 |N+1,x0_1,id1_1,i6=>
  bif decide (i6≥(0:Int))then
   let t23:Int:=IntKind.i64.wrap (id1_1- (IntKind.i64.wrap ((4:Int)*i6)))
   Z6 (
    (Zb9 x0_1.1 t23 x0_1.2.1 x0_1.2.2.1).bind fun t32=>
    Z6 (
     Z6 (
      Z6 (
       Y0 (fun v=>Xc N v.1 v.2.1 v.2.2.1) x0_1 id1_1 i6 t32.1
      ) (
       Qm 1 (
        Y0 (fun v=>Xc N v.1 v.2.1 v.2.2.1) x0_1 id1_1 i6 t32.1
       )
      )
     ) (
     Z6 (
      Qm 1 (
       Y0 (fun v=>Xc N v.1 v.2.1 v.2.2.1) x0_1 id1_1 i6 t32.1
      )
     ) (
      Z6 (
       Qm 1 (
        Y0 (fun v=>Xc N v.1 v.2.1 v.2.2.1) x0_1 id1_1 i6 t32.1
       )
      ) (
       Y0 (fun v=>Xc N v.1 v.2.1 v.2.2.1) x0_1 id1_1 i6 t32.1
      )
     )
     )
    ) (
     Z6 (
      Qm 1 (
       Y0 (fun v=>Xc N v.1 v.2.1 v.2.2.1) x0_1 id1_1 i6 t32.1
      )
     ) (
      Y0 (fun v=>Xc N v.1 v.2.1 v.2.2.1) x0_1 id1_1 i6 t32.1
     )
    )
   ) (
    (Zb9 x0_1.1 t23 x0_1.2.1 x0_1.2.2.1).bind fun t32=>
    Z6 (
     Qm 1 (
      Y0 (fun v=>Xc N v.1 v.2.1 v.2.2.1) x0_1 id1_1 i6 t32.1
     )
    ) (
     Y0 (fun v=>Xc N v.1 v.2.1 v.2.2.1) x0_1 id1_1 i6 t32.1
    )
   )
  else
   some ((),(x0_1,()))
def Znj(x0:Zg)(id1:Int)(n2:Int):Option ((Unit)×(Zg×Unit)):=
 Xc (Zgs x0 id1 (IntKind.i64.wrap (n2-1))) x0 id1 (IntKind.i64.wrap (n2-1))
abbrev Z0w:List PE:=[.val 1 (.int .i64) (.u false),.box 4 37 (Zl) (.u true),.box 6 37 (Zl) (.p (.u false) (.p (.u false) (.p (.u false) (.p (.u true) (.p (.u false) (.p (.u false) (.p (.u false) (.p (.u false) (.p (.u false) (.p (.u false) (.u true))))))))))),.val 9 (.int .i64) (.u false)]
def Zb5(id1_3:Int)(t4_2:Zg)(x6_2:Zg)(n9_1:Int):Option (Zg×Int×Unit):=
 (Znj x6_2 id1_3 n9_1).bind fun t70=>
 some (t70.2.1,(0:Int),())
abbrev Z0v:List PE:=[.val 1 (.int .i64) (.u false),.box 2 37 (Zl) (.u false),.box 4 37 (Zl) (.u true),.box 6 37 (Zl) (.u true),.box 8 34 (X9) (.u false),.val 9 (.int .i64) (.u false),.val 10 (.bool) (.u false)]
def Zr(id1_2:Int)(c2_1:Zg)(t4_1:Zg)(x6_1:Zg)(b8:K5)(n9:Int)(is10:Bool):Option (Zg×Int×Unit):=
 bif((!is10)|| (n9==0))|| (decide ((IntKind.i64.wrap ((c2_1.2.2.2.1.length:Int)+n9))>24))then
  some (x6_1,(4:Int),())
 else
  (Vv id1_2).bind fun t63=>
  bif t63.1 then
   Zb5 id1_2 t4_1 (x6_1.1,(x6_1.2.1,(x6_1.2.2.1,(x6_1.2.2.2.1,(x6_1.2.2.2.2.1,(x6_1.2.2.2.2.2.1,(x6_1.2.2.2.2.2.2.1,(x6_1.2.2.2.2.2.2.2.1,(x6_1.2.2.2.2.2.2.2.2.1,(b8,x6_1.2.2.2.2.2.2.2.2.2.2)))))))))) n9
  else
   Zb5 id1_2 t4_1 (x6_1.1,(x6_1.2.1,(x6_1.2.2.1,(x6_1.2.2.2.1,(x6_1.2.2.2.2.1,(x6_1.2.2.2.2.2.1,(x6_1.2.2.2.2.2.2.1,(x6_1.2.2.2.2.2.2.2.1,(b8,x6_1.2.2.2.2.2.2.2.2.2))))))))) n9
abbrev Z0u:List PE:=[.val 1 (.int .i64) (.u false),.box 2 37 (Zl) (.u false),.box 4 37 (Zl) (.u true),.box 6 37 (Zl) (.u true),.box 7 34 (X9) (.u false)]
def Zb4(id1_1:Int)(c2:Zg)(t4:Zg)(x6:Zg)(a7:K5):Option (Zg×Int×Unit):=
 Z6 (
  (Zrb id1_1).bind fun t42=>
  Z6 (
   (Zk0 a7 t42.1).bind fun t43=>
   Z6 (
    Z6 (
     Z6 (
      Z6 (
       Zr id1_1 c2 t4 x6 t43.1 t43.2.1 t43.2.2.1
      ) (
       Qm 1 (
        Zr id1_1 c2 t4 x6 t43.1 t43.2.1 t43.2.2.1
       )
      )
     ) (
     Z6 (
      Z6 (
       Zr id1_1 c2 t4 x6 t43.1 t43.2.1 t43.2.2.1
      ) (
       Qm 1 (
        Zr id1_1 c2 t4 x6 t43.1 t43.2.1 t43.2.2.1
       )
      )
     ) (
      Qm 2 (
       Qm 1 (
        Zr id1_1 c2 t4 x6 t43.1 t43.2.1 t43.2.2.1
       )
      )
     )
     )
    ) (
    Z6 (
     Z6 (
      Z6 (
       Zr id1_1 c2 t4 x6 t43.1 t43.2.1 t43.2.2.1
      ) (
       Qm 1 (
        Zr id1_1 c2 t4 x6 t43.1 t43.2.1 t43.2.2.1
       )
      )
     ) (
     Z6 (
      Qm 1 (
       Zr id1_1 c2 t4 x6 t43.1 t43.2.1 t43.2.2.1
      )
     ) (
      Z6 (
       Qm 1 (
        Zr id1_1 c2 t4 x6 t43.1 t43.2.1 t43.2.2.1
       )
      ) (
       Zr id1_1 c2 t4 x6 t43.1 t43.2.1 t43.2.2.1
      )
     )
     )
    ) (
    Z6 (
     Z6 (
      Z6 (
       Zr id1_1 c2 t4 x6 t43.1 t43.2.1 t43.2.2.1
      ) (
       Qm 1 (
        Zr id1_1 c2 t4 x6 t43.1 t43.2.1 t43.2.2.1
       )
      )
     ) (
     Z6 (
      Qm 1 (
       Zr id1_1 c2 t4 x6 t43.1 t43.2.1 t43.2.2.1
      )
     ) (
      Z6 (
       Qm 1 (
        Zr id1_1 c2 t4 x6 t43.1 t43.2.1 t43.2.2.1
       )
      ) (
       Zr id1_1 c2 t4 x6 t43.1 t43.2.1 t43.2.2.1
      )
     )
     )
    ) (
     Z6 (
      Qm 2 (
       Qm 1 (
        Zr id1_1 c2 t4 x6 t43.1 t43.2.1 t43.2.2.1
       )
      )
     ) (
     Z6 (
      Z6 (
       Qm 1 (
        Zr id1_1 c2 t4 x6 t43.1 t43.2.1 t43.2.2.1
       )
      ) (
       Zr id1_1 c2 t4 x6 t43.1 t43.2.1 t43.2.2.1
      )
     ) (
      Z6 (
       Qm 1 (
        Zr id1_1 c2 t4 x6 t43.1 t43.2.1 t43.2.2.1
       )
      ) (
       Zr id1_1 c2 t4 x6 t43.1 t43.2.1 t43.2.2.1
      )
     )
     )
    )
    )
    )
   ) (
    Z6 (
     Qm 2 (
      Qm 1 (
       Zr id1_1 c2 t4 x6 t43.1 t43.2.1 t43.2.2.1
      )
     )
    ) (
    Z6 (
     Z6 (
      Qm 1 (
       Zr id1_1 c2 t4 x6 t43.1 t43.2.1 t43.2.2.1
      )
     ) (
      Zr id1_1 c2 t4 x6 t43.1 t43.2.1 t43.2.2.1
     )
    ) (
     Z6 (
      Qm 1 (
       Zr id1_1 c2 t4 x6 t43.1 t43.2.1 t43.2.2.1
      )
     ) (
      Zr id1_1 c2 t4 x6 t43.1 t43.2.1 t43.2.2.1
     )
    )
    )
   )
  ) (
   (Zk0 a7 t42.1).bind fun t43=>
   Z6 (
    Qm 2 (
     Qm 1 (
      Zr id1_1 c2 t4 x6 t43.1 t43.2.1 t43.2.2.1
     )
    )
   ) (
   Z6 (
    Z6 (
     Qm 1 (
      Zr id1_1 c2 t4 x6 t43.1 t43.2.1 t43.2.2.1
     )
    ) (
     Zr id1_1 c2 t4 x6 t43.1 t43.2.1 t43.2.2.1
    )
   ) (
    Z6 (
     Qm 1 (
      Zr id1_1 c2 t4 x6 t43.1 t43.2.1 t43.2.2.1
     )
    ) (
     Zr id1_1 c2 t4 x6 t43.1 t43.2.1 t43.2.2.1
    )
   )
   )
  )
 ) (
  (Zrb id1_1).bind fun t42=>
  (Zk0 a7 t42.1).bind fun t43=>
  Z6 (
   Qm 2 (
    Qm 1 (
     Zr id1_1 c2 t4 x6 t43.1 t43.2.1 t43.2.2.1
    )
   )
  ) (
  Z6 (
   Z6 (
    Qm 1 (
     Zr id1_1 c2 t4 x6 t43.1 t43.2.1 t43.2.2.1
    )
   ) (
    Zr id1_1 c2 t4 x6 t43.1 t43.2.1 t43.2.2.1
   )
  ) (
   Z6 (
    Qm 1 (
     Zr id1_1 c2 t4 x6 t43.1 t43.2.1 t43.2.2.1
    )
   ) (
    Zr id1_1 c2 t4 x6 t43.1 t43.2.1 t43.2.2.1
   )
  )
  )
 )
def Wx(c0:Zg)(id1:Int):Option (Zg×Int×Unit):=
 (Zy c0).bind fun t12=>
 (Z5 c0).bind fun t14=>
 (bif(!t14.1)then some (false,())else(Qh id1)).bind fun t18=>
 bif(!t14.1)|| (!t18.1)then
  some (t12.1,(7:Int),())
 else
  (Zfx c0.2.2.2.1 id1).bind fun t25=>
  bif decide (t25.1≥(0:Int))then
   some (t12.1,(0:Int),())
  else
   (Zer c0.1 id1).bind fun t31=>
   bif t31.1 then
    some (t12.1,(5:Int),())
   else
    (Vv id1).bind fun t36=>
    bif t36.1 then
     Zb4 id1 c0 Km t12.1 c0.2.2.2.2.2.2.2.2.2.1
    else
     Zb4 id1 c0 Km t12.1 c0.2.2.2.2.2.2.2.2.1
def Zrs(r0:Qo)(end1:Int)(final2:Bool):Option (Int×Unit):=
 bif((r0.2.2.1 !=(-1:Int))&& ((decide (end1>r0.2.2.1))|| (final2&& (end1 !=r0.2.2.1))))|| (final2&& (decide (end1<r0.2.2.2.1)))then
  some ((6:Int),())
 else
  some ((0:Int),())
abbrev Z0o:List PE:=[.box 1 82 (Yh) (.u false),.val 3 (.slice 195 (Zt)) (.u true),.val 4 (.int .i64) (.u false)]
def Zaq(b1:Z4)(out3:List Ze)(i4:Int):Nat:=((b1.2.1.length:Int)-i4).toNat+1
def Y9:Nat→Z4→List Ze→Int→Option (List Ze×Unit)
 |0,_,_,_=>none
 |N+1,b1,out3,i4=>
  (bif(decide (i4< (b1.2.1.length:Int)))then(Zdx b1)else some (false,())).bind fun t13=>
  bif(decide (i4< (b1.2.1.length:Int)))&&t13.1 then
   Zc (0≤i4∧i4<b1.2.1.length)<|
   Zc (0≤i4∧i4<b1.2.1.length)<|
   Zc (0≤i4∧i4<b1.2.1.length)<|
   let t39:List Ze:=[((b1.2.1.getD i4.toNat Qv).1,(IntKind.i64.wrap ((b1.2.1.getD i4.toNat Qv).1+ ((b1.2.1.getD i4.toNat Qv).2.1.length:Int)),()))]
   Zc (out3.length+t39.length≤Qp)<|
   Y9 N b1 (out3++t39) (IntKind.i64.wrap (i4+1))
  else
   some (out3,())
def Zlm(b0:Z4):Option (List Ze×Unit):=
 Y9 (Zaq b0 ([]:List Ze) (0:Int)) b0 ([]:List Ze) (0:Int)
abbrev Qkr:List PE:=[.val 1 (.int .i64) (.u false),.box 2 82 (Yh) (.u false),.val 5 (.int .i64) (.u false)]
def Zn1(offset1_1:Int)(b2:Z4)(i5:Int):Nat:=((b2.2.1.length:Int)-i5).toNat+1
def Zhz:Nat→Int→Z4→Int→Option (Int×Unit)
 |0,_,_,_=>none
 |N+1,offset1_1,b2,i5=>
  bif decide (i5< (b2.2.1.length:Int))then
   Zc (0≤i5∧i5<b2.2.1.length)<|
   let t21:Int:=IntKind.i64.wrap (offset1_1- (b2.2.1.getD i5.toNat Qv).1)
   Zc (((decide (offset1_1≥(0:Int)))=true→(0≤i5∧i5<b2.2.1.length)))<|
   let t36:Bool:=((decide (offset1_1≥(0:Int)))&& (decide ((b2.2.1.getD i5.toNat Qv).1≥(0:Int))))&& (decide (t21≥(0:Int)))
   Zc ((t36=true→(0≤i5∧i5<b2.2.1.length)))<|
   bif t36&& (decide (t21< ((b2.2.1.getD i5.toNat Qv).2.1.length:Int)))then
    Zc (0≤i5∧i5<b2.2.1.length)<|
    Zc (0≤t21∧t21< (b2.2.1.getD i5.toNat Qv).2.1.length)<|
    some (IntKind.i64.wrap (((b2.2.1.getD i5.toNat Qv).2.1.getD t21.toNat 0).toNat:Int),())
   else
    Zhz N offset1_1 b2 (IntKind.i64.wrap (i5+1))
  else
   some ((-1:Int),())
def Zxh(b0:Z4)(offset1:Int):Option (Int×Unit):=
 Zhz (Zn1 offset1 b0 (0:Int)) offset1 b0 (0:Int)
abbrev Z44:List PE:=[.val 1 (.int .i64) (.u false),.val 2 (.str) (.u false),.box 3 82 (Yh) (.u false),.box 6 82 (Yh) (.u true),.box 9 82 (Yh) (.p (.u false) (.u true)),.val 10 (.slice 195 (Zt)) (.u true),.val 11 (.int .i64) (.u false),.val 12 (.str) (.u false),.val 13 (.int .i64) (.u false),.val 14 (.int .i64) (.u false)]
def Zeq(K1: (Int×List UInt8×Z4×Z4×Z4×List Ze×Int×Unit)→Option (Z4×Unit))(K2: (Int×List UInt8×Z4×Z4×Z4×List Ze×Int×List UInt8×Int×Unit)→Option (Z4×Unit))(offset1_3:Int)(data2_3:List UInt8)(b3_2:Z4)(t6_2:Z4)(x9_2:Z4)(l10_2:List Ze)(i11_2:Int)(s12_2:List UInt8)(at13_1:Int)(v14:Int):Option (Z4×Unit):=
 (Zp8 v14).bind fun t90=>
 Zc (s12_2.length+t90.1.length≤Z8)<|
 K2 (offset1_3,data2_3,b3_2,t6_2,x9_2,l10_2,i11_2,s12_2++t90.1,IntKind.i64.wrap (at13_1+1),())
abbrev Z46:List PE:=[.val 1 (.int .i64) (.u false),.val 2 (.str) (.u false),.box 3 82 (Yh) (.u false),.box 6 82 (Yh) (.u true),.box 9 82 (Yh) (.p (.u false) (.u true)),.val 10 (.slice 195 (Zt)) (.u true),.val 11 (.int .i64) (.u false),.val 12 (.str) (.u false),.val 13 (.int .i64) (.u false)]
def Zcn(offset1_2:Int)(data2_2:List UInt8)(b3_1:Z4)(t6_1:Z4)(x9_1:Z4)(l10_1:List Ze)(i11_1:Int)(s12_1:List UInt8)(at13:Int):Nat:=((l10_1.getD i11_1.toNat Zz).2.1-at13).toNat+1
def Jh(K1: (Int×List UInt8×Z4×Z4×Z4×List Ze×Int×Unit)→Option (Z4×Unit)):Nat→Int→List UInt8→Z4→Z4→Z4→List Ze→Int→List UInt8→Int→Option (Z4×Unit)
 |0,_,_,_,_,_,_,_,_,_=>none
 |N+1,offset1_2,data2_2,b3_1,t6_1,x9_1,l10_1,i11_1,s12_1,at13=>
  Zc (0≤i11_1∧i11_1<l10_1.length)<|
  bif decide (at13< (l10_1.getD i11_1.toNat Zz).2.1)then
   (Zxh b3_1 at13).bind fun t79=>
   bif decide (t79.1< (0:Int))then
    Zc (0≤(IntKind.i64.wrap (at13-offset1_2))∧(IntKind.i64.wrap (at13-offset1_2))<data2_2.length)<|
    Zeq K1 (fun v=>Jh K1 N v.1 v.2.1 v.2.2.1 v.2.2.2.1 v.2.2.2.2.1 v.2.2.2.2.2.1 v.2.2.2.2.2.2.1 v.2.2.2.2.2.2.2.1 v.2.2.2.2.2.2.2.2.1) offset1_2 data2_2 b3_1 t6_1 x9_1 l10_1 i11_1 s12_1 at13 (IntKind.i64.wrap ((data2_2.getD (IntKind.i64.wrap (at13-offset1_2)).toNat 0).toNat:Int))
   else
    Zeq K1 (fun v=>Jh K1 N v.1 v.2.1 v.2.2.1 v.2.2.2.1 v.2.2.2.2.1 v.2.2.2.2.2.1 v.2.2.2.2.2.2.1 v.2.2.2.2.2.2.2.1 v.2.2.2.2.2.2.2.2.1) offset1_2 data2_2 b3_1 t6_1 x9_1 l10_1 i11_1 s12_1 at13 t79.1
  else
   Zc (0≤i11_1∧i11_1<l10_1.length)<|
   let t101:List Z0:=[((l10_1.getD i11_1.toNat Zz).1,(s12_1,()))]
   Zc (x9_1.2.1.length+t101.length≤Qp)<|
   K1 (offset1_2,data2_2,b3_1,t6_1,(x9_1.1,(x9_1.2.1++t101,x9_1.2.2)),l10_1,IntKind.i64.wrap (i11_1+1),())
abbrev Z45:List PE:=[.val 1 (.int .i64) (.u false),.val 2 (.str) (.u false),.box 3 82 (Yh) (.u false),.box 6 82 (Yh) (.u true),.box 9 82 (Yh) (.p (.u false) (.u true)),.val 10 (.slice 195 (Zt)) (.u true),.val 11 (.int .i64) (.u false)]
def Zcm(offset1_1:Int)(data2_1:List UInt8)(b3:Z4)(t6:Z4)(x9:Z4)(l10:List Ze)(i11:Int):Nat:=((l10.length:Int)-i11).toNat+1
def Zbg:Nat→Int→List UInt8→Z4→Z4→Z4→List Ze→Int→Option (Z4×Unit)
 |0,_,_,_,_,_,_,_=>none
 |N+1,offset1_1,data2_1,b3,t6,x9,l10,i11=>
  bif decide (i11< (l10.length:Int))then
   Zc (0≤i11∧i11<l10.length)<|
   Jh (fun v=>Zbg N v.1 v.2.1 v.2.2.1 v.2.2.2.1 v.2.2.2.2.1 v.2.2.2.2.2.1 v.2.2.2.2.2.2.1) (Zcn offset1_1 data2_1 b3 t6 x9 l10 i11 ([]:List UInt8) (l10.getD i11.toNat Zz).1) offset1_1 data2_1 b3 t6 x9 l10 i11 ([]:List UInt8) (l10.getD i11.toNat Zz).1
  else
   some (x9,())
def Zo3(b0:Z4)(offset1:Int)(data2:List UInt8):Option (Z4×Unit):=
 (Zdx b0).bind fun t16=>
 bif(((!t16.1)|| (data2==([]:List UInt8)))|| (decide (offset1< (0:Int))))|| (decide (offset1>(IntKind.i64.wrap ((4611686018427387903:Int)- (data2.length:Int)))))then
  (Zja b0).bind fun t34=>
  some (t34.1,())
 else
  let t42:Int:=IntKind.i64.wrap (offset1+ (data2.length:Int))
  bif decide ((max offset1 b0.1)≥t42)then
   (Zja b0).bind fun t47=>
   some (t47.1,())
  else
   (Zlm b0).bind fun t52=>
   (Jm t52.1 (max offset1 b0.1,(t42,()))).bind fun t56=>
   Zbg (Zcm offset1 data2 b0 ((0:Int),(([]:List Z0),())) (b0.1,(([]:List Z0),())) t56.1 (0:Int)) offset1 data2 b0 ((0:Int),(([]:List Z0),())) (b0.1,(([]:List Z0),())) t56.1 (0:Int)
abbrev Z20:List PE:=[.box 8 84 (Q8) (.u true),.box 10 84 (Q8) (.p (.u false) (.p (.u true) (.u false)))]
def Zhg(t8_1:Qo)(x10_1:Qo):Option (Qo×Int×Unit):=
 some (x10_1,(0:Int),())
abbrev Z2z:List PE:=[.val 1 (.int .i64) (.u false),.val 2 (.str) (.u false),.box 4 84 (Q8) (.u false),.box 8 84 (Q8) (.u true),.box 10 84 (Q8) (.p (.u false) (.p (.u true) (.u false)))]
def Zdd(offset1_1:Int)(data2_1:List UInt8)(r4:Qo)(t8:Qo)(x10:Qo):Option (Qo×Int×Unit):=
 (Zo3 r4.2.1 offset1_1 data2_1).bind fun t60=>
 (bif(x10.2.2.1 !=(-1:Int))then(Zak t60.1)else some ((0:Int),())).bind fun t71=>
 bif(x10.2.2.1 !=(-1:Int))&& ((IntKind.i64.wrap (t60.1.1+t71.1))==x10.2.2.1)then
  Zhg t8 ((2:Int),(t60.1,x10.2.2))
 else
  Zhg t8 (x10.1,(t60.1,x10.2.2))
def Zni(r0:Qo)(offset1:Int)(data2:List UInt8)(fin3:Bool):Option (Qo×Int×Unit):=
 (Zmy r0).bind fun t14=>
 (Yk r0).bind fun t16=>
 bif((!t16.1)|| (decide (offset1< (0:Int))))|| (decide (offset1>(IntKind.i64.wrap ((4611686018427387903:Int)- (data2.length:Int)))))then
  some (t14.1,(7:Int),())
 else
  let t33:Int:=IntKind.i64.wrap (offset1+ (data2.length:Int))
  (Zrs r0 t33 fin3).bind fun t37=>
  bif(t37.1 !=0)|| (decide (r0.1>(1:Int)))then
   some (t14.1,t37.1,())
  else
   bif fin3 then
    Zdd offset1 data2 r0 Z6c ((1:Int),(t14.1.2.1,(t33,(max r0.2.2.2.1 t33,t14.1.2.2.2.2))))
   else
    Zdd offset1 data2 r0 Z6c (t14.1.1,(t14.1.2.1,(t14.1.2.2.1,(max r0.2.2.2.1 t33,t14.1.2.2.2.2))))
def Zsv(r0:Qo)(end1:Int):Option (Int×Unit):=
 (Yk r0).bind fun t6=>
 (bif(!t6.1)then some (false,())else(Qh end1)).bind fun t10=>
 bif(!t6.1)|| (!t10.1)then
  some ((0:Int),())
 else
  some (max (0:Int) (IntKind.i64.wrap (end1-r0.2.2.2.1)),())
def Zom(w0:Kn)(n1:Int):Option (Kn×Bool×Unit):=
 (Jn w0).bind fun t7=>
 bif((!t7.1)|| (decide (n1< (0:Int))))|| (decide (n1>(IntKind.i64.wrap (w0.2.2.1-w0.2.2.2.1))))then
  some (w0,false,())
 else
  some ((w0.1,(w0.2.1,(w0.2.2.1,(IntKind.i64.wrap (w0.2.2.2.1+n1),w0.2.2.2.2)))),true,())
def Zrj(x0:Zg)(s1:Zp)(end2:Int):Option ((Int×Unit)×(Zg×Zp×Unit)):=
 (Zsv s1.2.2.2.1 end2).bind fun t17=>
 bif t17.1==0 then
  some (((0:Int),()),(x0,(s1,())))
 else
  (Zom s1.2.2.2.2.1 t17.1).bind fun t26=>
  (Zom x0.2.2.2.2.2.1 t17.1).bind fun t35=>
  bif(!t26.2.1)|| (!t35.2.1)then
   some (((3:Int),()),(x0,(s1,())))
  else
   some (((0:Int),()),((x0.1,(x0.2.1,(x0.2.2.1,(x0.2.2.2.1,(x0.2.2.2.2.1,(t35.1,x0.2.2.2.2.2.2)))))),((s1.1,(s1.2.1,(s1.2.2.1,(s1.2.2.2.1,(t26.1,s1.2.2.2.2.2))))),())))
def Zo1(c0:Zg)(f1:Zh):Option ((Zg×Int×Unit)×(Unit)):=
 (Z5 c0).bind fun t13=>
 (bif(!t13.1)then some (false,())else(Jv f1)).bind fun t17=>
 bif((!t13.1)|| (!t17.1))|| (f1.1 !=8)then
  (Zy c0).bind fun t26=>
  some ((t26.1,((7:Int),())),())
 else
  (J9 c0.1 f1.2.1).bind fun t31=>
  bif !t31.1 then
   (Zy c0).bind fun t34=>
   some ((t34.1,((5:Int),())),())
  else
   (Wx c0 f1.2.1).bind fun t39=>
   bif t39.2.1 !=0 then
    (Zy c0).bind fun t45=>
    some ((t45.1,(t39.2.1,())),())
   else
    (Q0 t39.1 f1.2.1).bind fun t51=>
    (Zni t51.1.2.2.2.1 f1.2.2.1 f1.2.2.2.1 f1.2.2.2.2.1).bind fun t63=>
    (Zrj t39.1 t51.1 (IntKind.i64.wrap (f1.2.2.1+ (f1.2.2.2.1.length:Int)))).bind fun t72=>
    bif t72.1.1 !=0 then
     (Zy c0).bind fun t76=>
     some ((t76.1,(t72.1.1,())),())
    else
     bif t63.2.1 !=0 then
      (Zy c0).bind fun t81=>
      some ((t81.1,(t63.2.1,())),())
     else
      (Zdp t72.2.1 (t72.2.2.1.1,(t72.2.2.1.2.1,(t72.2.2.1.2.2.1,(t63.1,t72.2.2.1.2.2.2.2))))).bind fun t86=>
      some ((t86.2.1,((0:Int),())),())
def Zlq(r0:Qo)(code1:Int)(final2:Int):Option (Qo×Int×Unit):=
 (Zmy r0).bind fun t11=>
 (Yk r0).bind fun t13=>
 (bif(!t13.1)then some (false,())else(Qh code1)).bind fun t17=>
 (bif((!t13.1)|| (!t17.1))then some (false,())else(Qh final2)).bind fun t22=>
 bif((!t13.1)|| (!t17.1))|| (!t22.1)then
  some (t11.1,(7:Int),())
 else
  (Zrs r0 final2 true).bind fun t28=>
  bif(t28.1 !=0)|| (decide (r0.1>(1:Int)))then
   some (t11.1,t28.1,())
  else
   some (((4:Int),((r0.2.1.1,(([]:List Z0),())),(final2,(final2,(code1,()))))),(0:Int),())
abbrev Z2w:List PE:=[.box 4 37 (Zl) (.u true),.box 6 37 (Zl) (.u false),.box 8 88 (Z2) (.u false),.box 10 84 (Q8) (.u true)]
def Zdc(t4:Zg)(x6:Zg)(s8:Zp)(r10:Qo):Option ((Zg×Int×Unit)×(Unit)):=
 (Zdp x6 (s8.1,(s8.2.1,(s8.2.2.1,(r10,s8.2.2.2.2))))).bind fun t92=>
 some ((t92.2.1,((0:Int),())),())
def Zne(c0:Zg)(f1:Zh):Option ((Zg×Int×Unit)×(Unit)):=
 (Z5 c0).bind fun t13=>
 (bif(!t13.1)then some (false,())else(Jv f1)).bind fun t17=>
 bif((!t13.1)|| (!t17.1))|| (f1.1 !=4)then
  (Zy c0).bind fun t26=>
  some ((t26.1,((7:Int),())),())
 else
  (J9 c0.1 f1.2.1).bind fun t31=>
  bif !t31.1 then
   (Zy c0).bind fun t34=>
   some ((t34.1,((5:Int),())),())
  else
   (Wx c0 f1.2.1).bind fun t39=>
   bif t39.2.1 !=0 then
    (Zy c0).bind fun t45=>
    some ((t45.1,(t39.2.1,())),())
   else
    (Q0 t39.1 f1.2.1).bind fun t51=>
    (Zlq t51.1.2.2.2.1 f1.2.2.2.2.2.1 f1.2.2.2.2.2.2.2.1).bind fun t61=>
    (Zrj t39.1 t51.1 f1.2.2.2.2.2.2.2.1).bind fun t66=>
    bif t66.1.1 !=0 then
     (Zy c0).bind fun t70=>
     some ((t70.1,(t66.1.1,())),())
    else
     bif t61.2.1 !=0 then
      (Zy c0).bind fun t75=>
      some ((t75.1,(t61.2.1,())),())
     else
      bif(t61.1.1==4)&& (t66.2.2.1.2.2.2.1.1 !=4)then
       (Zrk t66.2.1 t66.2.2.1 f1.2.2.2.2.2.2.2.1).bind fun t88=>
       Zdc Km t88.2.1 t88.2.2.1 t61.1
      else
       Zdc Km t66.2.1 t66.2.2.1 t61.1
abbrev Z43:List PE:=[.box 4 37 (Zl) (.u true),.box 6 37 (Zl) (.u true),.box 8 88 (Z2) (.p (.u false) (.p (.u true) (.p (.u false) (.p (.u true) (.u false)))))]
def Zep(t4:Zg)(x6:Zg)(s8:Zp):Option ((Zg×Int×Unit)×(Unit)):=
 (Zdp x6 s8).bind fun t67=>
 some ((t67.2.1,((0:Int),())),())
def Zo2(c0:Zg)(f1:Zh):Option ((Zg×Int×Unit)×(Unit)):=
 (Z5 c0).bind fun t13=>
 (bif(!t13.1)then some (false,())else(Jv f1)).bind fun t17=>
 bif((!t13.1)|| (!t17.1))|| (f1.1 !=5)then
  (Zy c0).bind fun t26=>
  some ((t26.1,((7:Int),())),())
 else
  (Zeh c0.1 f1.2.1).bind fun t31=>
  bif !t31.1 then
   (Zy c0).bind fun t34=>
   some ((t34.1,((5:Int),())),())
  else
   (Wx c0 f1.2.1).bind fun t39=>
   bif t39.2.1 !=0 then
    (Zy c0).bind fun t45=>
    some ((t45.1,(t39.2.1,())),())
   else
    (Q0 t39.1 f1.2.1).bind fun t51=>
    (Zij t51.1.2.1 f1.2.2.2.2.2.1).bind fun t59=>
    bif t59.2.1 then
     Zep Km t39.1 (t51.1.1,(t59.1,(t51.1.2.2.1,(t51.1.2.2.2.1,(t51.1.2.2.2.2.1,(t51.1.2.2.2.2.2.1,(t51.1.2.2.2.2.2.2.1,(t51.1.2.2.2.2.2.2.2.1,(true,t51.1.2.2.2.2.2.2.2.2.2)))))))))
    else
     Zep Km t39.1 t51.1
def Zkf(c0:K5)(limit1:Int):Option (K5×Unit):=
 (Y6 c0).bind fun t6=>
 (bif(!t6.1)then some (false,())else(Qh limit1)).bind fun t10=>
 bif((!t6.1)|| (!t10.1))|| (decide (limit1≤c0.1))then
  some (c0,())
 else
  some ((limit1,(c0.2.1,((-1:Int),c0.2.2.2))),())
def Zke(c0:Zk2)(limit1:Int):Option (Zk2×Unit):=
 (Zbq c0).bind fun t6=>
 bif((!t6.1)|| (decide (limit1≤c0.1)))|| (decide (limit1>(1152921504606846976:Int)))then
  some (c0,())
 else
  some ((limit1,(c0.2.1,((-1:Int),c0.2.2.2))),())
abbrev Qcf:List PE:=[.box 4 37 (Zl) (.u true),.box 7 37 (Zl) (.p (.u false) (.p (.u false) (.p (.u false) (.u true))))]
def Znk(t4_1:Zg)(x7:Zg):Option (Zg×Int×Unit):=
 some (x7,(0:Int),())
abbrev Qce:List PE:=[.box 2 37 (Zl) (.u false),.box 3 106 (Zu) (.u false),.box 4 37 (Zl) (.u true),.val 6 (.bool) (.u false)]
def Ziq(c2:Zg)(f3:Zh)(t4:Zg)(fine6:Bool):Option (Zg×Int×Unit):=
 bif !fine6 then
  (Zy c2).bind fun t27=>
  some (t27.1,(5:Int),())
 else
  (Wx c2 f3.2.1).bind fun t32=>
  bif t32.2.1 !=0 then
   (Zy c2).bind fun t38=>
   some (t38.1,t32.2.1,())
  else
   bif f3.1==17 then
    (Q0 t32.1 f3.2.1).bind fun t47=>
    (Zkf t47.1.2.2.1 f3.2.2.2.2.2.2.1).bind fun t54=>
    (Xo t32.1.2.2.2.1 (t47.1.1,(t47.1.2.1,(t54.1,t47.1.2.2.2)))).bind fun t59=>
    Znk t4 (t32.1.1,(t32.1.2.1,(t32.1.2.2.1,(t59.1,t32.1.2.2.2.2))))
   else
    Znk t4 t32.1
def Zs3(c0:Zg)(f1:Zh):Option (Zg×Int×Unit):=
 (Zeh c0.1 f1.2.1).bind fun t15=>
 bif f1.1==21 then
  (J9 c0.1 f1.2.1).bind fun t23=>
  Ziq c0 f1 Km t23.1
 else
  Ziq c0 f1 Km t15.1
abbrev Z2t:List PE:=[.box 4 37 (Zl) (.u true),.box 6 37 (Zl) (.p (.u false) (.p (.u false) (.p (.u false) (.p (.u true) (.p (.u false) (.p (.u false) (.p (.u false) (.p (.u false) (.u true)))))))))]
def Zhe(t4:Zg)(x6:Zg):Option (Zg×Int×Unit):=
 some (x6,(0:Int),())
abbrev Z2v:List PE:=[.box 2 37 (Zl) (.u false),.box 3 106 (Zu) (.u false),.box 4 37 (Zl) (.u true),.box 6 37 (Zl) (.u true),.val 52 (.bool) (.u false)]
def Zdb(c2_1:Zg)(f3_1:Zh)(t4_2:Zg)(x6_2:Zg)(t52:Bool):Option (Zg×Int×Unit):=
 bif t52 then
  (Zs3 c2_1 f3_1).bind fun t58=>
  some (t58.1,t58.2.1,())
 else
  some (x6_2,(7:Int),())
abbrev Z2u:List PE:=[.box 2 37 (Zl) (.u false),.box 3 106 (Zu) (.u false),.box 4 37 (Zl) (.u true),.box 6 37 (Zl) (.u true),.val 21 (.int .i64) (.u false),.val 48 (.bool) (.u false)]
def Zda(c2:Zg)(f3:Zh)(t4_1:Zg)(x6_1:Zg)(t21:Int)(t48:Bool):Option (Zg×Int×Unit):=
 bif t48 then
  some (x6_1,(0:Int),())
 else
  bif t21==17 then
   Zdb c2 f3 t4_1 x6_1 (t21==17)
  else
   Zdb c2 f3 t4_1 x6_1 (t21==21)
def Znd(c0:Zg)(f1:Zh):Option (Zg×Int×Unit):=
 (Zy c0).bind fun t10=>
 (Z5 c0).bind fun t12=>
 (bif(!t12.1)then some (false,())else(Jv f1)).bind fun t16=>
 bif(!t12.1)|| (!t16.1)then
  some (t10.1,(7:Int),())
 else
  bif f1.1==16 then
   (Zkf c0.2.2.2.2.1 f1.2.2.2.2.2.2.1).bind fun t28=>
   some ((t10.1.1,(t10.1.2.1,(t10.1.2.2.1,(t10.1.2.2.2.1,(t28.1,t10.1.2.2.2.2.2))))),(0:Int),())
  else
   bif f1.1==18 then
    bif f1.2.2.2.2.2.2.2.2.1 then
     (Zke c0.2.2.2.2.2.2.2.1 f1.2.2.2.2.2.2.1).bind fun t39=>
     Zhe Km (t10.1.1,(t10.1.2.1,(t10.1.2.2.1,(t10.1.2.2.2.1,(t10.1.2.2.2.2.1,(t10.1.2.2.2.2.2.1,(t10.1.2.2.2.2.2.2.1,(t39.1,t10.1.2.2.2.2.2.2.2.2))))))))
    else
     (Zke c0.2.2.2.2.2.2.1 f1.2.2.2.2.2.2.1).bind fun t45=>
     Zhe Km (t10.1.1,(t10.1.2.1,(t10.1.2.2.1,(t10.1.2.2.2.1,(t10.1.2.2.2.2.1,(t10.1.2.2.2.2.2.1,(t45.1,t10.1.2.2.2.2.2.2.2)))))))
   else
    bif f1.1==20 then
     Zda c0 f1 Km t10.1 f1.1 (f1.1==20)
    else
     Zda c0 f1 Km t10.1 f1.1 (f1.1==22)
abbrev Z2s:List PE:=[.box 4 37 (Zl) (.u true),.box 6 37 (Zl) (.p (.u true) (.p (.p (.u true) (.p (.u true) (.p (.u true) (.p (.u true) (.p (.u true) (.p (.u true) (.p (.u true) (.p (.u true) (.u true))))))))) (.p (.p (.u true) (.p (.u true) (.p (.u true) (.p (.u true) (.p (.u true) (.p (.u true) (.p (.u true) (.p (.u true) (.u true))))))))) (.p (.u false) (.p (.p (.u true) (.p (.u true) (.p (.u true) (.p (.u true) (.u true))))) (.p (.p (.u true) (.p (.u true) (.p (.u true) (.p (.u true) (.p (.u true) (.p (.u true) (.u true))))))) (.p (.p (.u true) (.p (.u true) (.p (.u true) (.u true)))) (.p (.p (.u true) (.p (.u true) (.p (.u true) (.u true)))) (.p (.p (.u true) (.p (.u true) (.p (.u true) (.p (.u true) (.u true))))) (.p (.p (.u true) (.p (.u true) (.p (.u true) (.p (.u true) (.u true))))) (.p (.u true) (.p (.u true) (.p (.u true) (.p (.u true) (.p (.u true) (.p (.u false) (.p (.u true) (.p (.u true) (.u true))))))))))))))))))),.val 7 (.int .i64) (.u false)]
def W8(t4:Zg)(x6:Zg)(e7:Int):Option ((Zg×Int×Unit)×(Unit)):=
 some ((x6,(e7,())),())
def Zd6(c0:Zg)(f1:Zh):Option ((Zg×Int×Unit)×(Unit)):=
 (Zy c0).bind fun t9=>
 bif f1.1==8 then
  (Zo1 c0 f1).bind fun t23=>
  W8 Km t23.1.1 t23.1.2.1
 else
  bif f1.1==4 then
   (Zne c0 f1).bind fun t31=>
   W8 Km t31.1.1 t31.1.2.1
  else
   bif f1.1==5 then
    (Zo2 c0 f1).bind fun t39=>
    W8 Km t39.1.1 t39.1.2.1
   else
    (Znd c0 f1).bind fun t15=>
    W8 Km t15.1 t15.2.1
abbrev Zy7:List PE:=[.box 4 37 (Zl) (.u true),.box 6 37 (Zl) (.u false),.val 7 (.slice 106 (Zu)) (.u true),.val 9 (.int .i64) (.u false),.box 10 37 (Zl) (.u false),.val 11 (.int .i64) (.u false)]
def Xg(K1: (Zg×Zg×List Zh×Int×Unit)→Option ((Zg×Int×Unit)×(Unit)))(t4_1:Zg)(x6_1:Zg)(l7_1:List Zh)(i9_1:Int)(y10:Zg)(e11:Int):Option ((Zg×Int×Unit)×(Unit)):=
 bif e11 !=0 then
  (Zmb x6_1 e11).bind fun t52=>
  some ((t52.1,(e11,())),())
 else
  K1 (t4_1,y10,l7_1,IntKind.i64.wrap (i9_1+1),())
abbrev Zy8:List PE:=[.box 4 37 (Zl) (.u true),.box 6 37 (Zl) (.u false),.val 7 (.slice 106 (Zu)) (.u true),.val 9 (.int .i64) (.u false)]
def Zeo(t4:Zg)(x6:Zg)(l7:List Zh)(i9:Int):Nat:=((l7.length:Int)-i9).toNat+1
def Qy:Nat→Zg→Zg→List Zh→Int→Option ((Zg×Int×Unit)×(Unit))
 |0,_,_,_,_=>none
 |N+1,t4,x6,l7,i9=>
  bif decide (i9< (l7.length:Int))then
   Zc (0≤i9∧i9<l7.length)<|
   Z6 (
    (Zd6 x6 (l7.getD i9.toNat Xk)).bind fun t45=>
    Z6 (
     Z6 (
      Z6 (
       Xg (fun v=>Qy N v.1 v.2.1 v.2.2.1 v.2.2.2.1) t4 x6 l7 i9 t45.1.1 t45.1.2.1
      ) (
       Qm 1 (
        Xg (fun v=>Qy N v.1 v.2.1 v.2.2.1 v.2.2.2.1) t4 x6 l7 i9 t45.1.1 t45.1.2.1
       )
      )
     ) (
     Z6 (
      Qm 1 (
       Xg (fun v=>Qy N v.1 v.2.1 v.2.2.1 v.2.2.2.1) t4 x6 l7 i9 t45.1.1 t45.1.2.1
      )
     ) (
      Z6 (
       Qm 1 (
        Xg (fun v=>Qy N v.1 v.2.1 v.2.2.1 v.2.2.2.1) t4 x6 l7 i9 t45.1.1 t45.1.2.1
       )
      ) (
       Xg (fun v=>Qy N v.1 v.2.1 v.2.2.1 v.2.2.2.1) t4 x6 l7 i9 t45.1.1 t45.1.2.1
      )
     )
     )
    ) (
     Z6 (
      Qm 1 (
       Xg (fun v=>Qy N v.1 v.2.1 v.2.2.1 v.2.2.2.1) t4 x6 l7 i9 t45.1.1 t45.1.2.1
      )
     ) (
      Xg (fun v=>Qy N v.1 v.2.1 v.2.2.1 v.2.2.2.1) t4 x6 l7 i9 t45.1.1 t45.1.2.1
     )
    )
   ) (
    (Zd6 x6 (l7.getD i9.toNat Xk)).bind fun t45=>
    Z6 (
     Qm 1 (
      Xg (fun v=>Qy N v.1 v.2.1 v.2.2.1 v.2.2.2.1) t4 x6 l7 i9 t45.1.1 t45.1.2.1
     )
    ) (
     Xg (fun v=>Qy N v.1 v.2.1 v.2.2.1 v.2.2.2.1) t4 x6 l7 i9 t45.1.1 t45.1.2.1
    )
   )
  else
   some ((x6,((0:Int),())),())
def V3(c0:Zg)(payload1:List UInt8):Option ((Zg×Int×Unit)×(Unit)):=
 (Zy c0).bind fun t13=>
 (Z5 c0).bind fun t15=>
 (bif(!t15.1)then some (false,())else(Wq c0)).bind fun t19=>
 bif(!t15.1)||t19.1 then
  some ((t13.1,(c0.2.2.2.2.2.2.2.2.2.2.2.2.2.2.2.2.2.1,())),())
 else
  (Zjm payload1).bind fun t26=>
  bif !t26.2.1 then
   (Zmb t13.1 (7:Int)).bind fun t32=>
   some ((t32.1,((7:Int),())),())
  else
   Qy (Zeo Km t13.1 t26.1 (0:Int)) Km t13.1 t26.1 (0:Int)
def Zsz(c0:Zg)(n1:Int):Option (Zg×Bool×Unit):=
 (Zy c0).bind fun t8=>
 (Yw c0).bind fun t10=>
 (bif(!t10.1)then some (false,())else(Zx n1 (1:Int) (1000:Int))).bind fun t14=>
 bif((!t10.1)|| (!t14.1))|| (decide ((IntKind.i64.wrap (c0.2.2.2.2.2.2.2.2.2.2.2.2.2.2.2.2.1+n1))>1000000))then
  some (t8.1,false,())
 else
  some ((t8.1.1,(t8.1.2.1,(t8.1.2.2.1,(t8.1.2.2.2.1,(t8.1.2.2.2.2.1,(t8.1.2.2.2.2.2.1,(t8.1.2.2.2.2.2.2.1,(t8.1.2.2.2.2.2.2.2.1,(t8.1.2.2.2.2.2.2.2.2.1,(t8.1.2.2.2.2.2.2.2.2.2.1,(t8.1.2.2.2.2.2.2.2.2.2.2.1,(t8.1.2.2.2.2.2.2.2.2.2.2.2.1,(t8.1.2.2.2.2.2.2.2.2.2.2.2.2.1,(t8.1.2.2.2.2.2.2.2.2.2.2.2.2.2.1,(t8.1.2.2.2.2.2.2.2.2.2.2.2.2.2.2.1,(t8.1.2.2.2.2.2.2.2.2.2.2.2.2.2.2.2.1,(IntKind.i64.wrap (c0.2.2.2.2.2.2.2.2.2.2.2.2.2.2.2.2.1+n1),t8.1.2.2.2.2.2.2.2.2.2.2.2.2.2.2.2.2.2))))))))))))))))),true,())
def Z01(is0:Bool):Option (List UInt8×Unit):=
 bif is0 then
  some (([111,107]:List UInt8),())
 else
  some (([110,111]:List UInt8),())
abbrev Z4u:List PE:=[.box 5 37 (Zl) (.u true),.box 6 37 (Zl) (.p (.u true) (.p (.p (.u true) (.p (.u true) (.p (.u true) (.p (.u true) (.p (.u true) (.p (.u true) (.p (.u true) (.p (.u true) (.u true))))))))) (.p (.p (.u true) (.p (.u true) (.p (.u true) (.p (.u true) (.p (.u true) (.p (.u true) (.p (.u true) (.p (.u true) (.u true))))))))) (.p (.u false) (.p (.p (.u true) (.p (.u true) (.p (.u true) (.p (.u true) (.u true))))) (.p (.p (.u true) (.p (.u true) (.p (.u true) (.p (.u true) (.p (.u true) (.p (.u true) (.u true))))))) (.p (.p (.u true) (.p (.u true) (.p (.u true) (.u true)))) (.p (.p (.u true) (.p (.u true) (.p (.u true) (.u true)))) (.p (.p (.u true) (.p (.u true) (.p (.u true) (.p (.u true) (.u true))))) (.p (.p (.u true) (.p (.u true) (.p (.u true) (.p (.u true) (.u true))))) (.p (.u true) (.p (.u true) (.p (.u true) (.p (.u true) (.p (.u true) (.p (.u false) (.p (.u true) (.p (.u true) (.u true))))))))))))))))))),.val 7 (.bool) (.u false)]
def Yb(t5:Zg)(x6:Zg)(is7:Bool):Option ((List UInt8×Zg×Unit)×(Unit)):=
 (Z01 is7).bind fun t199=>
 some ((t199.1,(x6,())),())
def Zox(c0:Zg)(e1:Jp):Option ((List UInt8×Zg×Unit)×(Unit)):=
 (Zy c0).bind fun t24=>
 (Z5 c0).bind fun t26=>
 (bif(!t26.1)then some (false,())else(Zrc e1)).bind fun t30=>
 bif(!t26.1)|| (!t30.1)then
  some ((([]:List UInt8),(t24.1,())),())
 else
  (Wq c0).bind fun t35=>
  bif t35.1 then
   some ((([99,108,111,115,101,100]:List UInt8),(t24.1,())),())
  else
   bif e1.1==1 then
    (Zkd c0 (e1.2.2.2.1==([117,110,105]:List UInt8))).bind fun t46=>
    bif !t46.2.2.1 then
     some ((([98,108,111,99,107,101,100]:List UInt8),(t46.2.1,())),())
    else
     (Zv t46.1).bind fun t54=>
     some ((t54.1,(t46.2.1,())),())
   else
    bif e1.1==2 then
     (Zbj c0 e1.2.1 e1.2.2.2.1).bind fun t64=>
     (Zv t64.1).bind fun t68=>
     some ((t68.1,(t64.2.1,())),())
    else
     bif e1.1==3 then
      (Zgf c0 e1.2.1).bind fun t76=>
      Yb Km t76.1 t76.2.1
     else
      bif e1.1==4 then
       (Zaj c0 e1.2.1 e1.2.2.1).bind fun t87=>
       bif t87.1.2.1 then
        (Ww t87.1.1).bind fun t93=>
        Zc (t93.1.length+ ([32,101,110,100]:List UInt8).length≤Z8)<|
        some ((t93.1++ ([32,101,110,100]:List UInt8),(t87.1.2.2.1,())),())
       else
        (Ww t87.1.1).bind fun t97=>
        Zc (t97.1.length+ ([32,109,111,114,101]:List UInt8).length≤Z8)<|
        some ((t97.1++ ([32,109,111,114,101]:List UInt8),(t87.1.2.2.1,())),())
      else
       bif e1.1==5 then
        (Zik c0 e1.2.1 e1.2.2.1).bind fun t108=>
        Yb Km t108.1.1 t108.1.2.1
       else
        bif e1.1==6 then
         (Zpa c0 e1.2.1 e1.2.2.1).bind fun t119=>
         Yb Km t119.1 t119.2.1
        else
         bif e1.1==7 then
          (Zil c0 e1.2.1 e1.2.2.2.1).bind fun t130=>
          Yb Km t130.1 t130.2.1
         else
          bif e1.1==8 then
           (Zah c0 e1.2.2.1).bind fun t139=>
           bif t139.1.2.1==(-1:Int)then
            some ((([110,111,116,104,105,110,103]:List UInt8),(t139.1.2.2.1,())),())
           else
            (Zv t139.1.2.1).bind fun t147=>
            Zc (t147.1.length+ ([32]:List UInt8).length≤Z8)<|
            (Ww t139.1.1).bind fun t150=>
            Zc ((t147.1++ ([32]:List UInt8)).length+t150.1.length≤Z8)<|
            some (((t147.1++ ([32]:List UInt8))++t150.1,(t139.1.2.2.1,())),())
          else
           bif e1.1==9 then
            (Zb1 c0 e1.2.2.1).bind fun t159=>
            Yb Km t159.1.1 t159.1.2.1
           else
            bif e1.1==10 then
             (Zai c0 e1.2.2.1).bind fun t168=>
             Yb Km t168.1.1 t168.1.2.1
            else
             bif e1.1==11 then
              (Zmd e1.2.2.2.1).bind fun t176=>
              (V3 c0 t176.1).bind fun t182=>
              (Zv t182.1.2.1).bind fun t186=>
              Zc (([101,114,114,111,114,32]:List UInt8).length+t186.1.length≤Z8)<|
              some ((([101,114,114,111,114,32]:List UInt8)++t186.1,(t182.1.1,())),())
             else
              bif e1.1==12 then
               (Zsz c0 e1.2.2.1).bind fun t195=>
               Yb Km t195.1 t195.2.1
              else
               Yb Km t24.1 false
abbrev Qb8:List PE:=[.val 0 (.str) (.u false),.val 4 (.int .i64) (.u false),.val 5 (.int .i64) (.u false),.val 6 (.int .i64) (.u false)]
def Zif(K1: (List UInt8×Int×Int×Int×Unit)→Option (Int×Bool×Unit))(s0_2:List UInt8)(n4_1:Int)(k5_1:Int)(i6_1:Int):Option (Int×Bool×Unit):=
 K1 (s0_2,n4_1,k5_1,IntKind.i64.wrap (i6_1+1),())
abbrev Qb9:List PE:=[.val 0 (.str) (.u false),.val 4 (.int .i64) (.u false),.val 5 (.int .i64) (.u false)]
def J0(s0_3:List UInt8)(n4_2:Int)(k5_2:Int):Option (Int×Bool×Unit):=
 let t53:Bool:=(decide (k5_2>(9:Int)))|| (decide ((s0_3.length:Int)>(10:Int)))
 (bif t53 then some (([]:List UInt8),())else(Zv n4_2)).bind fun t56=>
 bif t53|| (!(t56.1==s0_3))then
  some ((0:Int),false,())
 else
  some (n4_2,true,())
abbrev Qca:List PE:=[.val 0 (.str) (.u false),.val 4 (.int .i64) (.u false),.val 5 (.int .i64) (.u false),.val 6 (.int .i64) (.u false)]
def Zlb(s0_1:List UInt8)(n4:Int)(k5:Int)(i6:Int):Nat:=((s0_1.length:Int)-i6).toNat+1
def Zd8:Nat→List UInt8→Int→Int→Int→Option (Int×Bool×Unit)
 |0,_,_,_,_=>none
 |N+1,s0_1,n4,k5,i6=>
  bif(decide (i6< (s0_1.length:Int)))&& (decide (i6< (11:Int)))then
   Zc (0≤i6∧i6<s0_1.length)<|
   let t20:Bool:=decide (((s0_1.getD i6.toNat 0).toNat:Int)≥(48:Int))
   Zc ((t20=true→(0≤i6∧i6<s0_1.length)))<|
   bif t20&& (decide (((s0_1.getD i6.toNat 0).toNat:Int)≤(57:Int)))then
    Zc (0≤i6∧i6<s0_1.length)<|
    Zif (fun v=>Zd8 N v.1 v.2.1 v.2.2.1 v.2.2.2.1) s0_1 (IntKind.i64.wrap ((IntKind.i64.wrap (n4*10))+ (IntKind.i64.wrap (IntKind.u8.wrap (((s0_1.getD i6.toNat 0).toNat:Int)- (48:Int)))))) (IntKind.i64.wrap (k5+1)) i6
   else
    Zif (fun v=>Zd8 N v.1 v.2.1 v.2.2.1 v.2.2.2.1) s0_1 n4 k5 i6
  else
   Zc (((decide ((s0_1.length:Int)>(0:Int)))=true→(0≤(0:Int)∧(0:Int)<s0_1.length)))<|
   bif(decide ((s0_1.length:Int)>(0:Int)))&& (((s0_1.getD (0:Int).toNat 0).toNat:Int)==(45:Int))then
    J0 s0_1 (IntKind.i64.wrap (0-n4)) k5
   else
    J0 s0_1 n4 k5
def Zol(s0:List UInt8):Option (Int×Bool×Unit):=
 Zd8 (Zlb s0 (0:Int) (0:Int) (0:Int)) s0 (0:Int) (0:Int) (0:Int)
abbrev Qgb:List PE:=[.val 1 (.int .i64) (.u false),.val 2 (.bool) (.u false),.box 3 41 (Qs) (.u false),.box 6 44 (Wk) (.u false),.val 8 (.int .i64) (.u false)]
def Zmk(id1_1:Int)(server2_1:Bool)(p3:Z7)(t6:Xw)(i8:Int):Nat:=((p3.2.2.2.2.1.length:Int)-i8).toNat+1
def Zkg:Nat→Int→Bool→Z7→Xw→Int→Option (Xw×Bool×Unit)
 |0,_,_,_,_,_=>none
 |N+1,id1_1,server2_1,p3,t6,i8=>
  bif decide (i8< (p3.2.2.2.2.1.length:Int))then
   Zc (0≤i8∧i8<p3.2.2.2.2.1.length)<|
   let t23:Bool:=(p3.2.2.2.2.1.getD i8.toNat Zfc).1==id1_1
   Zc ((t23=true→(0≤i8∧i8<p3.2.2.2.2.1.length)))<|
   bif t23&& ((p3.2.2.2.2.1.getD i8.toNat Zfc).2.1==server2_1)then
    Zc (0≤i8∧i8<p3.2.2.2.2.1.length)<|
    some (p3.2.2.2.2.1.getD i8.toNat Zfc,true,())
   else
    Zkg N id1_1 server2_1 p3 t6 (IntKind.i64.wrap (i8+1))
  else
   some (Zfc,false,())
def Z00(p0:Z7)(id1:Int)(server2:Bool):Option (Xw×Bool×Unit):=
 Zkg (Zmk id1 server2 p0 Zfc (0:Int)) id1 server2 p0 Zfc (0:Int)
def Zbs(p0:Z7)(id1:Int)(server2:Bool):Option (Xw×Unit):=
 (Z00 p0 id1 server2).bind fun t13=>
 bif !t13.2.1 then
  some ((id1,(server2,(([]:List UInt8),(([]:List UInt8),(false,(false,(false,()))))))),())
 else
  some (t13.1,())
abbrev Qk0:List PE:=[.box 0 41 (Qs) (.p (.u false) (.p (.u false) (.p (.u false) (.p (.u false) (.p (.u true) (.u false)))))),.box 3 44 (Wk) (.u false),.val 4 (.int .i64) (.u false)]
def Zn3(p0_1:Z7)(t3:Xw)(i4:Int):Nat:=((p0_1.2.2.2.2.1.length:Int)-i4).toNat+1
def Zmw:Nat→Z7→Xw→Int→Option ((Unit)×(Z7×Unit))
 |0,_,_,_=>none
 |N+1,p0_1,t3,i4=>
  bif decide (i4< (p0_1.2.2.2.2.1.length:Int))then
   Zc (0≤i4∧i4<p0_1.2.2.2.2.1.length)<|
   let t24:Bool:=(p0_1.2.2.2.2.1.getD i4.toNat Zfc).1==t3.1
   Zc ((t24=true→(0≤i4∧i4<p0_1.2.2.2.2.1.length)))<|
   bif t24&& ((p0_1.2.2.2.2.1.getD i4.toNat Zfc).2.1==t3.2.1)then
    Zc (0≤i4∧i4<p0_1.2.2.2.2.1.length)<|
    some ((),((p0_1.1,(p0_1.2.1,(p0_1.2.2.1,(p0_1.2.2.2.1,(p0_1.2.2.2.2.1.set i4.toNat t3,p0_1.2.2.2.2.2))))),()))
   else
    Zmw N p0_1 t3 (IntKind.i64.wrap (i4+1))
  else
   Zc (p0_1.2.2.2.2.1.length+ ([t3]).length≤Qp)<|
   some ((),((p0_1.1,(p0_1.2.1,(p0_1.2.2.1,(p0_1.2.2.2.1,(p0_1.2.2.2.2.1++ ([t3]),p0_1.2.2.2.2.2))))),()))
def Zmv(p0:Z7)(t1:Xw):Option ((Unit)×(Z7×Unit)):=
 Zmw (Zn3 p0 t1 (0:Int)) p0 t1 (0:Int)
abbrev Qgx:List PE:=[.box 0 41 (Qs) (.p (.u false) (.p (.u false) (.p (.u false) (.p (.u false) (.p (.u true) (.u false)))))),.box 7 116 (Vx) (.u false),.val 10 (.int .i64) (.u false),.box 12 44 (Wk) (.u false)]
def Zuc(p0_1:Z7)(e7:Jp)(n10:Int)(t12:Xw):Option ((Unit)×(Z7×Unit)):=
 Zc (0≤(0:Int)∧(0:Int)≤n10∧n10≤e7.2.2.2.1.length)<|
 let t45:List UInt8:=(e7.2.2.2.1.drop (0:Int).toNat).take (n10.toNat- (0:Int).toNat)
 Zc (t12.2.2.1.length+t45.length≤Z8)<|
 (Zmv p0_1 (t12.1,(t12.2.1,(t12.2.2.1++t45,t12.2.2.2)))).bind fun t50=>
 some ((),(t50.2.1,()))
abbrev Qgy:List PE:=[.box 0 41 (Qs) (.p (.u false) (.p (.u false) (.p (.u false) (.p (.u false) (.p (.u true) (.u false)))))),.box 13 44 (Wk) (.u false)]
def Zud(p0_2:Z7)(t13:Xw):Option ((Unit)×(Z7×Unit)):=
 (Zmv p0_2 (t13.1,(t13.2.1,(t13.2.2.1,(t13.2.2.2.1,(true,t13.2.2.2.2.2)))))).bind fun t65=>
 some ((),(t65.2.1,()))
abbrev Qgz:List PE:=[.box 0 41 (Qs) (.p (.u false) (.p (.u false) (.p (.u false) (.p (.u false) (.p (.u true) (.u false)))))),.val 14 (.str) (.u false),.val 15 (.bool) (.u false),.box 17 88 (Z2) (.u true),.box 19 44 (Wk) (.u false)]
def Zue(p0_3:Z7)(data14:List UInt8)(fin15:Bool)(s17:Zp)(t19:Xw):Option ((Unit)×(Z7×Unit)):=
 Zc (t19.2.2.2.1.length+data14.length≤Z8)<|
 Option.bind (Zmv p0_3 (t19.1,(t19.2.1,(t19.2.2.1,(t19.2.2.2.1++data14,(t19.2.2.2.2.1,(t19.2.2.2.2.2.1|| (fin15&& (decide (s17.2.2.2.1.1< (4:Int)))),(t19.2.2.2.2.2.2.1|| (decide (s17.2.2.2.1.1≥(4:Int))),t19.2.2.2.2.2.2.2)))))))) fun t129=>
 some ((),(t129.2.1,()))
abbrev Qg0:List PE:=[.box 0 41 (Qs) (.p (.u false) (.p (.u false) (.p (.u false) (.p (.u false) (.p (.u true) (.u false)))))),.box 20 44 (Wk) (.u false)]
def Zuf(p0_4:Z7)(t20:Xw):Option ((Unit)×(Z7×Unit)):=
 Option.bind (Zmv p0_4 (t20.1,(t20.2.1,(t20.2.2.1,(t20.2.2.2.1,(t20.2.2.2.2.1,(t20.2.2.2.2.2.1,(true,t20.2.2.2.2.2.2.2)))))))) fun t144=>
 some ((),(t144.2.1,()))
abbrev Qg1:List PE:=[.box 0 41 (Qs) (.p (.u false) (.p (.u false) (.p (.u false) (.p (.u false) (.p (.u true) (.u false)))))),.box 21 44 (Wk) (.u false)]
def Zug(p0_5:Z7)(t21:Xw):Option ((Unit)×(Z7×Unit)):=
 Option.bind (Zmv p0_5 (t21.1,(t21.2.1,(t21.2.2.1,(t21.2.2.2.1,(t21.2.2.2.2.1,(t21.2.2.2.2.2.1,(true,t21.2.2.2.2.2.2.2)))))))) fun t160=>
 some ((),(t160.2.1,()))
def Zrq(p0:Z7)(server1:Bool)(e2:Jp)(out3:List UInt8)(before4:Zg):Option ((Unit)×(Z7×Unit)):=
 bif e2.1==2 then
  (Zol out3).bind fun t28=>
  bif decide (t28.1>(0:Int))then
   Qm 1 (
    (Zbs p0 e2.2.1 server1).bind fun t39=>
    Zuc p0 e2 t28.1 t39.1
   )
  else
   some ((),(p0,()))
 else
  bif e2.1==3 then
   bif out3==([111,107]:List UInt8)then
    Qm 1 (
     (Zbs p0 e2.2.1 server1).bind fun t61=>
     Zud p0 t61.1
    )
   else
    some ((),(p0,()))
  else
   bif e2.1==4 then
    (Zaj before4 e2.2.1 e2.2.2.1).bind fun t74=>
    (Q0 before4 e2.2.1).bind fun t82=>
    bif t82.2.1&& ((!(t74.1.1==([]:List UInt8)))||t74.1.2.1)then
     Qm 1 (
      (Zbs p0 e2.2.1 (!server1)).bind fun t100=>
      Zue p0 t74.1.1 t74.1.2.1 t82.1 t100.1
     )
    else
     some ((),(p0,()))
   else
    bif e2.1==5 then
     bif out3==([111,107]:List UInt8)then
      Qm 1 (
       (Zbs p0 e2.2.1 server1).bind fun t140=>
       Zuf p0 t140.1
      )
     else
      some ((),(p0,()))
    else
     bif e2.1==6 then
      bif out3==([111,107]:List UInt8)then
       Qm 1 (
        (Zbs p0 e2.2.1 (!server1)).bind fun t156=>
        Zug p0 t156.1
       )
      else
       some ((),(p0,()))
     else
      some ((),(p0,()))
abbrev Z76:List PE:=[.box 7 41 (Qs) (.u true),.box 8 41 (Qs) (.p (.u false) (.p (.u false) (.p (.u false) (.p (.u false) (.p (.u true) (.u false)))))),.val 11 (.int .i64) (.u false)]
def Zgr(t7:Z7)(x8:Z7)(n11:Int):Option ((List UInt8×Z7×Unit)×(Unit)):=
 (Zv n11).bind fun t94=>
 some ((t94.1,(x8,())),())
def Ze3(p0:Z7)(server1:Bool)(e2:Jp):Option ((List UInt8×Z7×Unit)×(Unit)):=
 (Zdq p0).bind fun t18=>
 (Zgj p0).bind fun t20=>
 (bif(!t20.1)then some (false,())else(Zrc e2)).bind fun t24=>
 (bif((!t20.1)|| (!t24.1))then some (false,())else(Zx e2.1 (9:Int) (11:Int))).bind fun t30=>
 let t37:Bool:=(((!t20.1)|| (!t24.1))||t30.1)|| (decide ((p0.2.2.2.2.1.length:Int)>(90:Int)))
 (bif(e2.1==8)then(bif t37 then some (([]:List Z0),())else(Zb8 p0 (!server1)))else some (([]:List Z0),())).bind fun t46=>
 bif t37|| ((e2.1==8)&& (decide ((t46.1.length:Int)≥(60:Int))))then
  some ((([]:List UInt8),(t18.1,())),())
 else
  (Zdw p0 server1).bind fun t54=>
  (bif(e2.1==8)then(Wq t54.1)else some (false,())).bind fun t60=>
  bif(e2.1==8)&& (!t60.1)then
   (Zah t54.1 e2.2.2.1).bind fun t67=>
   (Zdr t18.1 server1 t67.1.2.2.1).bind fun t73=>
   bif t67.1.2.1==(-1:Int)then
    some ((([110,111,116,104,105,110,103]:List UInt8),(t73.2.1,())),())
   else
    (Zb8 p0 (!server1)).bind fun t81=>
    (Zmi t81.1 (t67.1.2.1,(t67.1.1,()))).bind fun t85=>
    bif server1 then
     Zgr Zdy (t73.2.1.1,(t73.2.1.2.1,(t73.2.1.2.2.1,(t85.1,t73.2.1.2.2.2.2)))) t67.1.2.1
    else
     Zgr Zdy (t73.2.1.1,(t73.2.1.2.1,(t85.1,t73.2.1.2.2.2))) t67.1.2.1
  else
   (Zox t54.1 e2).bind fun t99=>
   (Zdr t18.1 server1 t99.1.2.1).bind fun t104=>
   (Zrq t104.2.1 server1 e2 t99.1.1 t54.1).bind fun t109=>
   some ((t99.1.1,(t109.2.1,())),())
def Zi7(c0:Qe)(list1:List (List UInt8)):Option ((List UInt8×Unit)×(Qe×Unit)):=
 (Qa c0 (list1.length:Int)).bind fun t9=>
 Zc (0≤t9.1.1∧t9.1.1<list1.length)<|
 some ((list1.getD t9.1.1.toNat ([]:List UInt8),()),(t9.2.1,()))
abbrev Qk1:List PE:=[.box 0 71 (Kp) (.u false),.val 5 (.str) (.u false),.val 6 (.int .i64) (.u false)]
def Zhj(c0_1:Qe)(s5_1:List UInt8)(n6:Int):Nat:=(n6-0).toNat+1
def Ziw:Nat→Qe→List UInt8→Int→Option ((List UInt8×Unit)×(Qe×Unit))
 |0,_,_,_=>none
 |N+1,c0_1,s5_1,n6=>
  bif decide (n6>(0:Int))then
   (Zi7 c0_1 ([([97]:List UInt8),([98]:List UInt8),([99]:List UInt8),([100]:List UInt8)])).bind fun t18=>
   Zc (s5_1.length+t18.1.1.length≤Z8)<|
   Ziw N t18.2.1 (s5_1++t18.1.1) (IntKind.i64.wrap (n6-1))
  else
   some ((s5_1,()),(c0_1,()))
def Zi8(c0:Qe)(most1:Int):Option ((List UInt8×Unit)×(Qe×Unit)):=
 (Qa c0 (IntKind.i64.wrap (most1+1))).bind fun t10=>
 Ziw (Zhj t10.2.1 ([]:List UInt8) t10.1.1) t10.2.1 ([]:List UInt8) t10.1.1
def Wj(c0:Qe)(n1:Int):Option ((Bool×Unit)×(Qe×Unit)):=
 (Qa c0 n1).bind fun t7=>
 some ((t7.1.1==0,()),(t7.2.1,()))
def Vq(c0:Qe)(list1:List Int):Option ((Int×Unit)×(Qe×Unit)):=
 (Qa c0 (list1.length:Int)).bind fun t9=>
 Zc (0≤t9.1.1∧t9.1.1<list1.length)<|
 some ((list1.getD t9.1.1.toNat (0:Int),()),(t9.2.1,()))
def Zrr(c0:Qe):Option ((Zh×Unit)×(Qe×Unit)):=
 (Vq c0 ([(4:Int),(5:Int),(8:Int),(8:Int),(8:Int),(8:Int),(16:Int),(17:Int),(18:Int),(20:Int),(21:Int),(22:Int)])).bind fun t6=>
 (Qa t6.2.1 (8:Int)).bind fun t9=>
 (Qa t9.2.1 (12:Int)).bind fun t12=>
 (Zi8 t12.2.1 (6:Int)).bind fun t15=>
 (Wj t15.2.1 (4:Int)).bind fun t18=>
 (Qa t18.2.1 (5:Int)).bind fun t21=>
 (Qa t21.2.1 (40:Int)).bind fun t24=>
 (Qa t24.2.1 (14:Int)).bind fun t27=>
 (Wj t27.2.1 (2:Int)).bind fun t30=>
 Option.bind (Zi9 (t6.1.1,(t9.1.1,(t12.1.1,(t15.1.1,(t18.1.1,(t21.1.1,(t24.1.1,(t27.1.1,(t30.1.1,())))))))))) fun t33=>
 some ((t33.1,()),(t30.2.1,()))
abbrev Qcg:List PE:=[.box 0 71 (Kp) (.u false),.box 2 116 (Vx) (.u false),.box 4 116 (Vx) (.u false)]
def Kq(c0_1:Qe)(t2:Jp)(e4:Jp):Option ((Jp×Unit)×(Qe×Unit)):=
 (Zro e4).bind fun t53=>
 some ((t53.1,()),(c0_1,()))
abbrev Qch:List PE:=[.box 0 71 (Kp) (.u false),.box 2 116 (Vx) (.u false),.box 4 116 (Vx) (.u false),.val 46 (.bool) (.u false)]
def Zit(c0_2:Qe)(t2_1:Jp)(e4_1:Jp)(t46:Bool):Option ((Jp×Unit)×(Qe×Unit)):=
 bif t46 then
  (Qa c0_2 (5:Int)).bind fun t50=>
  Kq t50.2.1 t2_1 (e4_1.1,(e4_1.2.1,(t50.1.1,e4_1.2.2.2)))
 else
  Kq c0_2 t2_1 e4_1
def Zs5(c0:Qe):Option ((Jp×Unit)×(Qe×Unit)):=
 (Vq c0 ([(1:Int),(2:Int),(2:Int),(2:Int),(3:Int),(4:Int),(4:Int),(5:Int),(6:Int),(7:Int),(8:Int),(8:Int),(8:Int),(9:Int),(9:Int),(10:Int),(11:Int),(11:Int),(12:Int)])).bind fun t7=>
 (Qa t7.2.1 (6:Int)).bind fun t10=>
 (Qa t10.2.1 (9:Int)).bind fun t12=>
 bif t7.1.1==1 then
  (Zi7 t12.2.1 ([([98,105,100,105]:List UInt8),([117,110,105]:List UInt8)])).bind fun t19=>
  Kq t19.2.1 Zxz (t7.1.1,(t10.1.1,(t12.1.1,(t19.1.1,()))))
 else
  bif t7.1.1==2 then
   (Zi8 t12.2.1 (7:Int)).bind fun t24=>
   Zc (([97]:List UInt8).length+t24.1.1.length≤Z8)<|
   Kq t24.2.1 Zxz (t7.1.1,(t10.1.1,(t12.1.1,(([97]:List UInt8)++t24.1.1,()))))
  else
   bif t7.1.1==7 then
    (Zi7 t12.2.1 ([([117,61,49]:List UInt8),([105]:List UInt8),([117,61,53,44,32,105]:List UInt8),([120]:List UInt8)])).bind fun t31=>
    Kq t31.2.1 Zxz (t7.1.1,(t10.1.1,(t12.1.1,(t31.1.1,()))))
   else
    bif t7.1.1==8 then
     (Qa t12.2.1 (30:Int)).bind fun t36=>
     Kq t36.2.1 Zxz (t7.1.1,(t10.1.1,(IntKind.i64.wrap ((6:Int)+t36.1.1),(([]:List UInt8),()))))
    else
     bif t7.1.1==11 then
      (Zrr t12.2.1).bind fun t42=>
      (Zd5 t42.1.1).bind fun t43=>
      (Ww t43.1).bind fun t44=>
      Kq t42.2.1 Zxz (t7.1.1,(t10.1.1,(t12.1.1,(t44.1,()))))
     else
      bif t7.1.1==9 then
       Zit t12.2.1 Zxz (t7.1.1,(t10.1.1,(t12.1.1,(([]:List UInt8),())))) (t7.1.1==9)
      else
       Zit t12.2.1 Zxz (t7.1.1,(t10.1.1,(t12.1.1,(([]:List UInt8),())))) (t7.1.1==10)
abbrev Z5j:List PE:=[.val 0 (.slice 127 (Qx)) (.u false),.val 1 (.int .i64) (.u false),.box 4 127 (Qx) (.u false),.val 7 (.slice 127 (Qx)) (.u true),.val 8 (.int .i64) (.u false)]
def Zjv(K1: (List Z0×Int×Z0×List Z0×Int×Unit)→Option (Z0×List Z0×Bool×Unit))(l0_2:List Z0)(at1_2:Int)(t4_1:Z0)(out7_1:List Z0)(i8_1:Int):Option (Z0×List Z0×Bool×Unit):=
 K1 (l0_2,at1_2,t4_1,out7_1,IntKind.i64.wrap (i8_1+1),())
abbrev Z5k:List PE:=[.val 0 (.slice 127 (Qx)) (.u false),.val 1 (.int .i64) (.u false),.box 4 127 (Qx) (.u false),.val 7 (.slice 127 (Qx)) (.u true),.val 8 (.int .i64) (.u false)]
def Zim(l0_1:List Z0)(at1_1:Int)(t4:Z0)(out7:List Z0)(i8:Int):Nat:=((l0_1.length:Int)-i8).toNat+1
def Zbh:Nat→List Z0→Int→Z0→List Z0→Int→Option (Z0×List Z0×Bool×Unit)
 |0,_,_,_,_,_=>none
 |N+1,l0_1,at1_1,t4,out7,i8=>
  bif decide (i8< (l0_1.length:Int))then
   bif i8 !=at1_1 then
    Zc (0≤i8∧i8<l0_1.length)<|
    Zc (out7.length+ ([(l0_1.getD i8.toNat Qv)]).length≤Qp)<|
    Zjv (fun v=>Zbh N v.1 v.2.1 v.2.2.1 v.2.2.2.1 v.2.2.2.2.1) l0_1 at1_1 t4 (out7++ ([(l0_1.getD i8.toNat Qv)])) i8
   else
    Zjv (fun v=>Zbh N v.1 v.2.1 v.2.2.1 v.2.2.2.1 v.2.2.2.2.1) l0_1 at1_1 t4 out7 i8
  else
   Zc (0≤at1_1∧at1_1<l0_1.length)<|
   some (l0_1.getD at1_1.toNat Qv,out7,true,())
def Zpb(l0:List Z0)(at1:Int):Option (Z0×List Z0×Bool×Unit):=
 (Zx at1 (0:Int) (IntKind.i64.wrap ((l0.length:Int)- (1:Int)))).bind fun t14=>
 bif !t14.1 then
  (Yx l0).bind fun t18=>
  some (((0:Int),(([]:List UInt8),())),t18.1,false,())
 else
  Zbh (Zim l0 at1 ((0:Int),(([]:List UInt8),())) ([]:List Z0) (0:Int)) l0 at1 ((0:Int),(([]:List UInt8),())) ([]:List Z0) (0:Int)
abbrev Qg7:List PE:=[.box 0 41 (Qs) (.p (.u false) (.p (.u false) (.p (.u false) (.p (.u false) (.p (.u true) (.u false)))))),.box 6 127 (Qx) (.u false),.box 8 127 (Qx) (.u false),.val 10 (.bool) (.u false)]
def Zpg(x0_1:Z7)(t6:Z0)(t8:Z0)(is10:Bool):Option ((Z0×Bool×Unit)×(Z7×Unit)):=
 some ((t8,(is10,())),(x0_1,()))
def Znl(x0:Z7)(server1:Bool)(at2:Int):Option ((Z0×Bool×Unit)×(Z7×Unit)):=
 (Zb8 x0 server1).bind fun t16=>
 (Zpb t16.1 at2).bind fun t18=>
 bif server1 then
  Zpg (x0.1,(x0.2.1,(t18.2.1,x0.2.2.2))) ((0:Int),(([]:List UInt8),())) t18.1 t18.2.2.1
 else
  Zpg (x0.1,(x0.2.1,(x0.2.2.1,(t18.2.1,x0.2.2.2.2)))) ((0:Int),(([]:List UInt8),())) t18.1 t18.2.2.1
abbrev Qf8:List PE:=[.box 6 41 (Qs) (.u true),.box 8 41 (Qs) (.p (.u false) (.p (.u false) (.p (.u false) (.p (.u false) (.p (.u true) (.u false))))))]
def Zka(t6_1:Z7)(x8_1:Z7):Option ((Z7×Bool×Unit)×(Unit)):=
 some ((x8_1,(true,())),())
abbrev Qf9:List PE:=[.val 1 (.bool) (.u false),.box 6 41 (Qs) (.u true),.box 8 41 (Qs) (.p (.u false) (.p (.u false) (.p (.u false) (.p (.u false) (.p (.u true) (.u false)))))),.box 13 37 (Zl) (.u false)]
def X8(server1_2:Bool)(t6_2:Z7)(x8_2:Z7)(d13:Zg):Option ((Z7×Bool×Unit)×(Unit)):=
 (Zdr x8_2 (!server1_2) d13).bind fun t59=>
 Zka t6_2 t59.2.1
abbrev Qf7:List PE:=[.val 1 (.bool) (.u false),.box 3 41 (Qs) (.u false),.box 6 41 (Qs) (.u true),.box 8 41 (Qs) (.p (.u false) (.p (.u false) (.p (.u false) (.p (.u false) (.p (.u true) (.u false)))))),.box 9 127 (Qx) (.u false),.box 11 37 (Zl) (.u false),.val 12 (.int .i64) (.u false)]
def X7(server1_1:Bool)(p3:Z7)(t6:Z7)(x8:Z7)(t9:Z0)(c11:Zg)(e12:Int):Option ((Z7×Bool×Unit)×(Unit)):=
 (Zdr x8 server1_1 c11).bind fun t43=>
 bif e12==0 then
  Z6 (
   (Zdw p3 (!server1_1)).bind fun t50=>
   Z6 (
    (Zb1 t50.1 t9.1).bind fun t53=>
    Z6 (
     Z6 (
      Z6 (
       X8 server1_1 t6 t43.2.1 t53.1.1
      ) (
       Qm 1 (
        X8 server1_1 t6 t43.2.1 t53.1.1
       )
      )
     ) (
     Z6 (
      Qm 1 (
       X8 server1_1 t6 t43.2.1 t53.1.1
      )
     ) (
      Z6 (
       Qm 1 (
        X8 server1_1 t6 t43.2.1 t53.1.1
       )
      ) (
       X8 server1_1 t6 t43.2.1 t53.1.1
      )
     )
     )
    ) (
     Z6 (
      Qm 1 (
       X8 server1_1 t6 t43.2.1 t53.1.1
      )
     ) (
      X8 server1_1 t6 t43.2.1 t53.1.1
     )
    )
   ) (
    (Zb1 t50.1 t9.1).bind fun t53=>
    Z6 (
     Qm 1 (
      X8 server1_1 t6 t43.2.1 t53.1.1
     )
    ) (
     X8 server1_1 t6 t43.2.1 t53.1.1
    )
   )
  ) (
   (Zdw p3 (!server1_1)).bind fun t50=>
   (Zb1 t50.1 t9.1).bind fun t53=>
   Z6 (
    Qm 1 (
     X8 server1_1 t6 t43.2.1 t53.1.1
    )
   ) (
    X8 server1_1 t6 t43.2.1 t53.1.1
   )
  )
 else
  Zka t6 t43.2.1
def Zu2(p0:Z7)(server1:Bool)(at2:Int):Option ((Z7×Bool×Unit)×(Unit)):=
 (Zdq p0).bind fun t16=>
 (Znl t16.1 server1 at2).bind fun t20=>
 (Zgj p0).bind fun t24=>
 bif(!t24.1)|| (!t20.1.2.1)then
  (Zdq p0).bind fun t31=>
  some ((t31.1,(false,())),())
 else
  Z6 (
   (Zdw p0 server1).bind fun t35=>
   Z6 (
    (V3 t35.1 t20.1.1.2.1).bind fun t38=>
    Z6 (
     Z6 (
      Z6 (
       X7 server1 p0 Zdy t20.2.1 t20.1.1 t38.1.1 t38.1.2.1
      ) (
       Qm 1 (
        X7 server1 p0 Zdy t20.2.1 t20.1.1 t38.1.1 t38.1.2.1
       )
      )
     ) (
     Z6 (
      Qm 1 (
       X7 server1 p0 Zdy t20.2.1 t20.1.1 t38.1.1 t38.1.2.1
      )
     ) (
      Z6 (
       Qm 1 (
        X7 server1 p0 Zdy t20.2.1 t20.1.1 t38.1.1 t38.1.2.1
       )
      ) (
       X7 server1 p0 Zdy t20.2.1 t20.1.1 t38.1.1 t38.1.2.1
      )
     )
     )
    ) (
     Z6 (
      Qm 1 (
       X7 server1 p0 Zdy t20.2.1 t20.1.1 t38.1.1 t38.1.2.1
      )
     ) (
      X7 server1 p0 Zdy t20.2.1 t20.1.1 t38.1.1 t38.1.2.1
     )
    )
   ) (
    (V3 t35.1 t20.1.1.2.1).bind fun t38=>
    Z6 (
     Qm 1 (
      X7 server1 p0 Zdy t20.2.1 t20.1.1 t38.1.1 t38.1.2.1
     )
    ) (
     X7 server1 p0 Zdy t20.2.1 t20.1.1 t38.1.1 t38.1.2.1
    )
   )
  ) (
   (Zdw p0 server1).bind fun t35=>
   (V3 t35.1 t20.1.1.2.1).bind fun t38=>
   Z6 (
    Qm 1 (
     X7 server1 p0 Zdy t20.2.1 t20.1.1 t38.1.1 t38.1.2.1
    )
   ) (
    X7 server1 p0 Zdy t20.2.1 t20.1.1 t38.1.1 t38.1.2.1
   )
  )
abbrev Z7v:List PE:=[.val 0 (.slice 127 (Qx)) (.u false),.val 1 (.int .i64) (.u false),.val 5 (.int .i64) (.u false)]
def Zjr(l0_1:List Z0)(number1_1:Int)(i5:Int):Nat:=((l0_1.length:Int)-i5).toNat+1
def Zgi:Nat→List Z0→Int→Int→Option (Bool×Unit)
 |0,_,_,_=>none
 |N+1,l0_1,number1_1,i5=>
  bif decide (i5< (l0_1.length:Int))then
   Zc (0≤i5∧i5<l0_1.length)<|
   bif(l0_1.getD i5.toNat Qv).1==number1_1 then
    some (true,())
   else
    Zgi N l0_1 number1_1 (IntKind.i64.wrap (i5+1))
  else
   some (false,())
def Zwg(l0:List Z0)(number1:Int):Option (Bool×Unit):=
 Zgi (Zjr l0 number1 (0:Int)) l0 number1 (0:Int)
abbrev Qt9:List PE:=[.box 6 41 (Qs) (.u true),.box 8 41 (Qs) (.p (.u false) (.p (.u false) (.p (.u false) (.p (.u false) (.p (.u true) (.u false))))))]
def Zq8(t6:Z7)(x8:Z7):Option ((Z7×Bool×Unit)×(Unit)):=
 some ((x8,(true,())),())
abbrev Qua:List PE:=[.val 1 (.bool) (.u false),.box 6 41 (Qs) (.u true),.box 8 41 (Qs) (.p (.u false) (.p (.u false) (.p (.u false) (.p (.u false) (.p (.u true) (.u false)))))),.box 11 37 (Zl) (.u false)]
def Js(server1_1:Bool)(t6_1:Z7)(x8_1:Z7)(d11:Zg):Option ((Z7×Bool×Unit)×(Unit)):=
 (Zdr x8_1 (!server1_1) d11).bind fun t50=>
 Zq8 t6_1 t50.2.1
def Z6b(p0:Z7)(server1:Bool)(at2:Int):Option ((Z7×Bool×Unit)×(Unit)):=
 (Zdq p0).bind fun t14=>
 (Znl t14.1 server1 at2).bind fun t18=>
 (Zgj p0).bind fun t22=>
 bif(!t22.1)|| (!t18.1.2.1)then
  (Zdq p0).bind fun t29=>
  some ((t29.1,(false,())),())
 else
  (Zb8 t18.2.1 server1).bind fun t32=>
  (Zwg t32.1 t18.1.1.1).bind fun t35=>
  bif !t35.1 then
   Z6 (
    (Zdw p0 (!server1)).bind fun t41=>
    Z6 (
     (Zai t41.1 t18.1.1.1).bind fun t44=>
     Z6 (
      Z6 (
       Z6 (
        Js server1 Zdy t18.2.1 t44.1.1
       ) (
        Qm 1 (
         Js server1 Zdy t18.2.1 t44.1.1
        )
       )
      ) (
      Z6 (
       Qm 1 (
        Js server1 Zdy t18.2.1 t44.1.1
       )
      ) (
       Z6 (
        Qm 1 (
         Js server1 Zdy t18.2.1 t44.1.1
        )
       ) (
        Js server1 Zdy t18.2.1 t44.1.1
       )
      )
      )
     ) (
      Z6 (
       Qm 1 (
        Js server1 Zdy t18.2.1 t44.1.1
       )
      ) (
       Js server1 Zdy t18.2.1 t44.1.1
      )
     )
    ) (
     (Zai t41.1 t18.1.1.1).bind fun t44=>
     Z6 (
      Qm 1 (
       Js server1 Zdy t18.2.1 t44.1.1
      )
     ) (
      Js server1 Zdy t18.2.1 t44.1.1
     )
    )
   ) (
    (Zdw p0 (!server1)).bind fun t41=>
    (Zai t41.1 t18.1.1.1).bind fun t44=>
    Z6 (
     Qm 1 (
      Js server1 Zdy t18.2.1 t44.1.1
     )
    ) (
     Js server1 Zdy t18.2.1 t44.1.1
    )
   )
  else
   Zq8 Zdy t18.2.1
def Zoy(l0:List Z0)(at1:Int):Option (List Z0×Bool×Unit):=
 (Zx at1 (0:Int) (IntKind.i64.wrap ((l0.length:Int)- (1:Int)))).bind fun t12=>
 bif !t12.1 then
  (Yx l0).bind fun t15=>
  some (t15.1,false,())
 else
  Zc (0≤at1∧at1<l0.length)<|
  (Zmi l0 (l0.getD at1.toNat Qv)).bind fun t22=>
  some (t22.1,t22.2.1,())
abbrev Z7r:List PE:=[.box 6 41 (Qs) (.u true),.box 8 41 (Qs) (.u true)]
def Zlo(t6:Z7)(x8:Z7):Option (Z7×Bool×Unit):=
 some (x8,true,())
def Zq9(p0:Z7)(server1:Bool)(at2:Int):Option (Z7×Bool×Unit):=
 (Zdq p0).bind fun t12=>
 (Zb8 p0 server1).bind fun t16=>
 (Zoy t16.1 at2).bind fun t18=>
 (Zgj p0).bind fun t22=>
 bif(!t22.1)|| (!t18.2.1)then
  some (t12.1,false,())
 else
  bif server1 then
   Zlo Zdy (t12.1.1,(t12.1.2.1,(t18.1,t12.1.2.2.2)))
  else
   Zlo Zdy (t12.1.1,(t12.1.2.1,(t12.1.2.2.1,(t18.1,t12.1.2.2.2.2))))
abbrev Qg6:List PE:=[.box 0 71 (Kp) (.u false),.box 3 41 (Qs) (.u false),.box 4 41 (Qs) (.u true),.val 5 (.bool) (.u false),.box 6 41 (Qs) (.u false),.val 12 (.int .i64) (.u false),.val 40 (.bool) (.u false)]
def Zku(c0_3:Qe)(p3_2:Z7)(t4_2:Z7)(side5_2:Bool)(x6_2:Z7)(t12_3:Int)(t40:Bool):Option ((Z7×Unit)×(Qe×Unit)):=
 bif t40 then
  (Qa c0_3 (3:Int)).bind fun t47=>
  (Zu2 p3_2 side5_2 t47.1.1).bind fun t48=>
  Z6 (
   Qm 1 (
    some ((t48.1.1,()),(t47.2.1,()))
   )
  ) (
   some ((t48.1.1,()),(t47.2.1,()))
  )
 else
  bif t12_3==8 then
   (Qa c0_3 (3:Int)).bind fun t57=>
   (Z6b p3_2 side5_2 t57.1.1).bind fun t58=>
   Z6 (
    Qm 1 (
     some ((t58.1.1,()),(t57.2.1,()))
    )
   ) (
    some ((t58.1.1,()),(t57.2.1,()))
   )
  else
   bif t12_3==9 then
    (Qa c0_3 (3:Int)).bind fun t67=>
    (Zq9 p3_2 side5_2 t67.1.1).bind fun t68=>
    Z6 (
     Qm 1 (
      some ((t68.1,()),(t67.2.1,()))
     )
    ) (
     some ((t68.1,()),(t67.2.1,()))
    )
   else
    none
abbrev Qg5:List PE:=[.box 0 71 (Kp) (.u false),.box 3 41 (Qs) (.u false),.box 4 41 (Qs) (.u true),.val 5 (.bool) (.u false),.box 6 41 (Qs) (.u false),.val 12 (.int .i64) (.u false),.val 26 (.bool) (.u false)]
def Zf0(c0_2:Qe)(p3_1:Z7)(t4_1:Z7)(side5_1:Bool)(x6_1:Z7)(t12_2:Int)(t26:Bool):Option ((Z7×Unit)×(Qe×Unit)):=
 bif t26 then
  (Qa c0_2 (40:Int)).bind fun t34=>
  (Ze3 p3_1 side5_1 ((8:Int),((0:Int),(IntKind.i64.wrap ((8:Int)+t34.1.1),(([]:List UInt8),()))))).bind fun t37=>
  Qm 1 (
   some ((t37.1.2.1,()),(t34.2.1,()))
  )
 else
  bif t12_2==6 then
   Zku c0_2 p3_1 t4_1 side5_1 x6_1 t12_2 (t12_2==6)
  else
   Zku c0_2 p3_1 t4_1 side5_1 x6_1 t12_2 (t12_2==7)
abbrev Qg4:List PE:=[.box 0 71 (Kp) (.u false),.box 3 41 (Qs) (.u false),.box 4 41 (Qs) (.u true),.val 5 (.bool) (.u false),.box 6 41 (Qs) (.u false),.val 12 (.int .i64) (.u false),.val 13 (.bool) (.u false)]
def Zfz(c0_1:Qe)(p3:Z7)(t4:Z7)(side5:Bool)(x6:Z7)(t12_1:Int)(t13:Bool):Option ((Z7×Unit)×(Qe×Unit)):=
 bif t13 then
  (Zs5 c0_1).bind fun t18=>
  (Ze3 p3 side5 t18.1.1).bind fun t23=>
  some ((t23.1.2.1,()),(t18.2.1,()))
 else
  bif t12_1==3 then
   Zf0 c0_1 p3 t4 side5 x6 t12_1 (t12_1==3)
  else
   bif t12_1==4 then
    Zf0 c0_1 p3 t4 side5 x6 t12_1 (t12_1==4)
   else
    Zf0 c0_1 p3 t4 side5 x6 t12_1 (t12_1==5)
def Zvg(c0:Qe)(p1:Z7):Option ((Z7×Unit)×(Qe×Unit)):=
 (Wj c0 (2:Int)).bind fun t9=>
 (Qa t9.2.1 (10:Int)).bind fun t12=>
 bif t12.1.1==0 then
  Zfz t12.2.1 p1 Zdy t9.1.1 p1 t12.1.1 (t12.1.1==0)
 else
  bif t12.1.1==1 then
   Zfz t12.2.1 p1 Zdy t9.1.1 p1 t12.1.1 (t12.1.1==1)
  else
   Zfz t12.2.1 p1 Zdy t9.1.1 p1 t12.1.1 (t12.1.1==2)
end Go.Proofs.YtplcdmnbgcgdfaaGreatDoor

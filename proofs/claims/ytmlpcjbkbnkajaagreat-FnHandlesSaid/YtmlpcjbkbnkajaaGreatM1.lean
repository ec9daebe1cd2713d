/- FnHandles: what the functions that it reaches compute, as plain functions, part 1. No condition. -/
import Derived.Test.YtmlpcjbkbnkajaaGreatRows
import Derived.Test.YtmlpcjbkbnkajaaGreatAm6
import Derived.Test.YtmlpcjbkbnkajaaGreatShelf
import Derived.Lib.AppendIntMem
import Derived.Lib.SplitLaws
import Derived.Lib.IndexMore
import Derived.Lib.Atoi
import Derived.Lib.AtoiBound
import Derived.Lib.Join
import Derived.Lib.ItoaNum
import Derived.Lib.ItoaLen
noncomputable section
namespace Go.Proofs.YtmlpcjbkbnkajaaGreat
open Go.Am
set_option maxRecDepth 100000
set_option linter.unusedVariables false
abbrev Yz:Ty:= .pair (.int .i64) (.pair (.bool) (.unit))
abbrev Xf:Type:=Int×Bool×Unit
abbrev Zhj:Ty:= .pair (.int .i64) (.pair (.str) (.unit))
abbrev Z0:Type:=Int×List UInt8×Unit
def Qc:Z0:=((0:Int),(([]:List UInt8),()))
abbrev Zw:Ty:= .pair (.int .i64) (.pair (.int .i64) (.unit))
abbrev Ze:Type:=Int×Int×Unit
def Zy:Ze:=((0:Int),((0:Int),()))
abbrev Zcs:Ty:= .pair (.int .i64) (Zw)
abbrev Zbm:Type:=Int×Ze
def Zon:Zbm:=((0:Int),((0:Int),((0:Int),())))
abbrev Zb5:Ty:= .pair (.int .i64) (.pair (.str) (.pair (.bool) (.unit)))
abbrev Ks:Type:=Int×List UInt8×Bool×Unit
def Zqa:Ks:=((0:Int),(([]:List UInt8),(false,())))
abbrev Zct:Ty:= .pair (.slice 5 (.int .u8)) (Zw)
abbrev Qx:Type:=List Int×Ze
abbrev Qu:Ty:= .pair (.int .i64) (Zcs)
abbrev Q0:Type:=Int×Zbm
def Qyr:Q0:=((0:Int),((0:Int),((0:Int),((0:Int),()))))
abbrev Xe:Ty:= .pair (.int .i64) (.pair (Yz) (.unit))
abbrev Zz:Type:=Int×Xf×Unit
def Jd:Zz:=((0:Int),(((0:Int),(false,())),()))
abbrev Qw:Ty:= .pair (.int .i64) (.pair (.slice 158 (Zhj)) (.unit))
abbrev Zq:Type:=Int×List Z0×Unit
def Qlw:Zq:=((0:Int),(([]:List Z0),()))
abbrev Vj:Ty:= .pair (.int .i64) (.pair (.int .i64) (.pair (.int .i64) (.pair (.slice 3 (.int .i64)) (.unit))))
abbrev Yj:Type:=Int×Int×Int×List Int×Unit
def Qsm:Yj:=((0:Int),((0:Int),((0:Int),(([]:List Int),()))))
abbrev Yf:Ty:= .pair (.int .i64) (.pair (.int .i64) (Qu))
abbrev Qq:Type:=Int×Int×Q0
def Qlx:Qq:=((0:Int),((0:Int),((0:Int),((0:Int),((0:Int),((0:Int),()))))))
abbrev Zks:Ty:= .pair (.int .i64) (.pair (.int .i64) (Yf))
abbrev Zfp:Type:=Int×Int×Qq
abbrev Zx:Ty:= .pair (.int .i64) (.pair (.int .i64) (.pair (.int .i64) (.pair (.str) (.pair (.bool) (.pair (.int .i64) (.pair (.int .i64) (Yz)))))))
abbrev Zl:Type:=Int×Int×Int×List UInt8×Bool×Int×Int×Xf
def Zcj:Zl:=((0:Int),((0:Int),((0:Int),(([]:List UInt8),(false,((0:Int),((0:Int),((0:Int),(false,())))))))))
abbrev Z7:Ty:= .pair (.int .i64) (.pair (Qw) (Zcs))
abbrev Zr:Type:=Int×Zq×Zbm
def Zmt:Zr:=((0:Int),(((0:Int),(([]:List Z0),())),((0:Int),((0:Int),((0:Int),())))))
abbrev Y1:Ty:= .pair (.int .i64) (.pair (.slice 39 (Zx)) (.unit))
abbrev Z8:Type:=Int×List Zl×Unit
def Qg:Z8:=((0:Int),(([]:List Zl),()))
abbrev Z4:Ty:= .pair (.int .i64) (.pair (Vj) (.pair (.slice 167 (Zw)) (.pair (.slice 167 (Zw)) (.pair (.slice 167 (Zw)) (Qu)))))
abbrev Zo:Type:=Int×Yj×List Ze×List Ze×List Ze×Q0
def Zak:Zo:=((0:Int),(((0:Int),((0:Int),((0:Int),(([]:List Int),())))),(([]:List Ze),(([]:List Ze),(([]:List Ze),((0:Int),((0:Int),((0:Int),((0:Int),())))))))))
abbrev Zu:Ty:= .pair (.int .i64) (.pair (Z4) (.pair (Qu) (.pair (Z7) (.pair (Yf) (.pair (Yz) (.pair (.bool) (.pair (.bool) (.pair (.bool) (.pair (.bool) (.pair (.bool) (.pair (.bool) (Yz))))))))))))
abbrev Zd:Type:=Int×Zo×Q0×Zr×Qq×Xf×Bool×Bool×Bool×Bool×Bool×Bool×Xf
def Zh:Zd:=((0:Int),(((0:Int),(((0:Int),((0:Int),((0:Int),(([]:List Int),())))),(([]:List Ze),(([]:List Ze),(([]:List Ze),((0:Int),((0:Int),((0:Int),((0:Int),()))))))))),(((0:Int),((0:Int),((0:Int),((0:Int),())))),(((0:Int),(((0:Int),(([]:List Z0),())),((0:Int),((0:Int),((0:Int),()))))),(((0:Int),((0:Int),((0:Int),((0:Int),((0:Int),((0:Int),())))))),(((0:Int),(false,())),(false,(false,(false,(false,(false,(false,((0:Int),(false,()))))))))))))))
abbrev Zp:Ty:= .pair (.bool) (.pair (Zks) (.pair (Zks) (.pair (.slice 72 (Zu)) (.pair (Qu) (.pair (Yf) (.pair (Zcs) (.pair (Zcs) (.pair (Qu) (.pair (Qu) (.pair (.bool) (.pair (.bool) (.pair (.bool) (.pair (.int .i64) (.pair (.int .i64) (.pair (.slice 130 (Y1)) (Zw))))))))))))))))
abbrev Zg:Type:=Bool×Zfp×Zfp×List Zd×Q0×Qq×Zbm×Zbm×Q0×Q0×Bool×Bool×Bool×Int×Int×List Z8×Ze
def Wt:Zg:=(false,(((0:Int),((0:Int),((0:Int),((0:Int),((0:Int),((0:Int),((0:Int),((0:Int),())))))))),(((0:Int),((0:Int),((0:Int),((0:Int),((0:Int),((0:Int),((0:Int),((0:Int),())))))))),(([]:List Zd),(((0:Int),((0:Int),((0:Int),((0:Int),())))),(((0:Int),((0:Int),((0:Int),((0:Int),((0:Int),((0:Int),())))))),(((0:Int),((0:Int),((0:Int),()))),(((0:Int),((0:Int),((0:Int),()))),(((0:Int),((0:Int),((0:Int),((0:Int),())))),(((0:Int),((0:Int),((0:Int),((0:Int),())))),(false,(false,(false,((0:Int),((0:Int),(([]:List Z8),((0:Int),((0:Int),()))))))))))))))))))
def Qod(code0:List Int):Option (Bool×Unit):=some (decide ((code0.length:Int)>(1048576:Int)),())
abbrev Qk9:List PE:=[.val 0 (.slice 5 (.int .u8)) (.u false),.val 3 (.int .i64) (.u false),.val 4 (.int .i64) (.u false)]
def Zol(code0_1:List Int)(h3:Int)(i4:Int):Nat:=((code0_1.length:Int)-i4).toNat+1
def Znj:Nat->List Int->Int->Int->Option ((Qx)×(Unit))|0,_,_,_=>none|N+1,code0_1,h3,i4=>bif(decide (i4< (code0_1.length:Int)))&& (decide (i4< (4000:Int)))then Zi (0<=i4/\i4<code0_1.length)<|Znj N code0_1 (bits .and .i64 (IntKind.i64.wrap ((IntKind.i64.wrap ((IntKind.i64.wrap (h3*131))+ (IntKind.i64.wrap (code0_1.getD i4.toNat (0:Int)))))+7)) (1073741823:Int)) (IntKind.i64.wrap (i4+1)) else some ((code0_1,((0:Int),(h3,()))),())
def Zqt(code0:List Int):Option ((Qx)×(Unit)):=
 let t7:Int:=IntKind.i64.wrap ((10101:Int)+ (code0.length:Int))
 Znj (Zol code0 t7 (0:Int)) code0 t7 (0:Int)
def Zi5(c0:Qx):Option ((Int×Unit)×(Qx×Unit)):=
 let t10:Int:=IntKind.i64.wrap ((IntKind.i64.wrap (c0.2.2.1*6364136223846793005))+1442695040888963407)
 Zi (0<=(33:Int))<|
 Zi (0<=(45:Int))<|
 let t24:Int:=bits .and .i64 (bits .xor .i64 (t10.fdiv (2^ (min (33:Int).toNat IntKind.i64.bits))) (t10.fdiv (2^ (min (45:Int).toNat IntKind.i64.bits)))) (255:Int)
 bif decide (c0.2.1< (c0.1.length:Int))then
  Zi (0<=c0.2.1/\c0.2.1<c0.1.length)<|
  some ((bits .and .i64 (IntKind.i64.wrap (t24+ (IntKind.i64.wrap (c0.1.getD c0.2.1.toNat (0:Int))))) (255:Int),()),((c0.1,(IntKind.i64.wrap (c0.2.1+1),(t10,c0.2.2.2))),()))
 else
  some ((t24,()),((c0.1,(c0.2.1,(t10,c0.2.2.2))),()))
def Qm(c0:Qx)(n1:Int):Option ((Int×Unit)×(Qx×Unit)):=bif decide (n1<=(0:Int))then some (((0:Int),()),(c0,())) else bif decide (n1<=(256:Int))then (Zi5 c0).bind fun t14=>Zi (n1≠0)<|some ((Int.tmod t14.1.1 n1,()),(t14.2.1,())) else (Zi5 c0).bind fun t18=>(Zi5 t18.2.1).bind fun t20=>(Zi5 t20.2.1).bind fun t22=>(Zi5 t22.2.1).bind fun t24=>Zi (n1≠0)<|some ((Int.tmod (IntKind.i64.wrap ((IntKind.i64.wrap ((IntKind.i64.wrap ((IntKind.i64.wrap (t18.1.1*16777216))+ (IntKind.i64.wrap (t20.1.1*65536))))+ (IntKind.i64.wrap (t22.1.1*256))))+t24.1.1)) n1,()),(t24.2.1,()))
def Ws(c0:Qx)(n1:Int):Option ((Bool×Unit)×(Qx×Unit)):=(Qm c0 n1).bind fun t7=>some ((t7.1.1==0,()),(t7.2.1,()))
def Zqs:Option (Zfp×Unit):=some (((16:Int),((8:Int),((32:Int),((16:Int),((64:Int),((2:Int),((2:Int),((4:Int),())))))))),())
def Zml(c0:Qx):Option ((Zfp×Unit)×(Qx×Unit)):=Option.bind Zqs fun t4=>(Qm c0 (3:Int)).bind fun t6=>bif t6.1.1==0 then some ((((8:Int),((4:Int),(t4.1.2.2.1,((6:Int),(t4.1.2.2.2.2.1,((1:Int),t4.1.2.2.2.2.2.2)))))),()),(t6.2.1,())) else bif t6.1.1==1 then some (((t4.1.1,(t4.1.2.1,(t4.1.2.2.1,(t4.1.2.2.2.1,(t4.1.2.2.2.2.1,((3:Int),((1:Int),((2:Int),t4.1.2.2.2.2.2.2.2.2)))))))),()),(t6.2.1,())) else some ((t4.1,()),(t6.2.1,()))
def Jl(n0:Int):Option (Bool×Unit):=some (((decide (n0>(0:Int)))&& (decide (n0<=(64:Int))))&& ((bits .and .i64 n0 (IntKind.i64.wrap (n0-1)))==0),())
def Z5(x0:Int)(low1:Int)(high2:Int):Option (Bool×Unit):=some ((decide (x0>=low1))&& (decide (x0<=high2)),())
def Vm(c0:Zfp):Option (Bool×Unit):=
 (Jl c0.1).bind fun t5=>
 (bif t5.1 then(Z5 c0.2.2.1 (1:Int) (4096:Int))else some (false,())).bind fun t9=>
 (bif(t5.1&&t9.1)then(Z5 c0.2.1 (1:Int) c0.2.2.1)else some (false,())).bind fun t16=>
 (bif((t5.1&&t9.1)&&t16.1)then(Z5 c0.2.2.2.2.1 (1:Int) (4096:Int))else some (false,())).bind fun t21=>
 let t22:Bool:=((t5.1&&t9.1)&&t16.1)&&t21.1
 (bif t22 then(Z5 c0.2.2.2.1 (1:Int) c0.2.2.2.2.1)else some (false,())).bind fun t28=>
 (bif(t22&&t28.1)then(Z5 c0.2.2.2.2.2.1 (0:Int) (1000:Int))else some (false,())).bind fun t33=>
 (bif((t22&&t28.1)&&t33.1)then(Z5 c0.2.2.2.2.2.2.1 (0:Int) (1000:Int))else some (false,())).bind fun t38=>
 let t39:Bool:=((t22&&t28.1)&&t33.1)&&t38.1
 (bif t39 then(Z5 c0.2.2.2.2.2.2.2.1 (1:Int) (1000:Int))else some (false,())).bind fun t43=>
 some (t39&&t43.1,())
def Qf(n0:Int):Option (Bool×Unit):=(Z5 n0 (0:Int) (4611686018427387903:Int)).bind fun t4=>some (t4.1,())
def Zcc(limit0:Int):Option (Q0×Bool×Unit):=(Qf limit0).bind fun t5=>bif !t5.1 then some (Qyr,false,()) else some ((limit0,((0:Int),((-1:Int),((-1:Int),())))),true,())
def Zce(size0:Int)(most1:Int):Option (Qq×Bool×Unit):=(Z5 most1 (1:Int) (4096:Int)).bind fun t7=>(bif(!t7.1)then some (false,())else(Z5 size0 (1:Int) most1)).bind fun t12=>bif(!t7.1)|| (!t12.1)then some (Qlx,false,()) else some ((size0,(most1,(size0,Zon))),true,())
def Zra(limit0:Int):Option (Zbm×Bool×Unit):=(Z5 limit0 (0:Int) (1152921504606846976:Int)).bind fun t5=>bif !t5.1 then some (Zon,false,()) else some ((limit0,((0:Int),((-1:Int),()))),true,())
def Zq9(most0:Int):Option (Q0×Bool×Unit):=(Z5 most0 (0:Int) (1000:Int)).bind fun t5=>bif !t5.1 then some (Qyr,false,()) else some ((most0,(most0,((0:Int),((0:Int),())))),true,())
def Zmi(server0:Bool)(own1:Zfp)(peer2:Zfp):Option (Zg×Bool×Unit):=(Vm own1).bind fun t22=>(bif(!t22.1)then some (false,())else(Vm peer2)).bind fun t26=>bif(!t22.1)|| (!t26.1)then some (Wt,false,()) else (Zcc peer2.2.2.2.1).bind fun t37=>(Zce own1.2.2.2.1 own1.2.2.2.2.1).bind fun t47=>(Zra peer2.2.2.2.2.2.1).bind fun t55=>(Zra peer2.2.2.2.2.2.2.1).bind fun t63=>(Zq9 own1.2.2.2.2.2.1).bind fun t71=>(Zq9 own1.2.2.2.2.2.2.1).bind fun t79=>some ((server0,(own1,(peer2,(([]:List Zd),(t37.1,(t47.1,(t55.1,(t63.1,(t71.1,(t79.1,(false,(false,(false,((-1:Int),((0:Int),(([]:List Z8),((0:Int),((0:Int),())))))))))))))))))),true,())
def Zoy(r0:Yj):Option (Yj×Unit):=Zi (([]:List Int).length+r0.2.2.2.1.length<=Qo)<|some ((r0.1,(r0.2.1,(r0.2.2.1,(([]:List Int)++r0.2.2.2.1,())))),())
def Zi7(l0:List Ze):Option (List Ze×Unit):=Zi (([]:List Ze).length+l0.length<=Qo)<|some (([]:List Ze)++l0,())
def Zci(s0:Zo):Option (Zo×Unit):=(Zoy s0.2.1).bind fun t7=>(Zi7 s0.2.2.1).bind fun t10=>(Zi7 s0.2.2.2.1).bind fun t13=>(Zi7 s0.2.2.2.2.1).bind fun t16=>some ((s0.1,(t7.1,(t10.1,(t13.1,(t16.1,(s0.2.2.2.2.2.1,(s0.2.2.2.2.2.2.1,(s0.2.2.2.2.2.2.2.1,(s0.2.2.2.2.2.2.2.2.1,()))))))))),())
def Zi8(b0:Zq):Option (Zq×Unit):=Zi (([]:List Z0).length+b0.2.1.length<=Qo)<|some ((b0.1,(([]:List Z0)++b0.2.1,())),())
def Zgi(r0:Zr):Option (Zr×Unit):=(Zi8 r0.2.1).bind fun t7=>some ((r0.1,(t7.1,(r0.2.2.1,(r0.2.2.2.1,(r0.2.2.2.2.1,()))))),())
def Zag(s0:Zd):Option (Zd×Unit):=(Zci s0.2.1).bind fun t7=>(Zgi s0.2.2.2.1).bind fun t11=>some ((s0.1,(t7.1,(s0.2.2.1,(t11.1,s0.2.2.2.2)))),())
abbrev Z3x:List PE:=[.val 0 (.slice 130 (Y1)) (.u false),.val 3 (.slice 130 (Y1)) (.u true),.val 4 (.int .i64) (.u false)]
def Ziu(l0_1:List Z8)(out3:List Z8)(i4:Int):Nat:=((l0_1.length:Int)-i4).toNat+1
def Zev:Nat->List Z8->List Z8->Int->Option (List Z8×Unit)
 |0,_,_,_=>none
 |N+1,l0_1,out3,i4=>
  bif decide (i4< (l0_1.length:Int))then
   Zi (0<=i4/\i4<l0_1.length)<|
   Zi (0<=i4/\i4<l0_1.length)<|
   Zi (([]:List Zl).length+ (l0_1.getD i4.toNat Qg).2.1.length<=Qo)<|
   let t26:List Z8:=[((l0_1.getD i4.toNat Qg).1,(([]:List Zl)++ (l0_1.getD i4.toNat Qg).2.1,()))]
   Zi (out3.length+t26.length<=Qo)<|
   Zev N l0_1 (out3++t26) (IntKind.i64.wrap (i4+1))
  else
   some (out3,())
def Zn3(l0:List Z8):Option (List Z8×Unit):=Zev (Ziu l0 ([]:List Z8) (0:Int)) l0 ([]:List Z8) (0:Int)
abbrev Qeb:List PE:=[.box 1 37 (Zp) (.u false),.box 2 37 (Zp) (.u true),.box 3 37 (Zp) (.p (.u false) (.p (.u false) (.p (.u false) (.p (.u true) (.u false))))),.val 4 (.int .i64) (.u false)]
def Zly(c1:Zg)(t2:Zg)(x3:Zg)(i4:Int):Nat:=((c1.2.2.2.1.length:Int)-i4).toNat+1
def Zcz:Nat->Zg->Zg->Zg->Int->Option (Zg×Unit)|0,_,_,_,_=>none|N+1,c1,t2,x3,i4=>bif decide (i4< (c1.2.2.2.1.length:Int))then Zi (0<=i4/\i4<c1.2.2.2.1.length)<|(Zag (c1.2.2.2.1.getD i4.toNat Zh)).bind fun t21=>Zi (x3.2.2.2.1.length+ ([t21.1]).length<=Qo)<|Zcz N c1 t2 (x3.1,(x3.2.1,(x3.2.2.1,(x3.2.2.2.1++ ([t21.1]),x3.2.2.2.2)))) (IntKind.i64.wrap (i4+1)) else (Zn3 c1.2.2.2.2.2.2.2.2.2.2.2.2.2.2.2.1).bind fun t30=>some ((x3.1,(x3.2.1,(x3.2.2.1,(x3.2.2.2.1,(x3.2.2.2.2.1,(x3.2.2.2.2.2.1,(x3.2.2.2.2.2.2.1,(x3.2.2.2.2.2.2.2.1,(x3.2.2.2.2.2.2.2.2.1,(x3.2.2.2.2.2.2.2.2.2.1,(x3.2.2.2.2.2.2.2.2.2.2.1,(x3.2.2.2.2.2.2.2.2.2.2.2.1,(x3.2.2.2.2.2.2.2.2.2.2.2.2.1,(x3.2.2.2.2.2.2.2.2.2.2.2.2.2.1,(x3.2.2.2.2.2.2.2.2.2.2.2.2.2.2.1,(t30.1,x3.2.2.2.2.2.2.2.2.2.2.2.2.2.2.2.2)))))))))))))))),())
def Z6(c0:Zg):Option (Zg×Unit):=Zcz (Zly c0 Wt (c0.1,(c0.2.1,(c0.2.2.1,(([]:List Zd),c0.2.2.2.2)))) (0:Int)) c0 Wt (c0.1,(c0.2.1,(c0.2.2.1,(([]:List Zd),c0.2.2.2.2)))) (0:Int)
abbrev Qht:List PE:=[.box 1 65 (Vj) (.u false),.val 3 (.int .i64) (.u false)]
def Vi(r1:Yj)(i3:Int):Nat:=((r1.2.2.2.1.length:Int)-i3).toNat+1
def Zep:Nat->Yj->Int->Option (Bool×Unit)|0,_,_=>none|N+1,r1,i3=>bif decide (i3< (r1.2.2.2.1.length:Int))then Zi (0<=i3/\i3<r1.2.2.2.1.length)<|(Z5 (r1.2.2.2.1.getD i3.toNat (0:Int)) (0:Int) (255:Int)).bind fun t55=>bif !t55.1 then some (false,()) else Zep N r1 (IntKind.i64.wrap (i3+1)) else some (true,())
def Vn(r0:Yj):Option (Bool×Unit):=(Jl r0.1).bind fun t6=>bif(((((!t6.1)|| ((r0.2.2.2.1.length:Int) !=r0.1))|| (decide (r0.2.1< (0:Int))))|| (decide (r0.2.2.1<r0.2.1)))|| (decide ((IntKind.i64.wrap (r0.2.2.1-r0.2.1))>r0.1)))|| (decide (r0.2.2.1>(4611686018427387903:Int)))then some (false,()) else Zep (Vi r0 (0:Int)) r0 (0:Int)
def Zr0(r0:Ze):Option (Bool×Unit):=some (((decide (r0.1>=(0:Int)))&& (decide (r0.1<r0.2.1)))&& (decide (r0.2.1<=(4611686018427387903:Int))),())
abbrev Z96:List PE:=[.val 0 (.slice 167 (Zw)) (.u false),.val 3 (.int .i64) (.u false)]
def Zbi(l0_1:List Ze)(i3:Int):Nat:=((l0_1.length:Int)-i3).toNat+1
def Wq:Nat->List Ze->Int->Option (Bool×Unit)|0,_,_=>none|N+1,l0_1,i3=>bif decide (i3< (l0_1.length:Int))then Zi (0<=i3/\i3<l0_1.length)<|(Zr0 (l0_1.getD i3.toNat Zy)).bind fun t14=>Zi (((!t14.1)=false->((decide (i3>(0:Int)))=true->(0<=(IntKind.i64.wrap (i3-1))/\(IntKind.i64.wrap (i3-1))<l0_1.length))))<|Zi (((!t14.1)=false->((decide (i3>(0:Int)))=true->(0<=i3/\i3<l0_1.length))))<|bif(!t14.1)|| ((decide (i3>(0:Int)))&& (decide ((l0_1.getD (IntKind.i64.wrap (i3-1)).toNat Zy).2.1>=(l0_1.getD i3.toNat Zy).1)))then some (false,()) else Wq N l0_1 (IntKind.i64.wrap (i3+1)) else some (true,())
def Kz(l0:List Ze):Option (Bool×Unit):=Wq (Zbi l0 (0:Int)) l0 (0:Int)
abbrev Z9z:List PE:=[.val 0 (.slice 167 (Zw)) (.u false),.box 3 167 (Zw) (.u false),.val 5 (.slice 167 (Zw)) (.u true),.val 6 (.bool) (.u false),.val 7 (.int .i64) (.u false)]
def Wm(K1: (List Ze×Ze×List Ze×Bool×Int×Unit)->Option (List Ze×Unit))(l0_2:List Ze)(r3_1:Ze)(out5_1:List Ze)(placed6_1:Bool)(i7_1:Int):Option (List Ze×Unit):=K1 (l0_2,r3_1,out5_1,placed6_1,IntKind.i64.wrap (i7_1+1),())
abbrev Z90:List PE:=[.val 0 (.slice 167 (Zw)) (.u false),.box 3 167 (Zw) (.u false),.val 5 (.slice 167 (Zw)) (.u true),.val 6 (.bool) (.u false),.val 7 (.int .i64) (.u false)]
def Zia(K1: (List Ze×Ze×List Ze×Bool×Int×Unit)->Option (List Ze×Unit))(l0_3:List Ze)(r3_2:Ze)(out5_2:List Ze)(placed6_2:Bool)(i7_2:Int):Option (List Ze×Unit):=Zi (0<=i7_2/\i7_2<l0_3.length)<|Zi (out5_2.length+ ([(l0_3.getD i7_2.toNat Zy)]).length<=Qo)<|Wm K1 l0_3 r3_2 (out5_2++ ([(l0_3.getD i7_2.toNat Zy)])) placed6_2 i7_2
abbrev Z91:List PE:=[.val 0 (.slice 167 (Zw)) (.u false),.box 3 167 (Zw) (.u false),.val 5 (.slice 167 (Zw)) (.u true),.val 6 (.bool) (.u false),.val 7 (.int .i64) (.u false)]
def Ze1(l0_1:List Ze)(r3:Ze)(out5:List Ze)(placed6:Bool)(i7:Int):Nat:=((l0_1.length:Int)-i7).toNat+1
def Yl:Nat->List Ze->Ze->List Ze->Bool->Int->Option (List Ze×Unit)|0,_,_,_,_,_=>none|N+1,l0_1,r3,out5,placed6,i7=>bif decide (i7< (l0_1.length:Int))then Zi (0<=i7/\i7<l0_1.length)<|bif decide ((l0_1.getD i7.toNat Zy).2.1<r3.1)then Zi (0<=i7/\i7<l0_1.length)<|Zi (out5.length+ ([(l0_1.getD i7.toNat Zy)]).length<=Qo)<|Wm (fun v=>Yl N v.1 v.2.1 v.2.2.1 v.2.2.2.1 v.2.2.2.2.1) l0_1 r3 (out5++ ([(l0_1.getD i7.toNat Zy)])) placed6 i7 else Zi (0<=i7/\i7<l0_1.length)<|bif decide ((l0_1.getD i7.toNat Zy).1>r3.2.1)then bif !placed6 then Zi (out5.length+ ([r3]).length<=Qo)<|Zia (fun v=>Yl N v.1 v.2.1 v.2.2.1 v.2.2.2.1 v.2.2.2.2.1) l0_1 r3 (out5++ ([r3])) true i7 else Zia (fun v=>Yl N v.1 v.2.1 v.2.2.1 v.2.2.2.1 v.2.2.2.2.1) l0_1 r3 out5 placed6 i7 else Zi (0<=i7/\i7<l0_1.length)<|Zi (0<=i7/\i7<l0_1.length)<|Wm (fun v=>Yl N v.1 v.2.1 v.2.2.1 v.2.2.2.1 v.2.2.2.2.1) l0_1 (min r3.1 (l0_1.getD i7.toNat Zy).1,(max r3.2.1 (l0_1.getD i7.toNat Zy).2.1,r3.2.2)) out5 placed6 i7 else bif !placed6 then Zi (out5.length+ ([r3]).length<=Qo)<|some (out5++ ([r3]),()) else some (out5,())
def Wy(l0:List Ze)(r1:Ze):Option (List Ze×Unit):=(Kz l0).bind fun t9=>(bif(!t9.1)then some (false,())else(Zr0 r1)).bind fun t13=>bif(!t9.1)|| (!t13.1)then (Zi7 l0).bind fun t17=>some (t17.1,()) else Yl (Ze1 l0 r1 ([]:List Ze) false (0:Int)) l0 r1 ([]:List Ze) false (0:Int)
abbrev Zzo:List PE:=[.val 0 (.slice 167 (Zw)) (.u false),.val 3 (.int .i64) (.u false),.val 4 (.int .i64) (.u false)]
def Za5(l0_1:List Ze)(n3:Int)(i4:Int):Nat:=((l0_1.length:Int)-i4).toNat+1
def Kk:Nat->List Ze->Int->Int->Option (Int×Unit)|0,_,_,_=>none|N+1,l0_1,n3,i4=>bif decide (i4< (l0_1.length:Int))then Zi (0<=i4/\i4<l0_1.length)<|Zi (0<=i4/\i4<l0_1.length)<|Kk N l0_1 (IntKind.i64.wrap ((IntKind.i64.wrap (n3+ (l0_1.getD i4.toNat Zy).2.1))- (l0_1.getD i4.toNat Zy).1)) (IntKind.i64.wrap (i4+1)) else some (n3,())
def Vl(l0:List Ze):Option (Int×Unit):=(Kz l0).bind fun t6=>bif !t6.1 then some ((-1:Int),()) else Kk (Za5 l0 (0:Int) (0:Int)) l0 (0:Int) (0:Int)
abbrev Z93:List PE:=[.val 0 (.slice 167 (Zw)) (.u false),.val 1 (.int .i64) (.u false),.val 5 (.int .i64) (.u false)]
def Zig(K1: (List Ze×Int×Int×Unit)->Option (Int×Unit))(l0_2:List Ze)(from1_2:Int)(i5_1:Int):Option (Int×Unit):=K1 (l0_2,from1_2,IntKind.i64.wrap (i5_1+1),())
abbrev Z94:List PE:=[.val 0 (.slice 167 (Zw)) (.u false),.val 1 (.int .i64) (.u false),.val 5 (.int .i64) (.u false)]
def Zkn(l0_1:List Ze)(from1_1:Int)(i5:Int):Nat:=((l0_1.length:Int)-i5).toNat+1
def J7:Nat->List Ze->Int->Int->Option (Int×Unit)
 |0,_,_,_=>none
 |N+1,l0_1,from1_1,i5=>
  bif decide (i5< (l0_1.length:Int))then
   Zi (0<=i5/\i5<l0_1.length)<|
   let t25:Bool:=decide (from1_1>=(l0_1.getD i5.toNat Zy).1)
   Zi ((t25=true->(0<=i5/\i5<l0_1.length)))<|
   bif t25&& (decide (from1_1< (l0_1.getD i5.toNat Zy).2.1))then
    Zi (0<=i5/\i5<l0_1.length)<|
    Zig (fun v=>J7 N v.1 v.2.1 v.2.2.1) l0_1 (l0_1.getD i5.toNat Zy).2.1 i5
   else
    Zig (fun v=>J7 N v.1 v.2.1 v.2.2.1) l0_1 from1_1 i5
  else
   some (from1_1,())
def Zgt(l0:List Ze)(from1:Int):Option (Int×Unit):=(Kz l0).bind fun t7=>bif(!t7.1)|| (decide (from1< (0:Int)))then some ((-1:Int),()) else J7 (Zkn l0 from1 (0:Int)) l0 from1 (0:Int)
def Zaj(s0:Zo):Option (Int×Unit):=bif(s0.2.2.2.2.2.2.1==3)&& (s0.2.1.2.1==s0.2.1.2.2.1)then some ((3:Int),()) else bif(decide (s0.2.2.2.2.2.2.1>(1:Int)))|| ((s0.2.2.2.2.2.2.1==1)&& (s0.1==2))then some ((2:Int),()) else bif(decide (s0.2.2.2.2.2.2.2.1>(0:Int)))|| ((s0.2.2.2.2.2.2.1==1)&& (s0.1==1))then some ((1:Int),()) else some ((0:Int),())
abbrev Qaa:List PE:=[.box 1 68 (Z4) (.u false),.val 8 (.int .i64) (.u false)]
def Ze3(s1_3:Zo)(i8:Int):Nat:=((s1_3.2.2.2.2.1.length:Int)-i8).toNat+1
def Zbv:Nat->Zo->Int->Option (Bool×Unit)|0,_,_=>none|N+1,s1_3,i8=>bif decide (i8< (s1_3.2.2.2.2.1.length:Int))then Zi (0<=i8/\i8<s1_3.2.2.2.2.1.length)<|bif decide ((s1_3.2.2.2.2.1.getD i8.toNat Zy).2.1>s1_3.2.2.2.2.2.2.2.1)then some (false,()) else Zbv N s1_3 (IntKind.i64.wrap (i8+1)) else bif(!((s1_3.2.2.2.2.2.2.1==0)==(s1_3.2.2.2.2.2.1==(-1:Int))))|| ((s1_3.2.2.2.2.2.1 !=(-1:Int))&& (s1_3.2.2.2.2.2.1 !=s1_3.2.1.2.2.1))then some (false,()) else (Zaj s1_3).bind fun t244=>some (s1_3.1==t244.1,())
abbrev Z99:List PE:=[.box 1 68 (Z4) (.u false),.val 7 (.int .i64) (.u false)]
def Zbk(s1_2:Zo)(i7:Int):Nat:=((s1_2.2.2.2.1.length:Int)-i7).toNat+1
def Zbu:Nat->Zo->Int->Option (Bool×Unit)|0,_,_=>none|N+1,s1_2,i7=>bif decide (i7< (s1_2.2.2.2.1.length:Int))then Zi (0<=i7/\i7<s1_2.2.2.2.1.length)<|bif decide ((s1_2.2.2.2.1.getD i7.toNat Zy).2.1>s1_2.2.2.2.2.2.2.2.1)then some (false,()) else Zbu N s1_2 (IntKind.i64.wrap (i7+1)) else Zbv (Ze3 s1_2 (0:Int)) s1_2 (0:Int)
abbrev Z98:List PE:=[.box 1 68 (Z4) (.u false),.val 3 (.slice 167 (Zw)) (.u false),.val 5 (.int .i64) (.u false)]
def Zbj(s1_1:Zo)(all3_1:List Ze)(i5:Int):Nat:=((s1_1.2.2.2.2.1.length:Int)-i5).toNat+1
def Zbt:Nat->Zo->List Ze->Int->Option (Bool×Unit)
 |0,_,_,_=>none
 |N+1,s1_1,all3_1,i5=>
  bif decide (i5< (s1_1.2.2.2.2.1.length:Int))then
   Zi (0<=i5/\i5<s1_1.2.2.2.2.1.length)<|
   (Wy all3_1 (s1_1.2.2.2.2.1.getD i5.toNat Zy)).bind fun t134=>
   Zbt N s1_1 t134.1 (IntKind.i64.wrap (i5+1))
  else
   (Vl s1_1.2.2.1).bind fun t137=>
   (Vl s1_1.2.2.2.1).bind fun t140=>
   (Vl s1_1.2.2.2.2.1).bind fun t144=>
   (Vl all3_1).bind fun t147=>
   let t158:Bool:=(t147.1 !=s1_1.2.1.2.2.1)|| ((IntKind.i64.wrap ((IntKind.i64.wrap (t137.1+t140.1))+t144.1)) !=s1_1.2.1.2.2.1)
   Zi ((t158=false->((decide (s1_1.2.1.2.2.1>(0:Int)))=true->(0<=(0:Int)/\(0:Int)<all3_1.length))))<|
   let t174:Bool:=t158|| ((decide (s1_1.2.1.2.2.1>(0:Int)))&& ((all3_1.getD (0:Int).toNat Zy).2.1 !=s1_1.2.1.2.2.1))
   (bif t174 then some ((0:Int),())else(Zgt s1_1.2.2.2.2.1 (0:Int))).bind fun t178=>
   bif(t174|| (t178.1 !=s1_1.2.1.2.1))|| (s1_1.2.2.2.2.2.2.2.2.1 !=0)then
    some (false,())
   else
    Zbu (Zbk s1_1 (0:Int)) s1_1 (0:Int)
abbrev Z97:List PE:=[.box 1 68 (Z4) (.u false),.val 3 (.slice 167 (Zw)) (.u false),.val 4 (.int .i64) (.u false)]
def Y3(s1:Zo)(all3:List Ze)(i4:Int):Nat:=((s1.2.2.2.1.length:Int)-i4).toNat+1
def Zbs:Nat->Zo->List Ze->Int->Option (Bool×Unit)|0,_,_,_=>none|N+1,s1,all3,i4=>bif decide (i4< (s1.2.2.2.1.length:Int))then Zi (0<=i4/\i4<s1.2.2.2.1.length)<|(Wy all3 (s1.2.2.2.1.getD i4.toNat Zy)).bind fun t120=>Zbs N s1 t120.1 (IntKind.i64.wrap (i4+1)) else Zbt (Zbj s1 all3 (0:Int)) s1 all3 (0:Int)
def Xz(s0:Zo):Option (Bool×Unit):=
 (Vn s0.2.1).bind fun t11=>
 (bif(!t11.1)then some (false,())else(Kz s0.2.2.1)).bind fun t16=>
 (bif((!t11.1)|| (!t16.1))then some (false,())else(Kz s0.2.2.2.1)).bind fun t22=>
 let t24:Bool:=((!t11.1)|| (!t16.1))|| (!t22.1)
 (bif t24 then some (false,())else(Kz s0.2.2.2.2.1)).bind fun t28=>
 (bif(t24|| (!t28.1))then some (false,())else(Z5 s0.2.2.2.2.2.2.2.1 (0:Int) s0.2.1.2.2.1)).bind fun t37=>
 let t39:Bool:=(t24|| (!t28.1))|| (!t37.1)
 (bif t39 then some (false,())else(Qf s0.2.2.2.2.2.2.2.2.1)).bind fun t43=>
 (bif(t39|| (!t43.1))then some (false,())else(Z5 s0.2.2.2.2.2.2.1 (0:Int) (3:Int))).bind fun t49=>
 bif(t39|| (!t43.1))|| (!t49.1)then
  some (false,())
 else
  bif(s0.1==4)|| (s0.1==5)then
   some (((((((s0.2.1.2.1==s0.2.1.2.2.1)&& ((s0.2.2.1.length:Int)==(0:Int)))&& ((s0.2.2.2.1.length:Int)==(0:Int)))&& ((s0.2.2.2.2.1.length:Int)==(0:Int)))&& (s0.2.2.2.2.2.1==s0.2.2.2.2.2.2.2.1))&& (s0.2.2.2.2.2.2.1==0))&& (s0.2.2.2.2.2.2.2.1==s0.2.1.2.2.1),())
  else
   Zbs (Y3 s0 s0.2.2.1 (0:Int)) s0 s0.2.2.1 (0:Int)
def Ye(c0:Q0):Option (Bool×Unit):=(Qf c0.1).bind fun t5=>(bif t5.1 then(Z5 c0.2.1 (0:Int) c0.1)else some (false,())).bind fun t11=>(bif(t5.1&&t11.1)then(Z5 c0.2.2.1 (-1:Int) c0.1)else some (false,())).bind fun t18=>(bif((t5.1&&t11.1)&&t18.1)then(Z5 c0.2.2.2.1 (-1:Int) c0.1)else some (false,())).bind fun t25=>some (((t5.1&&t11.1)&&t18.1)&&t25.1,())
abbrev Z95:List PE:=[.box 1 58 (Qw) (.u false),.val 3 (.int .i64) (.u false),.val 4 (.int .i64) (.u false)]
def Zko(b1:Zq)(end3:Int)(i4:Int):Nat:=((b1.2.1.length:Int)-i4).toNat+1
def Zd0:Nat->Zq->Int->Int->Option (Bool×Unit)|0,_,_,_=>none|N+1,b1,end3,i4=>bif decide (i4< (b1.2.1.length:Int))then Zi (0<=i4/\i4<b1.2.1.length)<|bif((decide ((b1.2.1.getD i4.toNat Qc).1<=end3))|| ((b1.2.1.getD i4.toNat Qc).2.1==([]:List UInt8)))|| (decide ((b1.2.1.getD i4.toNat Qc).1>(IntKind.i64.wrap ((4611686018427387903:Int)- ((b1.2.1.getD i4.toNat Qc).2.1.length:Int)))))then some (false,()) else Zd0 N b1 (IntKind.i64.wrap ((b1.2.1.getD i4.toNat Qc).1+ ((b1.2.1.getD i4.toNat Qc).2.1.length:Int))) (IntKind.i64.wrap (i4+1)) else (Qf b1.1).bind fun t47=>some (t47.1,())
def Zdt(b0:Zq):Option (Bool×Unit):=Zd0 (Zko b0 (IntKind.i64.wrap (b0.1-1)) (0:Int)) b0 (IntKind.i64.wrap (b0.1-1)) (0:Int)
def Zlq(b0:Zq):Option (Int×Unit):=
 (bif((b0.2.1.length:Int)==(0:Int))then some (false,())else(Zdt b0)).bind fun t10=>
 bif((b0.2.1.length:Int)==(0:Int))|| (!t10.1)then
  some (b0.1,())
 else
  let t20:Int:=IntKind.i64.wrap ((b0.2.1.length:Int)- (1:Int))
  Zi (0<=t20/\t20<b0.2.1.length)<|
  some (IntKind.i64.wrap ((b0.2.1.getD t20.toNat Qc).1+ ((b0.2.1.getD t20.toNat Qc).2.1.length:Int)),())
def Zau(b0:Zq):Option (Int×Unit):=
 (Zdt b0).bind fun t4=>
 let t11:Bool:=(!t4.1)|| ((b0.2.1.length:Int)==(0:Int))
 Zi ((t11=false->(0<=(0:Int)/\(0:Int)<b0.2.1.length)))<|
 bif t11|| ((b0.2.1.getD (0:Int).toNat Qc).1 !=b0.1)then
  some ((0:Int),())
 else
  Zi (0<=(0:Int)/\(0:Int)<b0.2.1.length)<|
  some (((b0.2.1.getD (0:Int).toNat Qc).2.1.length:Int),())
abbrev Z3l:List PE:=[.box 1 60 (Z7) (.u false),.val 114 (.bool) (.u false)]
def X9(r1:Zr)(t114:Bool):Option (Bool×Unit):=bif t114 then some (((r1.2.2.1 !=(-1:Int))&& (r1.2.2.2.1==r1.2.2.1))&& ((r1.2.1.2.1.length:Int)==(0:Int)),()) else some (false,())
def Q5(r0:Zr):Option (Bool×Unit):=
 (Zdt r0.2.1).bind fun t6=>
 (bif(!t6.1)then some (false,())else(Qf r0.2.2.2.1)).bind fun t11=>
 (bif((!t6.1)|| (!t11.1))then some ((0:Int),())else(Zlq r0.2.1)).bind fun t17=>
 let t21:Bool:=((!t6.1)|| (!t11.1))|| (decide (t17.1>r0.2.2.2.1))
 (bif t21 then some (false,())else(Qf r0.2.2.2.2.1)).bind fun t25=>
 bif(((t21|| (!t25.1))|| ((r0.2.2.1 !=(-1:Int))&& (decide (r0.2.2.1<r0.2.2.2.1))))|| (decide (r0.2.2.1>(4611686018427387903:Int))))|| (decide (r0.2.2.1< (-1:Int)))then
  some (false,())
 else
  (bif(r0.2.2.1 !=(-1:Int))then(Zau r0.2.1)else some ((0:Int),())).bind fun t59=>
  let t64:Bool:=(r0.2.2.1 !=(-1:Int))&& ((IntKind.i64.wrap (r0.2.1.1+t59.1))==r0.2.2.1)
  bif r0.1==0 then
   some ((r0.2.2.1==(-1:Int))&& (r0.2.2.2.2.1==0),())
  else
   bif r0.1==1 then
    some (((r0.2.2.1 !=(-1:Int))&& (!t64))&& (r0.2.2.2.2.1==0),())
   else
    bif r0.1==2 then
     some (t64&& (r0.2.2.2.2.1==0),())
    else
     bif r0.1==3 then
      some ((t64&& ((r0.2.1.2.1.length:Int)==(0:Int)))&& (r0.2.2.2.2.1==0),())
     else
      bif r0.1==4 then
       X9 r0 (r0.1==4)
      else
       X9 r0 (r0.1==5)
def Vq(w0:Qq):Option (Bool×Unit):=
 (Z5 w0.2.1 (1:Int) (4096:Int)).bind fun t5=>
 (bif t5.1 then(Z5 w0.1 (1:Int) w0.2.1)else some (false,())).bind fun t11=>
 (bif(t5.1&&t11.1)then(Z5 w0.2.2.1 (1:Int) (4611686018427387903:Int))else some (false,())).bind fun t16=>
 (bif((t5.1&&t11.1)&&t16.1)then(Z5 w0.2.2.2.1 (0:Int) w0.2.2.1)else some (false,())).bind fun t23=>
 let t24:Bool:=((t5.1&&t11.1)&&t16.1)&&t23.1
 (bif t24 then(Z5 w0.2.2.2.2.1 (0:Int) w0.2.2.2.1)else some (false,())).bind fun t30=>
 let t41:Bool:=(t24&&t30.1)&& (decide (w0.2.2.1<=(IntKind.i64.wrap (w0.2.2.2.2.1+w0.1))))
 (bif t41 then(Z5 w0.2.2.2.2.2.1 (0:Int) (1000000:Int))else some (false,())).bind fun t45=>
 some (t41&&t45.1,())
def Zat(p0:Xf):Option (Bool×Unit):=(Z5 p0.1 (0:Int) (7:Int)).bind fun t5=>some (t5.1,())
def Zb3(s0:Zd):Option (Bool×Unit):=
 (Qf s0.1).bind fun t5=>
 (bif(!t5.1)then some (false,())else(Xz s0.2.1)).bind fun t10=>
 (bif((!t5.1)|| (!t10.1))then some (false,())else(Ye s0.2.2.1)).bind fun t16=>
 let t18:Bool:=((!t5.1)|| (!t10.1))|| (!t16.1)
 (bif t18 then some (false,())else(Q5 s0.2.2.2.1)).bind fun t22=>
 (bif(t18|| (!t22.1))then some (false,())else(Vq s0.2.2.2.2.1)).bind fun t28=>
 let t30:Bool:=(t18|| (!t22.1))|| (!t28.1)
 (bif t30 then some (false,())else(Zat s0.2.2.2.2.2.1)).bind fun t34=>
 (bif(t30|| (!t34.1))then some (false,())else(Qf s0.2.2.2.2.2.2.2.2.2.2.2.2.1)).bind fun t40=>
 bif((t30|| (!t34.1))|| (!t40.1))|| ((!s0.2.2.2.2.2.2.1)&& (!s0.2.2.2.2.2.2.2.1))then
  some (false,())
 else
  bif((((decide (s0.2.1.2.2.2.2.2.2.2.1>s0.2.2.1.2.1))|| (decide (s0.2.2.2.1.2.2.2.1>s0.2.2.2.2.1.2.2.2.1)))|| (s0.2.2.2.2.2.2.2.2.1&& (s0.2.1.1 !=4)))|| (s0.2.2.2.2.2.2.2.2.2.1&& (!s0.2.2.2.2.2.2.2.2.2.2.2.1)))|| ((s0.2.2.2.2.2.2.2.2.2.2.2.2.1 !=0)&& (!s0.2.2.2.2.2.2.2.2.2.2.2.1))then
   some (false,())
  else
   some ((s0.2.2.2.2.2.2.1|| (((s0.2.1.1==0)&& (s0.2.1.2.1.2.2.1==0))&& (s0.2.1.2.2.2.2.2.1==(-1:Int))))&& (s0.2.2.2.2.2.2.2.1|| (((s0.2.2.2.1.1==0)&& (s0.2.2.2.1.2.2.2.1==0))&& (!s0.2.2.2.2.2.2.2.2.2.2.2.1))),())
abbrev Z3a:List PE:=[.val 0 (.slice 72 (Zu)) (.u false),.val 3 (.int .i64) (.u false)]
def Wn(l0_1:List Zd)(i3:Int):Nat:=((l0_1.length:Int)-i3).toNat+1
def X7:Nat->List Zd->Int->Option (Bool×Unit)|0,_,_=>none|N+1,l0_1,i3=>bif decide (i3< (l0_1.length:Int))then Zi (0<=i3/\i3<l0_1.length)<|(Zb3 (l0_1.getD i3.toNat Zh)).bind fun t14=>Zi (((!t14.1)=false->((decide (i3>(0:Int)))=true->(0<=i3/\i3<l0_1.length))))<|Zi (((!t14.1)=false->((decide (i3>(0:Int)))=true->(0<=(IntKind.i64.wrap (i3-1))/\(IntKind.i64.wrap (i3-1))<l0_1.length))))<|bif(!t14.1)|| ((decide (i3>(0:Int)))&& (decide ((l0_1.getD i3.toNat Zh).1<=(l0_1.getD (IntKind.i64.wrap (i3-1)).toNat Zh).1)))then some (false,()) else X7 N l0_1 (IntKind.i64.wrap (i3+1)) else some (decide ((l0_1.length:Int)<=(24:Int)),())
def Y8(l0:List Zd):Option (Bool×Unit):=X7 (Wn l0 (0:Int)) l0 (0:Int)
def Zb2(c0:Zbm):Option (Bool×Unit):=(Z5 c0.1 (0:Int) (1152921504606846976:Int)).bind fun t5=>(bif t5.1 then(Z5 c0.2.1 (0:Int) c0.1)else some (false,())).bind fun t11=>(bif(t5.1&&t11.1)then(Z5 c0.2.2.1 (-1:Int) c0.1)else some (false,())).bind fun t18=>some ((t5.1&&t11.1)&&t18.1,())
def Vb(a0:Q0):Option (Bool×Unit):=(Z5 a0.1 (0:Int) (1000:Int)).bind fun t5=>(bif t5.1 then(Z5 a0.2.1 a0.1 (1152921504606846976:Int))else some (false,())).bind fun t11=>(bif(t5.1&&t11.1)then(Z5 a0.2.2.1 (0:Int) a0.2.1)else some (false,())).bind fun t18=>(bif((t5.1&&t11.1)&&t18.1)then(Z5 a0.2.2.2.1 (0:Int) a0.2.2.1)else some (false,())).bind fun t25=>some ((((t5.1&&t11.1)&&t18.1)&&t25.1)&& (decide (a0.2.1<=(IntKind.i64.wrap (a0.2.2.2.1+a0.1)))),())
def Znf(kind0:Int):Option (List UInt8×Unit):=bif kind0==4 then some (([114,101,115,101,116]:List UInt8),()) else bif kind0==5 then some (([115,116,111,112]:List UInt8),()) else bif kind0==8 then some (([115,116,114,101,97,109]:List UInt8),()) else bif kind0==16 then some (([109,97,120,100,97,116,97]:List UInt8),()) else bif kind0==17 then some (([109,97,120,115,116,114,101,97,109,100,97,116,97]:List UInt8),()) else bif kind0==18 then some (([109,97,120,115,116,114,101,97,109,115]:List UInt8),()) else bif kind0==20 then some (([100,97,116,97,98,108,111,99,107,101,100]:List UInt8),()) else bif kind0==21 then some (([115,116,114,101,97,109,100,97,116,97,98,108,111,99,107,101,100]:List UInt8),()) else bif kind0==22 then some (([115,116,114,101,97,109,115,98,108,111,99,107,101,100]:List UInt8),()) else some (([]:List UInt8),())
abbrev Zx1:List PE:=[.val 5 (.bool) (.u false)]
def Yb(t5:Bool):Option (Bool×Unit):=bif t5 then some (true,()) else some (false,())
def V7(f0:Zl):Option (Bool×Unit):=bif f0.1==4 then Yb (f0.1==4) else bif f0.1==5 then Yb (f0.1==5) else bif f0.1==8 then Yb (f0.1==8) else bif f0.1==17 then Yb (f0.1==17) else Yb (f0.1==21)
abbrev Qh1:List PE:=[.box 1 39 (Zx) (.u false),.box 2 39 (Zx) (.u false),.box 3 39 (Zx) (.u false),.val 41 (.bool) (.u false)]
def Zi0(f1_1:Zl)(t2_1:Zl)(x3_1:Zl)(t41:Bool):Option (Zl×Unit):=bif t41 then some ((x3_1.1,(x3_1.2.1,(x3_1.2.2.1,(x3_1.2.2.2.1,(x3_1.2.2.2.2.1,(x3_1.2.2.2.2.2.1,(f1_1.2.2.2.2.2.2.1,(x3_1.2.2.2.2.2.2.2.1,(f1_1.2.2.2.2.2.2.2.2.1,x3_1.2.2.2.2.2.2.2.2.2))))))))),()) else some ((x3_1.1,(x3_1.2.1,(x3_1.2.2.1,(x3_1.2.2.2.1,(x3_1.2.2.2.2.1,(x3_1.2.2.2.2.2.1,(f1_1.2.2.2.2.2.2.1,x3_1.2.2.2.2.2.2.2))))))),())
abbrev Qh0:List PE:=[.box 1 39 (Zx) (.u false),.box 2 39 (Zx) (.u false),.box 3 39 (Zx) (.u false)]
def Ziz(f1:Zl)(t2:Zl)(x3:Zl):Option (Zl×Unit):=bif f1.1==4 then some ((x3.1,(x3.2.1,(x3.2.2.1,(x3.2.2.2.1,(x3.2.2.2.2.1,(f1.2.2.2.2.2.1,(x3.2.2.2.2.2.2.1,(f1.2.2.2.2.2.2.2.1,x3.2.2.2.2.2.2.2.2)))))))),()) else bif f1.1==5 then some ((x3.1,(x3.2.1,(x3.2.2.1,(x3.2.2.2.1,(x3.2.2.2.2.1,(f1.2.2.2.2.2.1,x3.2.2.2.2.2.2)))))),()) else bif f1.1==8 then some ((x3.1,(x3.2.1,(f1.2.2.1,(f1.2.2.2.1,(f1.2.2.2.2.1,x3.2.2.2.2.2))))),()) else bif f1.1==18 then Zi0 f1 t2 x3 (f1.1==18) else Zi0 f1 t2 x3 (f1.1==22)
def Zgh(f0:Zl):Option (Zl×Unit):=(V7 f0).bind fun t8=>bif t8.1 then Ziz f0 Zcj (f0.1,(f0.2.1,((0:Int),(([]:List UInt8),(false,((0:Int),((0:Int),((0:Int),(false,()))))))))) else Ziz f0 Zcj (f0.1,((0:Int),((0:Int),(([]:List UInt8),(false,((0:Int),((0:Int),((0:Int),(false,())))))))))
abbrev Qd8:List PE:=[.box 1 39 (Zx) (.u false),.val 60 (.bool) (.u false)]
def Zny(f1:Zl)(t60:Bool):Option (Bool×Unit):=bif t60 then some (decide (f1.2.2.2.2.2.2.1<=(1152921504606846976:Int)),()) else some (true,())
def Zae(f0:Zl):Option (Bool×Unit):=
 (Znf f0.1).bind fun t5=>
 (bif(t5.1==([]:List UInt8))then some (Zcj,())else(Zgh f0)).bind fun t9=>
 let t12:Bool:=(t5.1==([]:List UInt8))|| (!(eqV (Zx) t9.1 f0))
 (bif t12 then some (false,())else(Qf f0.2.1)).bind fun t16=>
 (bif(t12|| (!t16.1))then some (false,())else(Qf f0.2.2.1)).bind fun t22=>
 let t24:Bool:=(t12|| (!t16.1))|| (!t22.1)
 (bif t24 then some (false,())else(Qf f0.2.2.2.2.2.1)).bind fun t28=>
 (bif(t24|| (!t28.1))then some (false,())else(Qf f0.2.2.2.2.2.2.1)).bind fun t34=>
 let t36:Bool:=(t24|| (!t28.1))|| (!t34.1)
 (bif t36 then some (false,())else(Qf f0.2.2.2.2.2.2.2.1)).bind fun t40=>
 bif(t36|| (!t40.1))|| (decide ((f0.2.2.2.1.length:Int)>(400:Int)))then
  some (false,())
 else
  bif f0.1==8 then
   some (decide (f0.2.2.1<=(IntKind.i64.wrap ((4611686018427387903:Int)- (f0.2.2.2.1.length:Int)))),())
  else
   bif f0.1==18 then
    Zny f0 (f0.1==18)
   else
    Zny f0 (f0.1==22)
abbrev Z6k:List PE:=[.val 0 (.slice 39 (Zx)) (.u false),.val 3 (.int .i64) (.u false)]
def Kq(l0_1:List Zl)(i3:Int):Nat:=((l0_1.length:Int)-i3).toNat+1
def Ji:Nat->List Zl->Int->Option (Bool×Unit)|0,_,_=>none|N+1,l0_1,i3=>bif decide (i3< (l0_1.length:Int))then Zi (0<=i3/\i3<l0_1.length)<|(Zae (l0_1.getD i3.toNat Zcj)).bind fun t14=>bif !t14.1 then some (false,()) else Ji N l0_1 (IntKind.i64.wrap (i3+1)) else some (true,())
def Zch(l0:List Zl):Option (Bool×Unit):=Ji (Kq l0 (0:Int)) l0 (0:Int)
abbrev Z6i:List PE:=[.val 0 (.slice 72 (Zu)) (.u false),.val 3 (.int .i64) (.u false),.val 4 (.int .i64) (.u false)]
def Yv(l0_1:List Zd)(n3:Int)(i4:Int):Nat:=((l0_1.length:Int)-i4).toNat+1
def Ki:Nat->List Zd->Int->Int->Option (Int×Unit)|0,_,_,_=>none|N+1,l0_1,n3,i4=>(bif(decide (i4< (l0_1.length:Int)))then(Y8 l0_1)else some (false,())).bind fun t11=>bif(decide (i4< (l0_1.length:Int)))&&t11.1 then Zi (0<=i4/\i4<l0_1.length)<|Ki N l0_1 (min (IntKind.i64.wrap (n3+ (l0_1.getD i4.toNat Zh).2.1.2.2.2.2.2.2.2.1)) (4611686018427387904:Int)) (IntKind.i64.wrap (i4+1)) else some (n3,())
def Zcg(l0:List Zd):Option (Int×Unit):=Ki (Yv l0 (0:Int) (0:Int)) l0 (0:Int) (0:Int)
abbrev Z6f:List PE:=[.val 0 (.slice 72 (Zu)) (.u false),.val 3 (.int .i64) (.u false),.val 4 (.int .i64) (.u false)]
def Yu(l0_1:List Zd)(n3:Int)(i4:Int):Nat:=((l0_1.length:Int)-i4).toNat+1
def Kh:Nat->List Zd->Int->Int->Option (Int×Unit)|0,_,_,_=>none|N+1,l0_1,n3,i4=>(bif(decide (i4< (l0_1.length:Int)))then(Y8 l0_1)else some (false,())).bind fun t11=>bif(decide (i4< (l0_1.length:Int)))&&t11.1 then Zi (0<=i4/\i4<l0_1.length)<|Kh N l0_1 (min (IntKind.i64.wrap (n3+ (l0_1.getD i4.toNat Zh).2.2.2.1.2.2.2.1)) (4611686018427387904:Int)) (IntKind.i64.wrap (i4+1)) else some (n3,())
def Zcf(l0:List Zd):Option (Int×Unit):=Kh (Yu l0 (0:Int) (0:Int)) l0 (0:Int) (0:Int)
abbrev Qhs:List PE:=[.box 1 37 (Zp) (.u false),.val 3 (.int .i64) (.u false)]
def K9(c1:Zg)(i3:Int):Nat:=((c1.2.2.2.2.2.2.2.2.2.2.2.2.2.2.2.1.length:Int)-i3).toNat+1
def Zad:Nat->Zg->Int->Option (Bool×Unit)
 |0,_,_=>none
 |N+1,c1,i3=>
  bif decide (i3< (c1.2.2.2.2.2.2.2.2.2.2.2.2.2.2.2.1.length:Int))then
   Zi (0<=i3/\i3<c1.2.2.2.2.2.2.2.2.2.2.2.2.2.2.2.1.length)<|
   (Z5 (c1.2.2.2.2.2.2.2.2.2.2.2.2.2.2.2.1.getD i3.toNat Qg).1 (0:Int) (IntKind.i64.wrap (c1.2.2.2.2.2.2.2.2.2.2.2.2.2.2.1-1))).bind fun t72=>
   Zi (((!t72.1)=false->((decide (i3>(0:Int)))=true->(0<=i3/\i3<c1.2.2.2.2.2.2.2.2.2.2.2.2.2.2.2.1.length))))<|
   Zi (((!t72.1)=false->((decide (i3>(0:Int)))=true->(0<=(IntKind.i64.wrap (i3-1))/\(IntKind.i64.wrap (i3-1))<c1.2.2.2.2.2.2.2.2.2.2.2.2.2.2.2.1.length))))<|
   let t93:Bool:=(!t72.1)|| ((decide (i3>(0:Int)))&& (decide ((c1.2.2.2.2.2.2.2.2.2.2.2.2.2.2.2.1.getD i3.toNat Qg).1<=(c1.2.2.2.2.2.2.2.2.2.2.2.2.2.2.2.1.getD (IntKind.i64.wrap (i3-1)).toNat Qg).1)))
   Zi ((t93=false->(0<=i3/\i3<c1.2.2.2.2.2.2.2.2.2.2.2.2.2.2.2.1.length)))<|
   (bif t93 then some (false,())else(Zch (c1.2.2.2.2.2.2.2.2.2.2.2.2.2.2.2.1.getD i3.toNat Qg).2.1)).bind fun t101=>
   bif t93|| (!t101.1)then
    some (false,())
   else
    Zad N c1 (IntKind.i64.wrap (i3+1))
  else
   (Z5 c1.2.2.2.2.2.2.2.2.2.2.2.2.2.1 (-1:Int) (4611686018427387903:Int)).bind fun t106=>
   (bif t106.1 then(Z5 c1.2.2.2.2.2.2.2.2.2.2.2.2.2.2.1 (0:Int) (1000000:Int))else some (false,())).bind fun t110=>
   (bif(t106.1&&t110.1)then(Z5 c1.2.2.2.2.2.2.2.2.2.2.2.2.2.2.2.2.1 (0:Int) (1000000:Int))else some (false,())).bind fun t115=>
   (bif((t106.1&&t110.1)&&t115.1)then(Z5 c1.2.2.2.2.2.2.2.2.2.2.2.2.2.2.2.2.2.1 (0:Int) (255:Int))else some (false,())).bind fun t120=>
   let t121:Bool:=((t106.1&&t110.1)&&t115.1)&&t120.1
   (bif t121 then(Zcg c1.2.2.2.1)else some ((0:Int),())).bind fun t125=>
   (bif(t121&& (decide (t125.1<=c1.2.2.2.2.1.2.1)))then(Zcf c1.2.2.2.1)else some ((0:Int),())).bind fun t134=>
   some ((t121&& (decide (t125.1<=c1.2.2.2.2.1.2.1)))&& (decide (t134.1<=c1.2.2.2.2.2.1.2.2.2.1)),())
def Y2(c0:Zg):Option (Bool×Unit):=
 (Vm c0.2.1).bind fun t6=>
 (bif(!t6.1)then some (false,())else(Vm c0.2.2.1)).bind fun t11=>
 (bif((!t6.1)|| (!t11.1))then some (false,())else(Y8 c0.2.2.2.1)).bind fun t17=>
 let t19:Bool:=((!t6.1)|| (!t11.1))|| (!t17.1)
 (bif t19 then some (false,())else(Ye c0.2.2.2.2.1)).bind fun t23=>
 (bif(t19|| (!t23.1))then some (false,())else(Vq c0.2.2.2.2.2.1)).bind fun t29=>
 let t31:Bool:=(t19|| (!t23.1))|| (!t29.1)
 (bif t31 then some (false,())else(Zb2 c0.2.2.2.2.2.2.1)).bind fun t35=>
 (bif(t31|| (!t35.1))then some (false,())else(Zb2 c0.2.2.2.2.2.2.2.1)).bind fun t41=>
 let t43:Bool:=(t31|| (!t35.1))|| (!t41.1)
 (bif t43 then some (false,())else(Vb c0.2.2.2.2.2.2.2.2.1)).bind fun t47=>
 (bif(t43|| (!t47.1))then some (false,())else(Vb c0.2.2.2.2.2.2.2.2.2.1)).bind fun t53=>
 bif(t43|| (!t47.1))|| (!t53.1)then
  some (false,())
 else
  Zad (K9 c0 (0:Int)) c0 (0:Int)
def Z7c(c0:Zg):Option (Bool×Unit):=some (c0.2.2.2.2.2.2.2.2.2.2.2.2.2.2.2.2.2.1 !=0,())
def Jk(c0:Zg):Option (Bool×Unit):=(Y2 c0).bind fun t4=>(bif t4.1 then(Z7c c0)else some (false,())).bind fun t7=>some (t4.1&& (!t7.1),())
def Zrb(c0:Zbm):Option (Int×Zbm×Bool×Unit):=(Zb2 c0).bind fun t7=>bif !t7.1 then some ((-1:Int),c0,false,()) else bif c0.2.1==c0.1 then some ((-1:Int),(c0.1,(c0.2.1,(c0.1,c0.2.2.2))),false,()) else some (c0.2.1,(c0.1,(IntKind.i64.wrap (c0.2.1+1),c0.2.2)),true,())
abbrev Qhu:List PE:=[.val 2 (.bool) (.u false),.val 7 (.int .i64) (.u false)]
def Zls(uni2_1:Bool)(id7:Int):Option (Int×Unit):=bif uni2_1 then some (IntKind.i64.wrap (id7+2),()) else some (id7,())
def Zvz(index0:Int)(server1:Bool)(uni2:Bool):Option (Int×Unit):=
 (Z5 index0 (0:Int) (1152921504606846975:Int)).bind fun t9=>
 bif !t9.1 then
  some ((-1:Int),())
 else
  Zi (0<=(2:Int))<|
  let t12:Int:=IntKind.i64.wrap (index0*2^ (min (2:Int).toNat IntKind.i64.bits))
  bif server1 then
   Zls uni2 (IntKind.i64.wrap (t12+1))
  else
   Zls uni2 t12
def Wp:Option (Xf×Unit):=some (((3:Int),(false,())),())
def Zmj:Option (Zr×Unit):=some (((0:Int),(((0:Int),(([]:List Z0),())),((-1:Int),((0:Int),((0:Int),()))))),())
def Vc(id0:Int):Option (Bool×Unit):=(Qf id0).bind fun t4=>some (t4.1&& ((bits .and .i64 id0 (2:Int))==2),())
def Zkb(id0:Int):Option (Bool×Unit):=(Qf id0).bind fun t4=>some (t4.1&& ((bits .and .i64 id0 (1:Int))==1),())
def Zcw(server0:Bool)(id1:Int):Option (Bool×Unit):=(Qf id1).bind fun t6=>(bif t6.1 then(Zkb id1)else some (false,())).bind fun t9=>some (t6.1&& (t9.1==server0),())
def Yr(server0:Bool)(id1:Int):Option (Bool×Unit):=(Qf id1).bind fun t6=>(bif t6.1 then(Vc id1)else some (false,())).bind fun t9=>(bif(!t9.1)then some (false,())else(bif t6.1 then(Zcw server0 id1)else some (false,()))).bind fun t14=>some (t6.1&& ((!t9.1)||t14.1),())
def Q8(server0:Bool)(id1:Int):Option (Bool×Unit):=(Qf id1).bind fun t6=>(bif t6.1 then(Vc id1)else some (false,())).bind fun t9=>(bif(!t9.1)then some (false,())else(bif t6.1 then(Zcw server0 id1)else some (false,()))).bind fun t14=>some (t6.1&& ((!t9.1)|| (!t14.1)),())
def Zp2(size0:Int):Option (Yj×Bool×Unit):=(Jl size0).bind fun t5=>bif !t5.1 then some (Qsm,false,()) else Zi (0<=size0/\size0<=size0/\size0<=Qo)<|some ((size0,((0:Int),((0:Int),(List.replicate size0.toNat (0:Int),())))),true,())
def Zcd(size0:Int):Option (Zo×Bool×Unit):=(Zp2 size0).bind fun t8=>bif !t8.2.1 then some (Zak,false,()) else some (((0:Int),(t8.1,(([]:List Ze),(([]:List Ze),(([]:List Ze),((-1:Int),Zon)))))),true,())
def Kx(server0:Bool)(id1:Int)(own2:Zfp)(peer3:Zfp):Option (Zd×Bool×Unit):=(Qf id1).bind fun t18=>(bif(!t18.1)then some (false,())else(Vm own2)).bind fun t22=>(bif((!t18.1)|| (!t22.1))then some (false,())else(Vm peer3)).bind fun t27=>bif((!t18.1)|| (!t22.1))|| (!t27.1)then some (Zh,false,()) else Option.bind Wp fun t32=>Option.bind Zmj fun t33=>(Yr server0 id1).bind fun t36=>(Q8 server0 id1).bind fun t39=>(Zcd own2.1).bind fun t44=>(Zcc peer3.2.1).bind fun t52=>(Zce own2.2.1 own2.2.2.1).bind fun t62=>some ((id1,(t44.1,(t52.1,(t33.1,(t62.1,(t32.1,(t36.1,(t39.1,(false,(false,(false,(false,((0:Int),(false,())))))))))))))),true,())
abbrev Z3g:List PE:=[.val 0 (.slice 72 (Zu)) (.u false),.val 1 (.int .i64) (.u false),.val 5 (.int .i64) (.u false)]
def Yd(l0_1:List Zd)(id1_1:Int)(i5:Int):Nat:=((l0_1.length:Int)-i5).toNat+1
def Xq:Nat->List Zd->Int->Int->Option (Int×Unit)|0,_,_,_=>none|N+1,l0_1,id1_1,i5=>bif decide (i5< (l0_1.length:Int))then Zi (0<=i5/\i5<l0_1.length)<|bif(l0_1.getD i5.toNat Zh).1==id1_1 then some (i5,()) else Xq N l0_1 id1_1 (IntKind.i64.wrap (i5+1)) else some ((-1:Int),())
def Xp(l0:List Zd)(id1:Int):Option (Int×Unit):=Xq (Yd l0 id1 (0:Int)) l0 id1 (0:Int)
abbrev Z6d:List PE:=[.val 0 (.slice 72 (Zu)) (.u false),.box 3 72 (Zu) (.u false),.val 5 (.slice 72 (Zu)) (.u true),.val 6 (.int .i64) (.u false),.val 7 (.bool) (.u false),.val 8 (.int .i64) (.u false),.box 9 72 (Zu) (.u true)]
def Xm(K1: (List Zd×Zd×List Zd×Int×Bool×Int×Unit)->Option (List Zd×Unit))(l0_2:List Zd)(s3_1:Zd)(out5_1:List Zd)(at6_1:Int)(placed7_1:Bool)(i8_1:Int)(x9:Zd):Option (List Zd×Unit):=Zi (out5_1.length+ ([x9]).length<=Qo)<|K1 (l0_2,s3_1,out5_1++ ([x9]),at6_1,placed7_1,IntKind.i64.wrap (i8_1+1),())
abbrev Z6e:List PE:=[.val 0 (.slice 72 (Zu)) (.u false),.box 3 72 (Zu) (.u false),.val 5 (.slice 72 (Zu)) (.u true),.val 6 (.int .i64) (.u false),.val 7 (.bool) (.u false),.val 8 (.int .i64) (.u false)]
def Vd(l0_1:List Zd)(s3:Zd)(out5:List Zd)(at6:Int)(placed7:Bool)(i8:Int):Nat:=((l0_1.length:Int)-i8).toNat+1
def Qt:Nat->List Zd->Zd->List Zd->Int->Bool->Int->Option (List Zd×Unit)|0,_,_,_,_,_,_=>none|N+1,l0_1,s3,out5,at6,placed7,i8=>bif decide (i8< (l0_1.length:Int))then Zi (0<=i8/\i8<l0_1.length)<|(Zag (l0_1.getD i8.toNat Zh)).bind fun t29=>bif i8==at6 then (Zag s3).bind fun t34=>Xm (fun v=>Qt N v.1 v.2.1 v.2.2.1 v.2.2.2.1 v.2.2.2.2.1 v.2.2.2.2.2.1) l0_1 s3 out5 at6 placed7 i8 t34.1 else Zi (((!placed7)=true->(0<=i8/\i8<l0_1.length)))<|bif(!placed7)&& (decide ((l0_1.getD i8.toNat Zh).1>s3.1))then (Zag s3).bind fun t48=>Zi (out5.length+ ([t48.1]).length<=Qo)<|Xm (fun v=>Qt N v.1 v.2.1 v.2.2.1 v.2.2.2.1 v.2.2.2.2.1 v.2.2.2.2.2.1) l0_1 s3 (out5++ ([t48.1])) at6 true i8 t29.1 else Xm (fun v=>Qt N v.1 v.2.1 v.2.2.1 v.2.2.2.1 v.2.2.2.2.1 v.2.2.2.2.2.1) l0_1 s3 out5 at6 placed7 i8 t29.1 else bif !placed7 then (Zag s3).bind fun t60=>Zi (out5.length+ ([t60.1]).length<=Qo)<|some (out5++ ([t60.1]),()) else some (out5,())
def Qi(l0:List Zd)(s1:Zd):Option (List Zd×Unit):=(Xp l0 s1.1).bind fun t16=>Qt (Vd l0 s1 ([]:List Zd) t16.1 (decide (t16.1>=(0:Int))) (0:Int)) l0 s1 ([]:List Zd) t16.1 (decide (t16.1>=(0:Int))) (0:Int)
abbrev Z3u:List PE:=[.val 1 (.bool) (.u false),.box 2 37 (Zp) (.u false),.box 5 37 (Zp) (.u true),.box 7 37 (Zp) (.p (.u false) (.p (.u false) (.p (.u false) (.p (.u true) (.p (.u false) (.p (.u false) (.p (.u false) (.p (.u false) (.u true))))))))),.val 9 (.int .i64) (.u false),.val 11 (.bool) (.u false)]
def Wb(uni1_2:Bool)(c2_1:Zg)(t5_1:Zg)(x7_1:Zg)(index9:Int)(is11:Bool):Option (Int×Zg×Bool×Unit):=bif !is11 then some ((-1:Int),x7_1,false,()) else (Zvz index9 c2_1.1 uni1_2).bind fun t50=>(Kx c2_1.1 t50.1 c2_1.2.1 c2_1.2.2.1).bind fun t59=>(Qi x7_1.2.2.2.1 t59.1).bind fun t65=>some (t50.1,(x7_1.1,(x7_1.2.1,(x7_1.2.2.1,(t65.1,x7_1.2.2.2.2)))),true,())
abbrev Z3t:List PE:=[.val 1 (.bool) (.u false),.box 2 37 (Zp) (.u false),.box 5 37 (Zp) (.u true),.box 7 37 (Zp) (.u true),.box 8 32 (Zcs) (.u false)]
def Wa(uni1_1:Bool)(c2:Zg)(t5:Zg)(x7:Zg)(n8:Zbm):Option (Int×Zg×Bool×Unit):=(Zrb n8).bind fun t34=>bif uni1_1 then Wb uni1_1 c2 t5 (x7.1,(x7.2.1,(x7.2.2.1,(x7.2.2.2.1,(x7.2.2.2.2.1,(x7.2.2.2.2.2.1,(x7.2.2.2.2.2.2.1,(t34.2.1,x7.2.2.2.2.2.2.2.2)))))))) t34.1 t34.2.2.1 else Wb uni1_1 c2 t5 (x7.1,(x7.2.1,(x7.2.2.1,(x7.2.2.2.1,(x7.2.2.2.2.1,(x7.2.2.2.2.2.1,(t34.2.1,x7.2.2.2.2.2.2.2))))))) t34.1 t34.2.2.1
def Zfk(c0:Zg)(uni1:Bool):Option (Int×Zg×Bool×Unit):=(Z6 c0).bind fun t16=>(Jk c0).bind fun t18=>bif(!t18.1)|| (decide ((c0.2.2.2.1.length:Int)>=(24:Int)))then some ((-1:Int),t16.1,false,()) else bif uni1 then Wa uni1 c0 Wt t16.1 c0.2.2.2.2.2.2.2.1 else Wa uni1 c0 Wt t16.1 c0.2.2.2.2.2.2.1
def Zow(c0:Qx)(list1:List (List UInt8)):Option ((List UInt8×Unit)×(Qx×Unit)):=(Qm c0 (list1.length:Int)).bind fun t9=>Zi (0<=t9.1.1/\t9.1.1<list1.length)<|some ((list1.getD t9.1.1.toNat ([]:List UInt8),()),(t9.2.1,()))
abbrev Qhz:List PE:=[.box 0 148 (Zct) (.u false),.val 5 (.str) (.u false),.val 6 (.int .i64) (.u false)]
def Zhi(c0_1:Qx)(s5_1:List UInt8)(n6:Int):Nat:=(n6-0).toNat+1
def Ziy:Nat->Qx->List UInt8->Int->Option ((List UInt8×Unit)×(Qx×Unit))|0,_,_,_=>none|N+1,c0_1,s5_1,n6=>bif decide (n6>(0:Int))then (Zow c0_1 ([([97]:List UInt8),([98]:List UInt8),([99]:List UInt8),([100]:List UInt8)])).bind fun t18=>Zi (s5_1.length+t18.1.1.length<=Zqi)<|Ziy N t18.2.1 (s5_1++t18.1.1) (IntKind.i64.wrap (n6-1)) else some ((s5_1,()),(c0_1,()))
def Zl5(c0:Qx)(most1:Int):Option ((List UInt8×Unit)×(Qx×Unit)):=(Qm c0 (IntKind.i64.wrap (most1+1))).bind fun t10=>Ziy (Zhi t10.2.1 ([]:List UInt8) t10.1.1) t10.2.1 ([]:List UInt8) t10.1.1
def Qv(c0:Zg)(id1:Int):Option (Zd×Bool×Unit):=(Xp c0.2.2.2.1 id1).bind fun t10=>bif decide (t10.1< (0:Int))then some (Zh,false,()) else Zi (0<=t10.1/\t10.1<c0.2.2.2.1.length)<|(Zag (c0.2.2.2.1.getD t10.1.toNat Zh)).bind fun t19=>some (t19.1,true,())
def Z3w(r0:Yj):Option (Int×Unit):=(Vn r0).bind fun t4=>bif !t4.1 then some ((0:Int),()) else some (min (IntKind.i64.wrap (r0.1- (IntKind.i64.wrap (r0.2.2.1-r0.2.1)))) (IntKind.i64.wrap ((4611686018427387903:Int)-r0.2.2.1)),())
abbrev Z6j:List PE:=[.val 1 (.str) (.u false),.box 2 65 (Vj) (.u false),.box 4 65 (Vj) (.u true),.box 6 65 (Vj) (.u true),.val 7 (.int .i64) (.u false),.val 8 (.int .i64) (.u false)]
def Zdo(data1_1:List UInt8)(r2:Yj)(t4:Yj)(x6:Yj)(n7:Int)(i8:Int):Nat:=(n7-i8).toNat+1
def Zaf:Nat->List UInt8->Yj->Yj->Yj->Int->Int->Option (Yj×Int×Unit)
 |0,_,_,_,_,_,_=>none
 |N+1,data1_1,r2,t4,x6,n7,i8=>
  bif decide (i8<n7)then
   Zi (r2.1≠0)<|
   let t29:Int:=Int.tmod (IntKind.i64.wrap (r2.2.2.1+i8)) r2.1
   Zi (0<=i8/\i8<data1_1.length)<|
   Zi (0<=t29/\t29<x6.2.2.2.1.length)<|
   Zaf N data1_1 r2 t4 (x6.1,(x6.2.1,(x6.2.2.1,(x6.2.2.2.1.set t29.toNat (IntKind.i64.wrap ((data1_1.getD i8.toNat 0).toNat:Int)),x6.2.2.2.2)))) n7 (IntKind.i64.wrap (i8+1))
  else
   some ((x6.1,(x6.2.1,(IntKind.i64.wrap (r2.2.2.1+n7),x6.2.2.2))),n7,())
def Zp6(r0:Yj)(data1:List UInt8):Option (Yj×Int×Unit):=(Zoy r0).bind fun t10=>(Z3w r0).bind fun t12=>Zaf (Zdo data1 r0 Qsm t10.1 (min t12.1 (data1.length:Int)) (0:Int)) data1 r0 Qsm t10.1 (min t12.1 (data1.length:Int)) (0:Int)
abbrev Z1h:List PE:=[.box 4 68 (Z4) (.u true),.box 6 68 (Z4) (.p (.u false) (.u true)),.box 7 65 (Vj) (.u true),.val 8 (.int .i64) (.u false)]
def Zhg(t4:Zo)(x6:Zo)(r7:Yj)(n8:Int):Option (Zo×Int×Unit):=some ((x6.1,(r7,x6.2.2)),n8,())
def Zmk(s0:Zo)(data1:List UInt8):Option (Zo×Int×Unit):=(Zci s0).bind fun t10=>(Xz s0).bind fun t12=>bif((!t12.1)|| (decide (s0.1>(1:Int))))|| (s0.2.2.2.2.2.1 !=(-1:Int))then some (t10.1,(0:Int),()) else (Zp6 s0.2.1 data1).bind fun t29=>bif decide (t29.2.1>(0:Int))then (Wy s0.2.2.1 (s0.2.1.2.2.1,(t29.1.2.2.1,()))).bind fun t42=>Zhg Zak (t10.1.1,(t10.1.2.1,(t42.1,t10.1.2.2.2))) t29.1 t29.2.1 else Zhg Zak t10.1 t29.1 t29.2.1
def Zd5(c0:Zg)(id1:Int)(data2:List UInt8):Option (Int×Zg×Unit):=(Z6 c0).bind fun t14=>(Qv c0 id1).bind fun t18=>(Jk c0).bind fun t22=>bif((!t22.1)|| (!t18.2.1))|| (!t18.1.2.2.2.2.2.2.1)then some ((0:Int),t14.1,()) else (Zmk t18.1.2.1 data2).bind fun t38=>(Qi t14.1.2.2.2.1 (t18.1.1,(t38.1,t18.1.2.2))).bind fun t46=>some (t38.2.1,(t14.1.1,(t14.1.2.1,(t14.1.2.2.1,(t46.1,t14.1.2.2.2.2)))),())
def Zmf(s0:Zo):Option (Zo×Bool×Unit):=(Zci s0).bind fun t6=>(Xz s0).bind fun t8=>bif((!t8.1)|| (decide (s0.1>(1:Int))))|| (s0.2.2.2.2.2.1 !=(-1:Int))then some (t6.1,false,()) else some ((t6.1.1,(t6.1.2.1,(t6.1.2.2.1,(t6.1.2.2.2.1,(t6.1.2.2.2.2.1,(s0.2.1.2.2.1,((1:Int),t6.1.2.2.2.2.2.2.2))))))),true,())
def Zcr(c0:Zg)(id1:Int):Option (Zg×Bool×Unit):=(Z6 c0).bind fun t12=>(Qv c0 id1).bind fun t16=>(Jk c0).bind fun t20=>bif((!t20.1)|| (!t16.2.1))|| (!t16.1.2.2.2.2.2.2.1)then some (t12.1,false,()) else (Zmf t16.1.2.1).bind fun t35=>bif !t35.2.1 then some (t12.1,false,()) else (Qi t12.1.2.2.2.1 (t16.1.1,(t35.1,t16.1.2.2))).bind fun t46=>some ((t12.1.1,(t12.1.2.1,(t12.1.2.2.1,(t46.1,t12.1.2.2.2.2)))),true,())
def Zp5(b0:Zq)(most1:Int):Option (List UInt8×Zq×Unit):=
 (Zau b0).bind fun t10=>
 (Zi8 b0).bind fun t15=>
 bif(min t10.1 (max most1 (0:Int)))==0 then
  some (([]:List UInt8),t15.1,())
 else
  Zi (0<=(0:Int)/\(0:Int)<t15.1.2.1.length)<|
  let t27:Int:=IntKind.i64.wrap (t15.1.1+ (min t10.1 (max most1 (0:Int))))
  bif(min t10.1 (max most1 (0:Int)))==((t15.1.2.1.getD (0:Int).toNat Qc).2.1.length:Int)then
   Zi (0<=(1:Int)/\(1:Int)<=(t15.1.2.1.length:Int)/\(t15.1.2.1.length:Int)<=t15.1.2.1.length)<|
   (Zi8 (t27,((t15.1.2.1.drop (1:Int).toNat).take ((t15.1.2.1.length:Int).toNat- (1:Int).toNat),t15.1.2.2))).bind fun t39=>
   some ((t15.1.2.1.getD (0:Int).toNat Qc).2.1,t39.1,())
  else
   Zi (0<=(min t10.1 (max most1 (0:Int)))/\(min t10.1 (max most1 (0:Int)))<=((t15.1.2.1.getD (0:Int).toNat Qc).2.1.length:Int)/\((t15.1.2.1.getD (0:Int).toNat Qc).2.1.length:Int)<=(t15.1.2.1.getD (0:Int).toNat Qc).2.1.length)<|
   Zi (0<=(0:Int)/\(0:Int)<t15.1.2.1.length)<|
   Zi (0<=(0:Int)/\(0:Int)<=(min t10.1 (max most1 (0:Int)))/\(min t10.1 (max most1 (0:Int)))<=(t15.1.2.1.getD (0:Int).toNat Qc).2.1.length)<|
   some (((t15.1.2.1.getD (0:Int).toNat Qc).2.1.drop (0:Int).toNat).take ((min t10.1 (max most1 (0:Int))).toNat- (0:Int).toNat),(t27,(t15.1.2.1.set (0:Int).toNat (t27,(((t15.1.2.1.getD (0:Int).toNat Qc).2.1.drop (min t10.1 (max most1 (0:Int))).toNat).take (((t15.1.2.1.getD (0:Int).toNat Qc).2.1.length:Int).toNat- (min t10.1 (max most1 (0:Int))).toNat),())),t15.1.2.2)),())
abbrev Zzt:List PE:=[.box 5 60 (Z7) (.u true),.box 6 60 (Z7) (.u false),.val 7 (.str) (.u false)]
def Zf9(t5:Zr)(x6:Zr)(s7:List UInt8):Option ((List UInt8×Zr×Unit)×(Unit)):=some ((s7,(x6,())),())
def Zk4(r0:Zr)(most1:Int):Option ((List UInt8×Zr×Unit)×(Unit)):=(Zgi r0).bind fun t10=>(Q5 r0).bind fun t12=>bif !t12.1 then some ((([]:List UInt8),(t10.1,())),()) else bif r0.1==4 then some ((([]:List UInt8),(((5:Int),t10.1.2),())),()) else (Zp5 r0.2.1 most1).bind fun t24=>bif(r0.1==2)&& (t24.2.1.1==r0.2.2.1)then Zf9 Zmt ((3:Int),(t24.2.1,t10.1.2.2)) t24.1 else Zf9 Zmt (t10.1.1,(t24.2.1,t10.1.2.2)) t24.1
def Zeu(w0:Qq)(n1:Int):Option (Qq×Bool×Unit):=(Vq w0).bind fun t7=>bif((!t7.1)|| (decide (n1< (0:Int))))|| (decide (n1>(IntKind.i64.wrap (w0.2.2.2.1-w0.2.2.2.2.1))))then some (w0,false,()) else some ((w0.1,(w0.2.1,(w0.2.2.1,(w0.2.2.2.1,(IntKind.i64.wrap (w0.2.2.2.2.1+n1),w0.2.2.2.2.2))))),true,())
def Zgd(x0:Zg)(s1:Zd)(to2:Int):Option ((Unit)×(Zg×Zd×Unit)):=
 let t18:Int:=max (0:Int) (IntKind.i64.wrap (to2-s1.2.2.2.2.1.2.2.2.2.1))
 (Zeu s1.2.2.2.2.1 t18).bind fun t25=>
 (Zeu x0.2.2.2.2.2.1 t18).bind fun t38=>
 some ((),((x0.1,(x0.2.1,(x0.2.2.1,(x0.2.2.2.1,(x0.2.2.2.2.1,(t38.1,x0.2.2.2.2.2.2)))))),((s1.1,(s1.2.1,(s1.2.2.1,(s1.2.2.2.1,(t25.1,s1.2.2.2.2.2))))),())))
def Znz(s0:Zd):Option (Bool×Unit):=some (((!s0.2.2.2.2.2.2.1)|| (s0.2.1.1==3))|| (s0.2.1.1==5),())
def Zj9(r0:Zr):Option (Bool×Unit):=(Q5 r0).bind fun t4=>some (t4.1&& ((r0.1==3)|| (r0.1==5)),())
def Zka(s0:Zd):Option (Bool×Unit):=(bif(!s0.2.2.2.2.2.2.2.1)then some (false,())else(Zj9 s0.2.2.2.1)).bind fun t9=>some ((!s0.2.2.2.2.2.2.2.1)||t9.1,())
def Zlr(s0:Zd):Option (Bool×Unit):=(Zb3 s0).bind fun t4=>(bif t4.1 then(Znz s0)else some (false,())).bind fun t7=>(bif(t4.1&&t7.1)then(Zka s0)else some (false,())).bind fun t11=>some ((t4.1&&t7.1)&&t11.1,())
def Zb1(a0:Q0):Option (Q0×Bool×Unit):=(Vb a0).bind fun t5=>bif(!t5.1)|| (a0.2.2.2.1==a0.2.2.1)then some (a0,false,()) else some ((a0.1,(a0.2.1,(a0.2.2.1,(IntKind.i64.wrap (a0.2.2.2.1+1),a0.2.2.2.2)))),true,())
def Zjp(x0:Zg)(s1:Zd):Option ((Unit)×(Zg×Zd×Unit)):=(bif s1.2.2.2.2.2.2.2.2.2.2.2.2.2.1 then some (false,())else(Zcw x0.1 s1.1)).bind fun t21=>(bif(s1.2.2.2.2.2.2.2.2.2.2.2.2.2.1||t21.1)then some (false,())else(Zlr s1)).bind fun t27=>bif(s1.2.2.2.2.2.2.2.2.2.2.2.2.2.1||t21.1)|| (!t27.1)then some ((),(x0,(s1,()))) else (Vc s1.1).bind fun t37=>bif t37.1 then (Zb1 x0.2.2.2.2.2.2.2.2.2.1).bind fun t43=>some ((),((x0.1,(x0.2.1,(x0.2.2.1,(x0.2.2.2.1,(x0.2.2.2.2.1,(x0.2.2.2.2.2.1,(x0.2.2.2.2.2.2.1,(x0.2.2.2.2.2.2.2.1,(x0.2.2.2.2.2.2.2.2.1,(t43.1,x0.2.2.2.2.2.2.2.2.2.2)))))))))),((s1.1,(s1.2.1,(s1.2.2.1,(s1.2.2.2.1,(s1.2.2.2.2.1,(s1.2.2.2.2.2.1,(s1.2.2.2.2.2.2.1,(s1.2.2.2.2.2.2.2.1,(s1.2.2.2.2.2.2.2.2.1,(s1.2.2.2.2.2.2.2.2.2.1,(s1.2.2.2.2.2.2.2.2.2.2.1,(s1.2.2.2.2.2.2.2.2.2.2.2.1,(s1.2.2.2.2.2.2.2.2.2.2.2.2.1,(true,s1.2.2.2.2.2.2.2.2.2.2.2.2.2.2)))))))))))))),()))) else (Zb1 x0.2.2.2.2.2.2.2.2.1).bind fun t55=>some ((),((x0.1,(x0.2.1,(x0.2.2.1,(x0.2.2.2.1,(x0.2.2.2.2.1,(x0.2.2.2.2.2.1,(x0.2.2.2.2.2.2.1,(x0.2.2.2.2.2.2.2.1,(t55.1,x0.2.2.2.2.2.2.2.2.2))))))))),((s1.1,(s1.2.1,(s1.2.2.1,(s1.2.2.2.1,(s1.2.2.2.2.1,(s1.2.2.2.2.2.1,(s1.2.2.2.2.2.2.1,(s1.2.2.2.2.2.2.2.1,(s1.2.2.2.2.2.2.2.2.1,(s1.2.2.2.2.2.2.2.2.2.1,(s1.2.2.2.2.2.2.2.2.2.2.1,(s1.2.2.2.2.2.2.2.2.2.2.2.1,(s1.2.2.2.2.2.2.2.2.2.2.2.2.1,(true,s1.2.2.2.2.2.2.2.2.2.2.2.2.2.2)))))))))))))),())))
def Jj(x0:Zg)(s1:Zd):Option ((Unit)×(Zg×Unit)):=(Zjp x0 s1).bind fun t5=>(Qi t5.2.1.2.2.2.1 t5.2.2.1).bind fun t12=>some ((),((t5.2.1.1,(t5.2.1.2.1,(t5.2.1.2.2.1,(t12.1,t5.2.1.2.2.2.2)))),()))
abbrev Z3v:List PE:=[.box 8 37 (Zp) (.u true),.box 9 37 (Zp) (.p (.u true) (.p (.p (.u true) (.p (.u true) (.p (.u true) (.p (.u true) (.p (.u true) (.p (.u true) (.p (.u true) (.p (.u true) (.u true))))))))) (.p (.p (.u true) (.p (.u true) (.p (.u true) (.p (.u true) (.p (.u true) (.p (.u true) (.p (.u true) (.p (.u true) (.u true))))))))) (.p (.u false) (.p (.p (.u true) (.p (.u true) (.p (.u true) (.p (.u true) (.u true))))) (.p (.p (.u true) (.p (.u true) (.p (.u true) (.p (.u true) (.p (.u true) (.p (.u true) (.u true))))))) (.p (.p (.u true) (.p (.u true) (.p (.u true) (.u true)))) (.p (.p (.u true) (.p (.u true) (.p (.u true) (.u true)))) (.p (.p (.u true) (.p (.u true) (.p (.u true) (.p (.u true) (.u true))))) (.p (.p (.u true) (.p (.u true) (.p (.u true) (.p (.u true) (.u true))))) (.p (.u true) (.p (.u true) (.p (.u true) (.p (.u true) (.p (.u true) (.p (.u false) (.p (.u true) (.p (.u true) (.u true))))))))))))))))))),.box 10 72 (Zu) (.u false),.val 12 (.str) (.u false),.box 13 60 (Z7) (.u false)]
def Wc(t8:Zg)(x9:Zg)(s10:Zd)(data12:List UInt8)(r13:Zr):Option ((List UInt8×Bool×Zg×Unit)×(Unit)):=(Jj x9 s10).bind fun t52=>some ((data12,((r13.1==3)|| (r13.1==5),(t52.2.1,()))),())
def Zfl(c0:Zg)(id1:Int)(most2:Int):Option ((List UInt8×Bool×Zg×Unit)×(Unit)):=(Z6 c0).bind fun t15=>(Qv c0 id1).bind fun t19=>(Jk c0).bind fun t23=>bif((!t23.1)|| (!t19.2.1))|| (!t19.1.2.2.2.2.2.2.2.1)then some ((([]:List UInt8),(false,(t15.1,()))),()) else (Zk4 t19.1.2.2.2.1 most2).bind fun t39=>bif decide (t39.1.2.1.1< (4:Int))then (Zgd t15.1 (t19.1.1,(t19.1.2.1,(t19.1.2.2.1,(t39.1.2.1,t19.1.2.2.2.2)))) t39.1.2.1.2.1.1).bind fun t50=>Wc Wt t50.2.1 t50.2.2.1 t39.1.1 t39.1.2.1 else Wc Wt t15.1 (t19.1.1,(t19.1.2.1,(t19.1.2.2.1,(t39.1.2.1,t19.1.2.2.2.2)))) t39.1.1 t39.1.2.1
abbrev Z1g:List PE:=[.val 1 (.int .i64) (.u false),.box 2 68 (Z4) (.u false),.box 4 68 (Z4) (.u true),.box 6 65 (Vj) (.p (.u false) (.p (.u false) (.p (.u false) (.p (.u true) (.u false)))))]
def Zhf(code1_1:Int)(s2:Zo)(t4:Zo)(r6:Yj):Option (Zo×Bool×Unit):=some (((4:Int),(r6,(([]:List Ze),(([]:List Ze),(([]:List Ze),(s2.2.2.2.2.2.2.2.1,((0:Int),(s2.2.2.2.2.2.2.2.1,(code1_1,()))))))))),true,())
def K0(s0:Zo)(code1:Int):Option (Zo×Bool×Unit):=
 (Xz s0).bind fun t8=>
 let t14:Bool:=(!t8.1)|| (decide (s0.1>(2:Int)))
 (bif t14 then some (false,())else(Qf code1)).bind fun t17=>
 bif t14|| (!t17.1)then
  (Zci s0).bind fun t21=>
  some (t21.1,false,())
 else
  Zwo (
   Zi (0<=s0.2.1.1/\s0.2.1.1<=s0.2.1.1/\s0.2.1.1<=Qo)<|
   Zo3 1 (
    Zhf code1 s0 Zak (s0.2.1.1,(s0.2.2.2.2.2.2.2.1,(s0.2.2.2.2.2.2.2.1,(List.replicate s0.2.1.1.toNat (0:Int),()))))
   )
  ) (
   Zi (0<=s0.2.1.1/\s0.2.1.1<=s0.2.1.1/\s0.2.1.1<=Qo)<|
   Zhf code1 s0 Zak (s0.2.1.1,(s0.2.2.2.2.2.2.2.1,(s0.2.2.2.2.2.2.2.1,(List.replicate s0.2.1.1.toNat (0:Int),()))))
  )
def Zd3(c0:Zg)(id1:Int)(code2:Int):Option ((Zg×Bool×Unit)×(Unit)):=(Z6 c0).bind fun t14=>(Qv c0 id1).bind fun t18=>(Jk c0).bind fun t22=>bif((!t22.1)|| (!t18.2.1))|| (!t18.1.2.2.2.2.2.2.1)then some ((t14.1,(false,())),()) else (K0 t18.1.2.1 code2).bind fun t38=>bif !t38.2.1 then some ((t14.1,(false,())),()) else Option.bind (Jj t14.1 (t18.1.1,(t38.1,(t18.1.2.2.1,(t18.1.2.2.2.1,(t18.1.2.2.2.2.1,(t18.1.2.2.2.2.2.1,(t18.1.2.2.2.2.2.2.1,(t18.1.2.2.2.2.2.2.2.1,(true,t18.1.2.2.2.2.2.2.2.2.2)))))))))) fun t48=>some ((t48.2.1,(true,())),())
abbrev Qhv:List PE:=[.val 0 (.str) (.u false),.val 1 (.int .u8) (.u false),.val 5 (.slice 9 (.str)) (.u true),.val 6 (.str) (.u false),.val 7 (.int .i64) (.u false)]
def Zlv(K1: (List UInt8×Int×List (List UInt8)×List UInt8×Int×Unit)->Option (List (List UInt8)×Unit))(s0_2:List UInt8)(by1_2:Int)(out5_1:List (List UInt8))(part6_2:List UInt8)(i7_1:Int):Option (List (List UInt8)×Unit):=K1 (s0_2,by1_2,out5_1,part6_2,IntKind.i64.wrap (i7_1+1),())
abbrev Qhw:List PE:=[.val 0 (.str) (.u false),.val 1 (.int .u8) (.u false),.val 5 (.slice 9 (.str)) (.u true),.val 6 (.str) (.u false),.val 7 (.int .i64) (.u false)]
def Zm2(s0_1:List UInt8)(by1_1:Int)(out5:List (List UInt8))(part6_1:List UInt8)(i7:Int):Nat:=((s0_1.length:Int)-i7).toNat+1
def Zis:Nat->List UInt8->Int->List (List UInt8)->List UInt8->Int->Option (List (List UInt8)×Unit)
 |0,_,_,_,_,_=>none
 |N+1,s0_1,by1_1,out5,part6_1,i7=>
  bif decide (i7< (s0_1.length:Int))then
   Zi (0<=i7/\i7<s0_1.length)<|
   bif((s0_1.getD i7.toNat 0).toNat:Int)==by1_1 then
    Zi (out5.length+ ([part6_1]).length<=Qo)<|
    Zlv (fun v=>Zis N v.1 v.2.1 v.2.2.1 v.2.2.2.1 v.2.2.2.2.1) s0_1 by1_1 (out5++ ([part6_1])) ([]:List UInt8) i7
   else
    Zi (0<=i7/\i7<=(IntKind.i64.wrap (i7+1))/\(IntKind.i64.wrap (i7+1))<=s0_1.length)<|
    let t29:List UInt8:=(s0_1.drop i7.toNat).take ((IntKind.i64.wrap (i7+1)).toNat-i7.toNat)
    Zi (part6_1.length+t29.length<=Zqi)<|
    Zlv (fun v=>Zis N v.1 v.2.1 v.2.2.1 v.2.2.2.1 v.2.2.2.2.1) s0_1 by1_1 out5 (part6_1++t29) i7
  else
   Zi (out5.length+ ([part6_1]).length<=Qo)<|
   some (out5++ ([part6_1]),())
def Zv0(s0:List UInt8)(by1:Int):Option (List (List UInt8)×Unit):=Zis (Zm2 s0 by1 ([]:List (List UInt8)) ([]:List UInt8) (0:Int)) s0 by1 ([]:List (List UInt8)) ([]:List UInt8) (0:Int)
abbrev Qea:List PE:=[.val 0 (.str) (.u false)]
def Zlx(s0_2:List UInt8):Nat:=((s0_2.length:Int)- (0:Int)).toNat+1
def Zkd:Nat->List UInt8->Option (List UInt8×Unit)
 |0,_=>none
 |N+1,s0_2=>
  let t20:Int:=IntKind.i64.wrap ((s0_2.length:Int)- (1:Int))
  Zi (((decide ((s0_2.length:Int)>(0:Int)))=true->(0<=t20/\t20<s0_2.length)))<|
  bif(decide ((s0_2.length:Int)>(0:Int)))&& (((s0_2.getD t20.toNat 0).toNat:Int)==(32:Int))then
   let t27:Int:=IntKind.i64.wrap ((s0_2.length:Int)- (1:Int))
   Zi (0<=(0:Int)/\(0:Int)<=t27/\t27<=s0_2.length)<|
   Zkd N ((s0_2.drop (0:Int).toNat).take (t27.toNat- (0:Int).toNat))
  else
   some (s0_2,())
abbrev Qd9:List PE:=[.val 0 (.str) (.u false)]
def Zlw(s0_1:List UInt8):Nat:=((s0_1.length:Int)- (0:Int)).toNat+1
def Zkc:Nat->List UInt8->Option (List UInt8×Unit)|0,_=>none|N+1,s0_1=>Zi (((decide ((s0_1.length:Int)>(0:Int)))=true->(0<=(0:Int)/\(0:Int)<s0_1.length)))<|bif(decide ((s0_1.length:Int)>(0:Int)))&& (((s0_1.getD (0:Int).toNat 0).toNat:Int)==(32:Int))then Zi (0<=(1:Int)/\(1:Int)<=(s0_1.length:Int)/\(s0_1.length:Int)<=s0_1.length)<|Zkc N ((s0_1.drop (1:Int).toNat).take ((s0_1.length:Int).toNat- (1:Int).toNat)) else Zkd (Zlx s0_1) s0_1
def Ztk(s0:List UInt8):Option (List UInt8×Unit):=Zkc (Zlw s0) s0
abbrev Zx3:List PE:=[.box 2 70 (Yz) (.u false),.box 4 70 (Yz) (.u false),.val 5 (.slice 9 (.str)) (.u true),.val 6 (.int .i64) (.u false)]
def Jc(K1: (Xf×Xf×List (List UInt8)×Int×Unit)->Option (Xf×Unit))(base2_2:Xf)(t4_2:Xf)(l5_1:List (List UInt8))(i6_1:Int):Option (Xf×Unit):=K1 (base2_2,t4_2,l5_1,IntKind.i64.wrap (i6_1+1),())
abbrev Zx4:List PE:=[.box 2 70 (Yz) (.u false),.box 4 70 (Yz) (.u false),.val 5 (.slice 9 (.str)) (.u true),.val 6 (.int .i64) (.u false)]
def Zeq(base2_1:Xf)(t4_1:Xf)(l5:List (List UInt8))(i6:Int):Nat:=((l5.length:Int)-i6).toNat+1
def Yc:Nat->Xf->Xf->List (List UInt8)->Int->Option (Xf×Unit)
 |0,_,_,_,_=>none
 |N+1,base2_1,t4_1,l5,i6=>
  bif decide (i6< (l5.length:Int))then
   Zi (0<=i6/\i6<l5.length)<|
   (Ztk (l5.getD i6.toNat ([]:List UInt8))).bind fun t24=>
   bif(t24.1==([105]:List UInt8))|| (t24.1==([105,61,63,49]:List UInt8))then
    Jc (fun v=>Yc N v.1 v.2.1 v.2.2.1 v.2.2.2.1) (base2_1.1,(true,base2_1.2.2)) t4_1 l5 i6
   else
    bif t24.1==([105,61,63,48]:List UInt8)then
     Jc (fun v=>Yc N v.1 v.2.1 v.2.2.1 v.2.2.2.1) (base2_1.1,(false,base2_1.2.2)) t4_1 l5 i6
    else
     Zi ((((t24.1.length:Int)==(3:Int))=true->(0<=(0:Int)/\(0:Int)<=(2:Int)/\(2:Int)<=t24.1.length)))<|
     let t45:Bool:=((t24.1.length:Int)==(3:Int))&& (((t24.1.drop (0:Int).toNat).take ((2:Int).toNat- (0:Int).toNat))==([117,61]:List UInt8))
     Zi ((t45=true->(0<=(2:Int)/\(2:Int)<t24.1.length)))<|
     let t50:Bool:=t45&& (decide (((t24.1.getD (2:Int).toNat 0).toNat:Int)>=(48:Int)))
     Zi ((t50=true->(0<=(2:Int)/\(2:Int)<t24.1.length)))<|
     bif t50&& (decide (((t24.1.getD (2:Int).toNat 0).toNat:Int)<=(55:Int)))then
      Zi (0<=(2:Int)/\(2:Int)<t24.1.length)<|
      Jc (fun v=>Yc N v.1 v.2.1 v.2.2.1 v.2.2.2.1) (IntKind.i64.wrap (IntKind.u8.wrap (((t24.1.getD (2:Int).toNat 0).toNat:Int)- (48:Int))),base2_1.2) t4_1 l5 i6
     else
      Jc (fun v=>Yc N v.1 v.2.1 v.2.2.1 v.2.2.2.1) base2_1 t4_1 l5 i6
  else
   some (base2_1,())
abbrev Zx2:List PE:=[.val 1 (.str) (.u false),.box 2 70 (Yz) (.u false),.box 4 70 (Yz) (.u false)]
def Zbl(s1_1:List UInt8)(base2:Xf)(t4:Xf):Option (Xf×Unit):=(Zv0 s1_1 (44:Int)).bind fun t13=>Yc (Zeq base2 t4 t13.1 (0:Int)) base2 t4 t13.1 (0:Int)
def Zjn(base0:Xf)(s1:List UInt8):Option (Xf×Unit):=(Zat base0).bind fun t9=>bif !t9.1 then Option.bind Wp fun t11=>Zbl s1 t11.1 ((0:Int),(false,())) else Zbl s1 base0 ((0:Int),(false,()))
def Zd4(c0:Zg)(id1:Int)(text2:List UInt8):Option (Zg×Bool×Unit):=(Z6 c0).bind fun t12=>(Qv c0 id1).bind fun t16=>(Jk c0).bind fun t20=>bif((!t20.1)|| (!t16.2.1))|| (!t16.1.2.2.2.2.2.2.1)then some (t12.1,false,()) else (Zjn t16.1.2.2.2.2.2.1 text2).bind fun t35=>Option.bind (Qi t12.1.2.2.2.1 (t16.1.1,(t16.1.2.1,(t16.1.2.2.1,(t16.1.2.2.2.1,(t16.1.2.2.2.2.1,(t35.1,t16.1.2.2.2.2.2.2))))))) fun t40=>some ((t12.1.1,(t12.1.2.1,(t12.1.2.2.1,(t40.1,t12.1.2.2.2.2)))),true,())
def Zik(w0:Qq):Option (Bool×Unit):=
 (Vq w0).bind fun t4=>
 let t9:Bool:=t4.1&& (decide (w0.2.2.1< (4611686018427387903:Int)))
 Zi ((t9=true->((2:Int)≠0)))<|
 some (t9&& (decide ((IntKind.i64.wrap ((IntKind.i64.wrap (w0.2.2.2.2.1+w0.1))-w0.2.2.1))>=(IntKind.i64.wrap (Int.tdiv (IntKind.i64.wrap (w0.1+1)) (2:Int))))),())
abbrev Z1a:List PE:=[.val 1 (.int .i64) (.u false),.box 3 30 (Yf) (.u false),.box 6 30 (Yf) (.u false)]
def Zhd(now1_1:Int)(w3:Qq)(t6:Qq):Option (Qq×Bool×Unit):=some ((w3.1,(w3.2.1,(min (IntKind.i64.wrap (w3.2.2.2.2.1+w3.1)) (4611686018427387903:Int),(w3.2.2.2.1,(w3.2.2.2.2.1,(now1_1,w3.2.2.2.2.2.2)))))),true,())
def Zir(w0:Qq)(now1:Int)(trip2:Int):Option (Qq×Bool×Unit):=(Zik w0).bind fun t9=>(bif(!t9.1)then some (false,())else(Z5 now1 w0.2.2.2.2.2.1 (1000000:Int))).bind fun t15=>(bif((!t9.1)|| (!t15.1))then some (false,())else(Z5 trip2 (1:Int) (1000:Int))).bind fun t20=>bif((!t9.1)|| (!t15.1))|| (!t20.1)then some (w0,false,()) else bif decide ((IntKind.i64.wrap (now1-w0.2.2.2.2.2.1))< (IntKind.i64.wrap ((2:Int)*trip2)))then Zhd now1 (min (IntKind.i64.wrap ((2:Int)*w0.1)) w0.2.1,w0.2) Qlx else Zhd now1 w0 Qlx
def Znk(c0:Zg):Option (Qq×Bool×Unit):=(Zik c0.2.2.2.2.2.1).bind fun t8=>bif t8.1 then (Zir c0.2.2.2.2.2.1 c0.2.2.2.2.2.2.2.2.2.2.2.2.2.2.2.2.1 c0.2.1.2.2.2.2.2.2.2.1).bind fun t17=>some (t17.1,t17.2.1,()) else some (c0.2.2.2.2.2.1,c0.2.2.2.2.2.2.2.2.2.2.1,())
def Zlt(a0:Q0):Option (Bool×Unit):=(Vb a0).bind fun t4=>Zi ((t4.1=true->((2:Int)≠0)))<|some ((t4.1&& (decide ((IntKind.i64.wrap ((IntKind.i64.wrap (a0.2.2.2.1+a0.1))-a0.2.1))>=(IntKind.i64.wrap (Int.tdiv (IntKind.i64.wrap (a0.1+1)) (2:Int))))))&& (decide (a0.1>(0:Int))),())
def Zn2(a0:Q0):Option (Q0×Bool×Unit):=(Zlt a0).bind fun t5=>bif(!t5.1)|| (decide ((IntKind.i64.wrap (a0.2.2.2.1+a0.1))>1152921504606846976))then some (a0,false,()) else some ((a0.1,(IntKind.i64.wrap (a0.2.2.2.1+a0.1),a0.2.2)),true,())
def Zgx(a0:Q0)(tell1:Bool):Option (Q0×Bool×Unit):=(Zlt a0).bind fun t9=>bif t9.1 then (Zn2 a0).bind fun t12=>some (t12.1,t12.2.1,()) else some (a0,tell1,())
def Zl3(c0:Zg)(s1:Zd):Option (Qq×Bool×Unit):=bif((!s1.2.2.2.2.2.2.2.1)|| (s1.2.2.2.1.1 !=0))||s1.2.2.2.2.2.2.2.2.2.2.2.1 then some (s1.2.2.2.2.1,false,()) else (Zik s1.2.2.2.2.1).bind fun t25=>bif t25.1 then (Zir s1.2.2.2.2.1 c0.2.2.2.2.2.2.2.2.2.2.2.2.2.2.2.2.1 c0.2.1.2.2.2.2.2.2.2.1).bind fun t34=>some (t34.1,t34.2.1,()) else some (s1.2.2.2.2.1,s1.2.2.2.2.2.2.2.2.2.2.1,())
def Zng(c0:Q0):Option (Bool×Unit):=(Ye c0).bind fun t4=>some (t4.1&& (c0.2.2.1==c0.1),())
abbrev Z6n:List PE:=[.box 3 72 (Zu) (.u false),.val 5 (.slice 39 (Zx)) (.u true)]
def Zgg(s3_2:Zd)(out5_2:List Zl):Option (List Zl×Unit):=
 (Zng s3_2.2.2.1).bind fun t56=>
 bif(t56.1&&s3_2.2.2.2.2.2.2.1)&& (decide ((s3_2.2.1.2.2.1.length:Int)>(0:Int)))then
  let t75:List Zl:=[((21:Int),(s3_2.1,((0:Int),(([]:List UInt8),(false,((0:Int),(s3_2.2.2.1.1,((0:Int),(false,())))))))))]
  Zi (out5_2.length+t75.length<=Qo)<|
  some (out5_2++t75,())
 else
  some (out5_2,())
abbrev Z6m:List PE:=[.box 2 37 (Zp) (.u false),.box 3 72 (Zu) (.u false),.val 5 (.slice 39 (Zx)) (.u true)]
def Zgf(c2_1:Zg)(s3_1:Zd)(out5_1:List Zl):Option (List Zl×Unit):=
 (Zl3 c2_1 s3_1).bind fun t42=>
 bif t42.2.1 then
  let t52:List Zl:=[((17:Int),(s3_1.1,((0:Int),(([]:List UInt8),(false,((0:Int),(t42.1.2.2.1,((0:Int),(false,())))))))))]
  Zi (out5_1.length+t52.length<=Qo)<|
  Zgg s3_1 (out5_1++t52)
 else
  Zgg s3_1 out5_1
abbrev Z6l:List PE:=[.box 2 37 (Zp) (.u false),.box 3 72 (Zu) (.u false),.val 5 (.slice 39 (Zx)) (.u true)]
def Zge(c2:Zg)(s3:Zd)(out5:List Zl):Option (List Zl×Unit):=
 bif s3.2.2.2.2.2.2.2.2.2.1&& (decide (s3.2.2.2.1.1< (2:Int)))then
  let t37:List Zl:=[((5:Int),(s3.1,((0:Int),(([]:List UInt8),(false,(s3.2.2.2.2.2.2.2.2.2.2.2.2.1,((0:Int),((0:Int),(false,())))))))))]
  Zi (out5.length+t37.length<=Qo)<|
  Zgf c2 s3 (out5++t37)
 else
  Zgf c2 s3 out5
def Zp8(c0:Zg)(s1:Zd):Option (List Zl×Unit):=
 bif s1.2.2.2.2.2.2.2.2.1 then
  let t21:List Zl:=[((4:Int),(s1.1,((0:Int),(([]:List UInt8),(false,(s1.2.1.2.2.2.2.2.2.2.2.1,((0:Int),(s1.2.1.2.2.2.2.2.2.2.1,(false,())))))))))]
  Zi (([]:List Zl).length+t21.length<=Qo)<|
  Zge c0 s1 (([]:List Zl)++t21)
 else
  Zge c0 s1 ([]:List Zl)
abbrev Zxy:List PE:=[.box 1 37 (Zp) (.u false),.val 3 (.slice 39 (Zx)) (.u true)]
def Zbf(c1_5:Zg)(out3_5:List Zl):Option (List Zl×Unit):=
 bif c1_5.2.2.2.2.2.2.2.1.2.2.1==c1_5.2.2.2.2.2.2.2.1.1 then
  let t110:List Zl:=[((22:Int),((0:Int),((0:Int),(([]:List UInt8),(false,((0:Int),(c1_5.2.2.2.2.2.2.2.1.1,((0:Int),(true,())))))))))]
  Zi (out3_5.length+t110.length<=Qo)<|
  some (out3_5++t110,())
 else
  some (out3_5,())
abbrev Zxx:List PE:=[.box 1 37 (Zp) (.u false),.val 3 (.slice 39 (Zx)) (.u true)]
def Zbe(c1_4:Zg)(out3_4:List Zl):Option (List Zl×Unit):=
 bif c1_4.2.2.2.2.2.2.1.2.2.1==c1_4.2.2.2.2.2.2.1.1 then
  let t96:List Zl:=[((22:Int),((0:Int),((0:Int),(([]:List UInt8),(false,((0:Int),(c1_4.2.2.2.2.2.2.1.1,((0:Int),(false,())))))))))]
  Zi (out3_4.length+t96.length<=Qo)<|
  Zbf c1_4 (out3_4++t96)
 else
  Zbf c1_4 out3_4
abbrev Zxz:List PE:=[.box 1 37 (Zp) (.u false),.val 3 (.slice 39 (Zx)) (.u true),.val 10 (.int .i64) (.u false)]
def Zel(c1_3:Zg)(out3_3:List Zl)(i10:Int):Nat:=((c1_3.2.2.2.1.length:Int)-i10).toNat+1
def Zbg:Nat->Zg->List Zl->Int->Option (List Zl×Unit)
 |0,_,_,_=>none
 |N+1,c1_3,out3_3,i10=>
  bif decide (i10< (c1_3.2.2.2.1.length:Int))then
   Zi (0<=i10/\i10<c1_3.2.2.2.1.length)<|
   (Zp8 c1_3 (c1_3.2.2.2.1.getD i10.toNat Zh)).bind fun t72=>
   Zi (out3_3.length+t72.1.length<=Qo)<|
   Zbg N c1_3 (out3_3++t72.1) (IntKind.i64.wrap (i10+1))
  else
   (Zng c1_3.2.2.2.2.1).bind fun t76=>
   bif t76.1 then
    let t82:List Zl:=[((20:Int),((0:Int),((0:Int),(([]:List UInt8),(false,((0:Int),(c1_3.2.2.2.2.1.1,((0:Int),(false,())))))))))]
    Zi (out3_3.length+t82.length<=Qo)<|
    Zbe c1_3 (out3_3++t82)
   else
    Zbe c1_3 out3_3
abbrev Zxw:List PE:=[.box 1 37 (Zp) (.u false),.val 3 (.slice 39 (Zx)) (.u true)]
def Zbd(c1_2:Zg)(out3_2:List Zl):Option (List Zl×Unit):=Zbg (Zel c1_2 out3_2 (0:Int)) c1_2 out3_2 (0:Int)
abbrev Zxv:List PE:=[.box 1 37 (Zp) (.u false),.val 3 (.slice 39 (Zx)) (.u true)]
def Zbc(c1_1:Zg)(out3_1:List Zl):Option (List Zl×Unit):=
 (Zgx c1_1.2.2.2.2.2.2.2.2.2.1 c1_1.2.2.2.2.2.2.2.2.2.2.2.2.1).bind fun t48=>
 bif t48.2.1 then
  let t56:List Zl:=[((18:Int),((0:Int),((0:Int),(([]:List UInt8),(false,((0:Int),(t48.1.2.1,((0:Int),(true,())))))))))]
  Zi (out3_1.length+t56.length<=Qo)<|
  Zbd c1_1 (out3_1++t56)
 else
  Zbd c1_1 out3_1
abbrev Zxu:List PE:=[.box 1 37 (Zp) (.u false),.val 3 (.slice 39 (Zx)) (.u true)]
def Zbb(c1:Zg)(out3:List Zl):Option (List Zl×Unit):=
 (Zgx c1.2.2.2.2.2.2.2.2.1 c1.2.2.2.2.2.2.2.2.2.2.2.1).bind fun t33=>
 bif t33.2.1 then
  let t41:List Zl:=[((18:Int),((0:Int),((0:Int),(([]:List UInt8),(false,((0:Int),(t33.1.2.1,((0:Int),(false,())))))))))]
  Zi (out3.length+t41.length<=Qo)<|
  Zbc c1 (out3++t41)
 else
  Zbc c1 out3
def Zjj(c0:Zg):Option (List Zl×Unit):=
 (Jk c0).bind fun t13=>
 bif !t13.1 then
  some (([]:List Zl),())
 else
  (Znk c0).bind fun t18=>
  bif t18.2.1 then
   let t26:List Zl:=[((16:Int),((0:Int),((0:Int),(([]:List UInt8),(false,((0:Int),(t18.1.2.2.1,((0:Int),(false,())))))))))]
   Zi (([]:List Zl).length+t26.length<=Qo)<|
   Zbb c0 (([]:List Zl)++t26)
  else
   Zbb c0 ([]:List Zl)
def Zni(n0:Int):Option (Int×Unit):=bif(decide (n0< (0:Int)))|| (decide (n0>(4611686018427387903:Int)))then some ((0:Int),()) else bif decide (n0< (64:Int))then some ((1:Int),()) else bif decide (n0< (16384:Int))then some ((2:Int),()) else bif decide (n0< (1073741824:Int))then some ((4:Int),()) else some ((8:Int),())
abbrev Z0x:List PE:=[.val 0 (.int .i64) (.u false),.val 1 (.int .i64) (.u false),.val 5 (.str) (.u false),.val 6 (.int .i64) (.u false)]
def Zne(n0_1:Int)(width1_1:Int)(out5_1:List UInt8)(i6:Int):Nat:=(width1_1-i6).toNat+1
def Y6:Nat->Int->Int->List UInt8->Int->Option (List UInt8×Unit)
 |0,_,_,_,_=>none
 |N+1,n0_1,width1_1,out5_1,i6=>
  bif decide (i6<width1_1)then
   Zi ((256:Int)≠0)<|
   let t23:List UInt8:=Zl6 ([(IntKind.u8.wrap (Int.tmod n0_1 (256:Int)))])
   Zi (t23.length+out5_1.length<=Zqi)<|
   Zi ((256:Int)≠0)<|
   Y6 N (IntKind.i64.wrap (Int.tdiv n0_1 (256:Int))) width1_1 (t23++out5_1) (IntKind.i64.wrap (i6+1))
  else
   bif decide (n0_1>(0:Int))then
    some (([]:List UInt8),())
   else
    some (out5_1,())
def Zmg(n0:Int)(width1:Int):Option (List UInt8×Unit):=(Z5 width1 (1:Int) (7:Int)).bind fun t8=>bif(!t8.1)|| (decide (n0< (0:Int)))then some (([]:List UInt8),()) else Y6 (Zne n0 width1 ([]:List UInt8) (0:Int)) n0 width1 ([]:List UInt8) (0:Int)
def Zi6(n0:Int):Option (List UInt8×Unit):=(Zmg (bits .and .i64 n0 (255:Int)) (1:Int)).bind fun t5=>some (t5.1,())
abbrev Z3d:List PE:=[.val 0 (.int .i64) (.u false),.val 3 (.int .i64) (.u false),.val 4 (.str) (.u false),.val 5 (.int .i64) (.u false),.val 6 (.int .i64) (.u false)]
def Ju(K1: (Int×Int×List UInt8×Int×Unit)->Option (List UInt8×Unit))(n0_2:Int)(k3_1:Int)(s4_2:List UInt8)(i5_1:Int)(b6:Int):Option (List UInt8×Unit):=(Zi6 b6).bind fun t39=>Zi (s4_2.length+t39.1.length<=Zqi)<|K1 (n0_2,k3_1,s4_2++t39.1,IntKind.i64.wrap (i5_1-1),())
abbrev Z3e:List PE:=[.val 0 (.int .i64) (.u false),.val 3 (.int .i64) (.u false),.val 4 (.str) (.u false),.val 5 (.int .i64) (.u false)]
def Zie(n0_1:Int)(k3:Int)(s4_1:List UInt8)(i5:Int):Nat:=(i5-0).toNat+2
def X8:Nat->Int->Int->List UInt8->Int->Option (List UInt8×Unit)
 |0,_,_,_,_=>none
 |N+1,n0_1,k3,s4_1,i5=>
  bif decide (i5>=(0:Int))then
   Zi (0<=(IntKind.i64.wrap ((8:Int)*i5)))<|
   let t19:Int:=bits .and .i64 (n0_1.fdiv (2^ (min (IntKind.i64.wrap ((8:Int)*i5)).toNat IntKind.i64.bits))) (255:Int)
   bif i5==(IntKind.i64.wrap (k3-1))then
    bif k3==2 then
     Ju (fun v=>X8 N v.1 v.2.1 v.2.2.1 v.2.2.2.1) n0_1 k3 s4_1 i5 (bits .or .i64 t19 (64:Int))
    else
     bif k3==4 then
      Ju (fun v=>X8 N v.1 v.2.1 v.2.2.1 v.2.2.2.1) n0_1 k3 s4_1 i5 (bits .or .i64 t19 (128:Int))
     else
      bif k3==8 then
       Ju (fun v=>X8 N v.1 v.2.1 v.2.2.1 v.2.2.2.1) n0_1 k3 s4_1 i5 (bits .or .i64 t19 (192:Int))
      else
       Ju (fun v=>X8 N v.1 v.2.1 v.2.2.1 v.2.2.2.1) n0_1 k3 s4_1 i5 t19
   else
    Ju (fun v=>X8 N v.1 v.2.1 v.2.2.1 v.2.2.2.1) n0_1 k3 s4_1 i5 t19
  else
   some (s4_1,())
def Znw(n0:Int):Option (List UInt8×Unit):=(Zni n0).bind fun t8=>X8 (Zie n0 t8.1 ([]:List UInt8) (IntKind.i64.wrap (t8.1-1))) n0 t8.1 ([]:List UInt8) (IntKind.i64.wrap (t8.1-1))
abbrev Z02:List PE:=[.val 0 (.slice 3 (.int .i64)) (.u false),.val 3 (.str) (.u false),.val 4 (.int .i64) (.u false)]
def Zgq(l0_1:List Int)(s3_1:List UInt8)(i4:Int):Nat:=((l0_1.length:Int)-i4).toNat+1
def Zde:Nat->List Int->List UInt8->Int->Option (List UInt8×Unit)|0,_,_,_=>none|N+1,l0_1,s3_1,i4=>bif decide (i4< (l0_1.length:Int))then Zi (0<=i4/\i4<l0_1.length)<|(Zni (l0_1.getD i4.toNat (0:Int))).bind fun t15=>bif t15.1==0 then some (([]:List UInt8),()) else Zi (0<=i4/\i4<l0_1.length)<|(Znw (l0_1.getD i4.toNat (0:Int))).bind fun t22=>Zi (s3_1.length+t22.1.length<=Zqi)<|Zde N l0_1 (s3_1++t22.1) (IntKind.i64.wrap (i4+1)) else some (s3_1,())
def X5(l0:List Int):Option (List UInt8×Unit):=Zde (Zgq l0 ([]:List UInt8) (0:Int)) l0 ([]:List UInt8) (0:Int)
abbrev Z0y:List PE:=[.box 1 39 (Zx) (.u false),.val 3 (.int .i64) (.u false)]
def Zg8(f1:Zl)(kind3:Int):Option (List UInt8×Unit):=bif f1.2.2.1==0 then (X5 ([kind3,f1.2.1,(f1.2.2.2.1.length:Int)])).bind fun t44=>Zi (t44.1.length+f1.2.2.2.1.length<=Zqi)<|some (t44.1++f1.2.2.2.1,()) else (X5 ([(IntKind.i64.wrap (kind3+4)),f1.2.1,f1.2.2.1,(f1.2.2.2.1.length:Int)])).bind fun t58=>Zi (t58.1.length+f1.2.2.2.1.length<=Zqi)<|some (t58.1++f1.2.2.2.1,())
abbrev Z01:List PE:=[.box 1 39 (Zx) (.u false),.val 4 (.int .i64) (.u false)]
def Zhb(f1_3:Zl)(kind4:Int):Option (List UInt8×Unit):=(X5 ([kind4,f1_3.2.2.2.2.2.2.1])).bind fun t92=>some (t92.1,())
abbrev Z00:List PE:=[.box 1 39 (Zx) (.u false),.val 71 (.bool) (.u false)]
def Zha(f1_2:Zl)(t71:Bool):Option (List UInt8×Unit):=bif t71 then (X5 ([f1_2.1,f1_2.2.1,f1_2.2.2.2.2.2.2.1])).bind fun t81=>some (t81.1,()) else bif f1_2.2.2.2.2.2.2.2.2.1 then Zhb f1_2 (IntKind.i64.wrap (f1_2.1+1)) else Zhb f1_2 f1_2.1
abbrev Z0z:List PE:=[.box 1 39 (Zx) (.u false),.val 9 (.int .i64) (.u false),.val 62 (.bool) (.u false)]
def Zg9(f1_1:Zl)(t9:Int)(t62:Bool):Option (List UInt8×Unit):=bif t62 then (X5 ([f1_1.1,f1_1.2.2.2.2.2.2.1])).bind fun t70=>some (t70.1,()) else bif t9==17 then Zha f1_1 (t9==17) else Zha f1_1 (t9==21)
def Zid(f0:Zl):Option (List UInt8×Unit):=(Zae f0).bind fun t6=>bif !t6.1 then some (([]:List UInt8),()) else bif f0.1==4 then (X5 ([(4:Int),f0.2.1,f0.2.2.2.2.2.1,f0.2.2.2.2.2.2.2.1])).bind fun t19=>some (t19.1,()) else bif f0.1==5 then (X5 ([(5:Int),f0.2.1,f0.2.2.2.2.2.1])).bind fun t27=>some (t27.1,()) else bif f0.1==8 then bif f0.2.2.2.2.1 then Zg8 f0 (IntKind.i64.wrap ((10:Int)+ (1:Int))) else Zg8 f0 (10:Int) else bif f0.1==16 then Zg9 f0 f0.1 (f0.1==16) else Zg9 f0 f0.1 (f0.1==20)
def Zeo(f0:Zl):Option (Int×Unit):=(Zid f0).bind fun t4=>some ((t4.1.length:Int),())
def Zf0(c0:Q0):Option (Q0×Unit):=(Ye c0).bind fun t4=>bif t4.1&& (c0.2.2.1 !=(-1:Int))then some ((c0.1,(c0.2.1,((-1:Int),(c0.2.2.1,c0.2.2.2.2)))),()) else some (c0,())
def Zmo(c0:Zg)(s1:Zd)(kind2:Int):Option ((Zd×Unit)×(Unit)):=bif kind2==4 then some (((s1.1,(s1.2.1,(s1.2.2.1,(s1.2.2.2.1,(s1.2.2.2.2.1,(s1.2.2.2.2.2.1,(s1.2.2.2.2.2.2.1,(s1.2.2.2.2.2.2.2.1,(false,s1.2.2.2.2.2.2.2.2.2))))))))),()),()) else bif kind2==5 then some (((s1.1,(s1.2.1,(s1.2.2.1,(s1.2.2.2.1,(s1.2.2.2.2.1,(s1.2.2.2.2.2.1,(s1.2.2.2.2.2.2.1,(s1.2.2.2.2.2.2.2.1,(s1.2.2.2.2.2.2.2.2.1,(false,s1.2.2.2.2.2.2.2.2.2.2)))))))))),()),()) else bif kind2==17 then (Zl3 c0 s1).bind fun t21=>bif t21.2.1 then some (((s1.1,(s1.2.1,(s1.2.2.1,(s1.2.2.2.1,(t21.1,(s1.2.2.2.2.2.1,(s1.2.2.2.2.2.2.1,(s1.2.2.2.2.2.2.2.1,(s1.2.2.2.2.2.2.2.2.1,(s1.2.2.2.2.2.2.2.2.2.1,(false,s1.2.2.2.2.2.2.2.2.2.2.2))))))))))),()),()) else some (((s1.1,(s1.2.1,(s1.2.2.1,(s1.2.2.2.1,(s1.2.2.2.2.1,(s1.2.2.2.2.2.1,(s1.2.2.2.2.2.2.1,(s1.2.2.2.2.2.2.2.1,(s1.2.2.2.2.2.2.2.2.1,(s1.2.2.2.2.2.2.2.2.2.1,(false,s1.2.2.2.2.2.2.2.2.2.2.2))))))))))),()),()) else bif kind2==21 then (Zf0 s1.2.2.1).bind fun t32=>some (((s1.1,(s1.2.1,(t32.1,s1.2.2.2))),()),()) else some ((s1,()),())
def Zd1(c0:Zg)(f1:Zl):Option (Zg×Unit):=(Z6 c0).bind fun t15=>(Y2 c0).bind fun t17=>bif !t17.1 then some (t15.1,()) else bif f1.1==16 then (Znk c0).bind fun t43=>some ((t15.1.1,(t15.1.2.1,(t15.1.2.2.1,(t15.1.2.2.2.1,(t15.1.2.2.2.2.1,(t43.1,(t15.1.2.2.2.2.2.2.1,(t15.1.2.2.2.2.2.2.2.1,(t15.1.2.2.2.2.2.2.2.2.1,(t15.1.2.2.2.2.2.2.2.2.2.1,(false,t15.1.2.2.2.2.2.2.2.2.2.2.2))))))))))),()) else bif f1.1==18 then bif f1.2.2.2.2.2.2.2.2.1 then (Zgx c0.2.2.2.2.2.2.2.2.2.1 false).bind fun t56=>some ((t15.1.1,(t15.1.2.1,(t15.1.2.2.1,(t15.1.2.2.2.1,(t15.1.2.2.2.2.1,(t15.1.2.2.2.2.2.1,(t15.1.2.2.2.2.2.2.1,(t15.1.2.2.2.2.2.2.2.1,(t15.1.2.2.2.2.2.2.2.2.1,(t56.1,(t15.1.2.2.2.2.2.2.2.2.2.2.1,(t15.1.2.2.2.2.2.2.2.2.2.2.2.1,(false,t15.1.2.2.2.2.2.2.2.2.2.2.2.2.2))))))))))))),()) else (Zgx c0.2.2.2.2.2.2.2.2.1 false).bind fun t65=>some ((t15.1.1,(t15.1.2.1,(t15.1.2.2.1,(t15.1.2.2.2.1,(t15.1.2.2.2.2.1,(t15.1.2.2.2.2.2.1,(t15.1.2.2.2.2.2.2.1,(t15.1.2.2.2.2.2.2.2.1,(t65.1,(t15.1.2.2.2.2.2.2.2.2.2.1,(t15.1.2.2.2.2.2.2.2.2.2.2.1,(false,t15.1.2.2.2.2.2.2.2.2.2.2.2.2)))))))))))),()) else bif f1.1==20 then (Zf0 c0.2.2.2.2.1).bind fun t75=>some ((t15.1.1,(t15.1.2.1,(t15.1.2.2.1,(t15.1.2.2.2.1,(t75.1,t15.1.2.2.2.2.2))))),()) else bif f1.1==22 then bif f1.2.2.2.2.2.2.2.2.1 then some ((t15.1.1,(t15.1.2.1,(t15.1.2.2.1,(t15.1.2.2.2.1,(t15.1.2.2.2.2.1,(t15.1.2.2.2.2.2.1,(t15.1.2.2.2.2.2.2.1,((t15.1.2.2.2.2.2.2.2.1.1,(t15.1.2.2.2.2.2.2.2.1.2.1,((-1:Int),t15.1.2.2.2.2.2.2.2.1.2.2.2))),t15.1.2.2.2.2.2.2.2.2)))))))),()) else some ((t15.1.1,(t15.1.2.1,(t15.1.2.2.1,(t15.1.2.2.2.1,(t15.1.2.2.2.2.1,(t15.1.2.2.2.2.2.1,((t15.1.2.2.2.2.2.2.1.1,(t15.1.2.2.2.2.2.2.1.2.1,((-1:Int),t15.1.2.2.2.2.2.2.1.2.2.2))),t15.1.2.2.2.2.2.2.2))))))),()) else (Qv c0 f1.2.1).bind fun t26=>bif t26.2.1 then (Zmo c0 t26.1 f1.1).bind fun t36=>(Qi t15.1.2.2.2.1 t36.1.1).bind fun t37=>some ((t15.1.1,(t15.1.2.1,(t15.1.2.2.1,(t37.1,t15.1.2.2.2.2)))),()) else some (t15.1,())
abbrev Z3y:List PE:=[.box 1 37 (Zp) (.u false),.val 3 (.slice 288 (Xe)) (.u true),.val 4 (.int .i64) (.u false)]
def Zew(K1: (Zg×List Zz×Int×Unit)->Option (List Zz×Unit))(c1_1:Zg)(out3_1:List Zz)(i4_1:Int):Option (List Zz×Unit):=K1 (c1_1,out3_1,IntKind.i64.wrap (i4_1+1),())
abbrev Z3z:List PE:=[.box 1 37 (Zp) (.u false),.val 3 (.slice 288 (Xe)) (.u true),.val 4 (.int .i64) (.u false)]
def Ziv(c1:Zg)(out3:List Zz)(i4:Int):Nat:=((c1.2.2.2.1.length:Int)-i4).toNat+1
def Wd:Nat->Zg->List Zz->Int->Option (List Zz×Unit)
 |0,_,_,_=>none
 |N+1,c1,out3,i4=>
  bif decide (i4< (c1.2.2.2.1.length:Int))then
   Zi (0<=i4/\i4<c1.2.2.2.1.length)<|
   bif((c1.2.2.2.1.getD i4.toNat Zh).2.2.2.2.2.2.1&& (decide ((c1.2.2.2.1.getD i4.toNat Zh).2.1.1< (3:Int))))&& ((decide (((c1.2.2.2.1.getD i4.toNat Zh).2.1.2.2.1.length:Int)>(0:Int)))|| ((c1.2.2.2.1.getD i4.toNat Zh).2.1.2.2.2.2.2.2.1==1))then
    let t46:List Zz:=[((c1.2.2.2.1.getD i4.toNat Zh).1,((c1.2.2.2.1.getD i4.toNat Zh).2.2.2.2.2.1,()))]
    Zi (out3.length+t46.length<=Qo)<|
    Zew (fun v=>Wd N v.1 v.2.1 v.2.2.1) c1 (out3++t46) i4
   else
    Zew (fun v=>Wd N v.1 v.2.1 v.2.2.1) c1 out3 i4
  else
   some (out3,())
def Zn4(c0:Zg):Option (List Zz×Unit):=Wd (Ziv c0 ([]:List Zz) (0:Int)) c0 ([]:List Zz) (0:Int)
abbrev Z30:List PE:=[.val 0 (.slice 288 (Xe)) (.u false),.val 1 (.int .i64) (.u false),.val 5 (.slice 288 (Xe)) (.u true),.val 6 (.int .i64) (.u false)]
def Zex(K1: (List Zz×Int×List Zz×Int×Unit)->Option (List Zz×Unit))(l0_2:List Zz)(id1_2:Int)(out5_1:List Zz)(i6_1:Int):Option (List Zz×Unit):=K1 (l0_2,id1_2,out5_1,IntKind.i64.wrap (i6_1+1),())
abbrev Z31:List PE:=[.val 0 (.slice 288 (Xe)) (.u false),.val 1 (.int .i64) (.u false),.val 5 (.slice 288 (Xe)) (.u true),.val 6 (.int .i64) (.u false)]
def Ziw(l0_1:List Zz)(id1_1:Int)(out5:List Zz)(i6:Int):Nat:=((l0_1.length:Int)-i6).toNat+1
def We:Nat->List Zz->Int->List Zz->Int->Option (List Zz×Unit)|0,_,_,_,_=>none|N+1,l0_1,id1_1,out5,i6=>bif decide (i6< (l0_1.length:Int))then Zi (0<=i6/\i6<l0_1.length)<|bif(l0_1.getD i6.toNat Jd).1 !=id1_1 then Zi (0<=i6/\i6<l0_1.length)<|Zi (out5.length+ ([(l0_1.getD i6.toNat Jd)]).length<=Qo)<|Zex (fun v=>We N v.1 v.2.1 v.2.2.1 v.2.2.2.1) l0_1 id1_1 (out5++ ([(l0_1.getD i6.toNat Jd)])) i6 else Zex (fun v=>We N v.1 v.2.1 v.2.2.1 v.2.2.2.1) l0_1 id1_1 out5 i6 else some (out5,())
def Zn5(l0:List Zz)(id1:Int):Option (List Zz×Unit):=We (Ziw l0 id1 ([]:List Zz) (0:Int)) l0 id1 ([]:List Zz) (0:Int)
abbrev Zxt:List PE:=[.val 0 (.slice 288 (Xe)) (.u false),.val 3 (.int .i64) (.u false)]
def Zek(l0_1:List Zz)(i3:Int):Nat:=((l0_1.length:Int)-i3).toNat+1
def Zba:Nat->List Zz->Int->Option (Bool×Unit)|0,_,_=>none|N+1,l0_1,i3=>bif decide (i3< (l0_1.length:Int))then Zi (0<=i3/\i3<l0_1.length)<|(Qf (l0_1.getD i3.toNat Jd).1).bind fun t15=>Zi (((!t15.1)=false->(0<=i3/\i3<l0_1.length)))<|(bif(!t15.1)then some (false,())else(Zat (l0_1.getD i3.toNat Jd).2.1)).bind fun t23=>Zi ((((!t15.1)|| (!t23.1))=false->((decide (i3>(0:Int)))=true->(0<=i3/\i3<l0_1.length))))<|Zi ((((!t15.1)|| (!t23.1))=false->((decide (i3>(0:Int)))=true->(0<=(IntKind.i64.wrap (i3-1))/\(IntKind.i64.wrap (i3-1))<l0_1.length))))<|bif((!t15.1)|| (!t23.1))|| ((decide (i3>(0:Int)))&& (decide ((l0_1.getD i3.toNat Jd).1<=(l0_1.getD (IntKind.i64.wrap (i3-1)).toNat Jd).1)))then some (false,()) else Zba N l0_1 (IntKind.i64.wrap (i3+1)) else some (true,())
def Zji(l0:List Zz):Option (Bool×Unit):=Zba (Zek l0 (0:Int)) l0 (0:Int)
abbrev Z3n:List PE:=[.val 0 (.slice 288 (Xe)) (.u false),.val 3 (.slice 3 (.int .i64)) (.u true),.val 4 (.int .i64) (.u false),.val 5 (.int .i64) (.u false)]
def Zer(K1: (List Zz×List Int×Int×Int×Unit)->Option (List Int×Unit))(l0_2:List Zz)(out3_1:List Int)(best4_1:Int)(i5_1:Int):Option (List Int×Unit):=K1 (l0_2,out3_1,best4_1,IntKind.i64.wrap (i5_1+1),())
abbrev Z3o:List PE:=[.val 0 (.slice 288 (Xe)) (.u false),.val 3 (.slice 3 (.int .i64)) (.u true),.val 4 (.int .i64) (.u false),.val 5 (.int .i64) (.u false)]
def Zes(K1: (List Zz×List Int×Int×Int×Unit)->Option (List Int×Unit))(l0_3:List Zz)(out3_2:List Int)(best4_2:Int)(i5_2:Int):Option (List Int×Unit):=Zi (0<=i5_2/\i5_2<l0_3.length)<|bif(l0_3.getD i5_2.toNat Jd).2.1.1==best4_2 then Zi (0<=i5_2/\i5_2<l0_3.length)<|Zi (out3_2.length+ ([(l0_3.getD i5_2.toNat Jd).1]).length<=Qo)<|Zer K1 l0_3 (out3_2++ ([(l0_3.getD i5_2.toNat Jd).1])) best4_2 i5_2 else Zer K1 l0_3 out3_2 best4_2 i5_2
abbrev Z3p:List PE:=[.val 0 (.slice 288 (Xe)) (.u false),.val 3 (.slice 3 (.int .i64)) (.u true),.val 4 (.int .i64) (.u false),.val 5 (.int .i64) (.u false)]
def Zij(l0_1:List Zz)(out3:List Int)(best4:Int)(i5:Int):Nat:=((l0_1.length:Int)-i5).toNat+1
def Jw:Nat->List Zz->List Int->Int->Int->Option (List Int×Unit)|0,_,_,_,_=>none|N+1,l0_1,out3,best4,i5=>(bif(decide (i5< (l0_1.length:Int)))then(Zji l0_1)else some (false,())).bind fun t13=>bif(decide (i5< (l0_1.length:Int)))&&t13.1 then Zi (0<=i5/\i5<l0_1.length)<|bif decide ((l0_1.getD i5.toNat Jd).2.1.1<best4)then Zi (0<=i5/\i5<l0_1.length)<|Zes (fun v=>Jw N v.1 v.2.1 v.2.2.1 v.2.2.2.1) l0_1 ([]:List Int) (l0_1.getD i5.toNat Jd).2.1.1 i5 else Zes (fun v=>Jw N v.1 v.2.1 v.2.2.1 v.2.2.2.1) l0_1 out3 best4 i5 else some (out3,())
def Zn0(l0:List Zz):Option (List Int×Unit):=Jw (Zij l0 ([]:List Int) (8:Int) (0:Int)) l0 ([]:List Int) (8:Int) (0:Int)
abbrev Qae:List PE:=[.val 0 (.slice 3 (.int .i64)) (.u false),.val 1 (.int .i64) (.u false),.val 5 (.int .i64) (.u false)]
def Zkr(l0_1:List Int)(last1_1:Int)(i5:Int):Nat:=((l0_1.length:Int)-i5).toNat+1
def Zit:Nat->List Int->Int->Int->Option (Int×Unit)|0,_,_,_=>none|N+1,l0_1,last1_1,i5=>bif decide (i5< (l0_1.length:Int))then Zi (0<=i5/\i5<l0_1.length)<|bif decide ((l0_1.getD i5.toNat (0:Int))>last1_1)then Zi (0<=i5/\i5<l0_1.length)<|some (l0_1.getD i5.toNat (0:Int),()) else Zit N l0_1 last1_1 (IntKind.i64.wrap (i5+1)) else bif(l0_1.length:Int)==(0:Int)then some ((-1:Int),()) else Zi (0<=(0:Int)/\(0:Int)<l0_1.length)<|some (l0_1.getD (0:Int).toNat (0:Int),())
def Zre(l0:List Int)(last1:Int):Option (Int×Unit):=Zit (Zkr l0 last1 (0:Int)) l0 last1 (0:Int)
abbrev Z3q:List PE:=[.val 0 (.slice 288 (Xe)) (.u false),.val 1 (.int .i64) (.u false),.val 5 (.slice 3 (.int .i64)) (.u true),.val 6 (.slice 3 (.int .i64)) (.u true),.val 7 (.int .i64) (.u false),.val 8 (.int .i64) (.u false)]
def Zet(K1: (List Zz×Int×List Int×List Int×Int×Unit)->Option (Int×Unit))(K2: (List Zz×Int×List Int×List Int×Int×Int×Unit)->Option (Int×Unit))(l0_3:List Zz)(last1_3:Int)(m5_2:List Int)(some6_2:List Int)(i7_2:Int)(k8_1:Int):Option (Int×Unit):=K2 (l0_3,last1_3,m5_2,some6_2,i7_2,IntKind.i64.wrap (k8_1+1),())
abbrev Z3s:List PE:=[.val 0 (.slice 288 (Xe)) (.u false),.val 1 (.int .i64) (.u false),.val 5 (.slice 3 (.int .i64)) (.u true),.val 6 (.slice 3 (.int .i64)) (.u true),.val 7 (.int .i64) (.u false),.val 8 (.int .i64) (.u false)]
def Zim(l0_2:List Zz)(last1_2:Int)(m5_1:List Int)(some6_1:List Int)(i7_1:Int)(k8:Int):Nat:=((m5_1.length:Int)-k8).toNat+1
def V9(K1: (List Zz×Int×List Int×List Int×Int×Unit)->Option (Int×Unit)):Nat->List Zz->Int->List Int->List Int->Int->Int->Option (Int×Unit)
 |0,_,_,_,_,_,_=>none
 |N+1,l0_2,last1_2,m5_1,some6_1,i7_1,k8=>
  bif decide (k8< (m5_1.length:Int))then
   Zi (0<=k8/\k8<m5_1.length)<|
   Zi (0<=i7_1/\i7_1<l0_2.length)<|
   let t33:Bool:=(m5_1.getD k8.toNat (0:Int))==(l0_2.getD i7_1.toNat Jd).1
   Zi ((t33=true->(0<=i7_1/\i7_1<l0_2.length)))<|
   bif t33&& (!(l0_2.getD i7_1.toNat Jd).2.1.2.1)then
    Zi (0<=i7_1/\i7_1<l0_2.length)<|
    some ((l0_2.getD i7_1.toNat Jd).1,())
   else
    Zi (0<=k8/\k8<m5_1.length)<|
    Zi (0<=i7_1/\i7_1<l0_2.length)<|
    bif(m5_1.getD k8.toNat (0:Int))==(l0_2.getD i7_1.toNat Jd).1 then
     Zi (0<=i7_1/\i7_1<l0_2.length)<|
     Zi (some6_1.length+ ([(l0_2.getD i7_1.toNat Jd).1]).length<=Qo)<|
     Zet K1 (fun v=>V9 K1 N v.1 v.2.1 v.2.2.1 v.2.2.2.1 v.2.2.2.2.1 v.2.2.2.2.2.1) l0_2 last1_2 m5_1 (some6_1++ ([(l0_2.getD i7_1.toNat Jd).1])) i7_1 k8
    else
     Zet K1 (fun v=>V9 K1 N v.1 v.2.1 v.2.2.1 v.2.2.2.1 v.2.2.2.2.1 v.2.2.2.2.2.1) l0_2 last1_2 m5_1 some6_1 i7_1 k8
  else
   K1 (l0_2,last1_2,m5_1,some6_1,IntKind.i64.wrap (i7_1+1),())
abbrev Z3r:List PE:=[.val 0 (.slice 288 (Xe)) (.u false),.val 1 (.int .i64) (.u false),.val 5 (.slice 3 (.int .i64)) (.u true),.val 6 (.slice 3 (.int .i64)) (.u true),.val 7 (.int .i64) (.u false)]
def Zil(l0_1:List Zz)(last1_1:Int)(m5:List Int)(some6:List Int)(i7:Int):Nat:=((l0_1.length:Int)-i7).toNat+1
def Jx:Nat->List Zz->Int->List Int->List Int->Int->Option (Int×Unit)|0,_,_,_,_,_=>none|N+1,l0_1,last1_1,m5,some6,i7=>bif decide (i7< (l0_1.length:Int))then V9 (fun v=>Jx N v.1 v.2.1 v.2.2.1 v.2.2.2.1 v.2.2.2.2.1) (Zim l0_1 last1_1 m5 some6 i7 (0:Int)) l0_1 last1_1 m5 some6 i7 (0:Int) else (Zre some6 last1_1).bind fun t68=>some (t68.1,())
def Zn1(l0:List Zz)(last1:Int):Option (Int×Unit):=(Zn0 l0).bind fun t10=>Jx (Zil l0 last1 t10.1 ([]:List Int) (0:Int)) l0 last1 t10.1 ([]:List Int) (0:Int)
def Znv(c0:Q0):Option (Int×Unit):=(Ye c0).bind fun t4=>bif !t4.1 then some ((0:Int),()) else some (IntKind.i64.wrap (c0.1-c0.2.1),())
abbrev Qac:List PE:=[.val 1 (.int .i64) (.u false),.val 2 (.int .i64) (.u false),.box 3 65 (Vj) (.u false),.val 8 (.str) (.u false),.val 9 (.int .i64) (.u false)]
def Ze4(offset1_1:Int)(n2_1:Int)(r3:Yj)(s8_1:List UInt8)(i9:Int):Nat:=(n2_1-i9).toNat+1
def Zip:Nat->Int->Int->Yj->List UInt8->Int->Option (List UInt8×Bool×Unit)
 |0,_,_,_,_,_=>none
 |N+1,offset1_1,n2_1,r3,s8_1,i9=>
  bif decide (i9<n2_1)then
   Zi (r3.1≠0)<|
   let t50:Int:=Int.tmod (IntKind.i64.wrap (offset1_1+i9)) r3.1
   Zi (0<=t50/\t50<r3.2.2.2.1.length)<|
   (Zi6 (r3.2.2.2.1.getD t50.toNat (0:Int))).bind fun t53=>
   Zi (s8_1.length+t53.1.length<=Zqi)<|
   Zip N offset1_1 n2_1 r3 (s8_1++t53.1) (IntKind.i64.wrap (i9+1))
  else
   some (s8_1,true,())
def Zrc(r0:Yj)(offset1:Int)(n2:Int):Option (List UInt8×Bool×Unit):=(Vn r0).bind fun t11=>bif((((!t11.1)|| (decide (offset1<r0.2.1)))|| (decide (n2< (0:Int))))|| (decide (offset1>r0.2.2.1)))|| (decide (n2>(IntKind.i64.wrap (r0.2.2.1-offset1))))then some (([]:List UInt8),false,()) else Zip (Ze4 offset1 n2 r0 ([]:List UInt8) (0:Int)) offset1 n2 r0 ([]:List UInt8) (0:Int)
abbrev Z6c:List PE:=[.box 3 68 (Z4) (.u false),.box 6 273 (Zb5) (.u false),.box 8 273 (Zb5) (.u false),.box 9 167 (Zw) (.u false),.val 10 (.int .i64) (.u false)]
def Zf8(s3:Zo)(t6:Ks)(p8:Ks)(r9:Ze)(high10:Int):Option (Ks×Bool×Unit):=bif decide (high10<=r9.1)then some (Zqa,false,()) else (Zrc s3.2.1 r9.1 (IntKind.i64.wrap (high10-r9.1))).bind fun t70=>some ((r9.1,(t70.1,(p8.2.2.1&& (high10==s3.2.2.2.2.2.1),()))),true,())
def Zp3(s0:Zo)(most1:Int)(limit2:Int):Option (Ks×Bool×Unit):=
 (Xz s0).bind fun t14=>
 bif(!t14.1)|| (decide (s0.1>(2:Int)))then
  some (Zqa,false,())
 else
  bif decide ((s0.2.2.1.length:Int)>(0:Int))then
   Zi (0<=(0:Int)/\(0:Int)<s0.2.2.1.length)<|
   let t39:Int:=min (s0.2.2.1.getD (0:Int).toNat Zy).2.1 limit2
   bif decide (t39<=(s0.2.2.1.getD (0:Int).toNat Zy).1)then
    some (Zqa,false,())
   else
    bif decide (most1< (IntKind.i64.wrap (t39- (s0.2.2.1.getD (0:Int).toNat Zy).1)))then
     Zf8 s0 Zqa (s0.2.2.2.2.2.1,(([]:List UInt8),(s0.2.2.2.2.2.2.1==1,()))) (s0.2.2.1.getD (0:Int).toNat Zy) (IntKind.i64.wrap ((s0.2.2.1.getD (0:Int).toNat Zy).1+ (max most1 (0:Int))))
    else
     Zf8 s0 Zqa (s0.2.2.2.2.2.1,(([]:List UInt8),(s0.2.2.2.2.2.2.1==1,()))) (s0.2.2.1.getD (0:Int).toNat Zy) t39
  else
   bif !(s0.2.2.2.2.2.2.1==1)then
    some (Zqa,false,())
   else
    some ((s0.2.2.2.2.2.1,(([]:List UInt8),(s0.2.2.2.2.2.2.1==1,()))),true,())
def Zss(id0:Int)(p1:Ks):Option (Zl×Unit):=some (((8:Int),(id0,(p1.1,(p1.2.1,(p1.2.2.1,((0:Int),((0:Int),((0:Int),(false,()))))))))),())
abbrev Qad:List PE:=[.val 1 (.int .i64) (.u false),.val 2 (.int .i64) (.u false),.box 6 273 (Zb5) (.u false),.box 8 72 (Zu) (.u true),.val 10 (.int .i64) (.u false),.val 11 (.int .i64) (.u false)]
def Zkq(id1_1:Int)(room2_1:Int)(t6:Ks)(s8:Zd)(limit10:Int)(n11:Int):Nat:=(n11-0).toNat+1
def Ziq:Nat->Int->Int->Ks->Zd->Int->Int->Option (Ks×Bool×Unit)|0,_,_,_,_,_,_=>none|N+1,id1_1,room2_1,t6,s8,limit10,n11=>bif decide (n11>(0:Int))then (Zp3 s8.2.1 n11 limit10).bind fun t59=>bif !t59.2.1 then some (Zqa,false,()) else (Zss id1_1 t59.1).bind fun t67=>(Zeo t67.1).bind fun t68=>bif decide (t68.1<=room2_1)then some (t59.1,true,()) else Ziq N id1_1 room2_1 t6 s8 limit10 (IntKind.i64.wrap (n11-1)) else some (Zqa,false,())
def Zrd(c0:Zg)(id1:Int)(room2:Int):Option (Ks×Bool×Unit):=
 (Qv c0 id1).bind fun t17=>
 (Y2 c0).bind fun t21=>
 bif(((!t21.1)|| (!t17.2.1))|| (!t17.1.2.2.2.2.2.2.1))|| (decide (room2< (3:Int)))then
  some (Zqa,false,())
 else
  (Znv c0.2.2.2.2.1).bind fun t45=>
  let t47:Int:=min t17.1.2.2.1.1 (IntKind.i64.wrap (t17.1.2.1.2.2.2.2.2.2.2.1+t45.1))
  Ziq (Zkq id1 room2 Zqa t17.1 t47 (min room2 (60:Int))) id1 room2 Zqa t17.1 t47 (min room2 (60:Int))
def Zin(c0:Q0):Option (Q0×Unit):=(Ye c0).bind fun t4=>bif((t4.1&& (c0.2.1==c0.1))&& (c0.2.2.1==(-1:Int)))&& (c0.2.2.2.1 !=c0.1)then some ((c0.1,(c0.2.1,(c0.1,c0.2.2.2))),()) else some (c0,())
def Zkh(x0:Zg)(id1:Int):Option ((Unit)×(Zg×Unit)):=(Qv x0 id1).bind fun t11=>(Zin t11.1.2.2.1).bind fun t16=>(Zin x0.2.2.2.2.1).bind fun t23=>(Qi x0.2.2.2.1 (t11.1.1,(t11.1.2.1,(t16.1,t11.1.2.2.2)))).bind fun t32=>some ((),((x0.1,(x0.2.1,(x0.2.2.1,(t32.1,(t23.1,x0.2.2.2.2.2))))),()))
def Zp9(s0:Zo)(p1:Ks):Option (Bool×Unit):=some ((((decide (p1.1>=(0:Int)))&& (decide (p1.1<=s0.2.1.2.2.1)))&& (decide ((p1.2.1.length:Int)<=(IntKind.i64.wrap (s0.2.1.2.2.1-p1.1)))))&& ((!p1.2.2.1)|| ((s0.2.2.2.2.2.1 !=(-1:Int))&& ((IntKind.i64.wrap (p1.1+ (p1.2.1.length:Int)))==s0.2.2.2.2.2.1))),())
def Zms(p0:Ks):Option (Ze×Unit):=some ((p0.1,(IntKind.i64.wrap (p0.1+ (p0.2.1.length:Int)),())),())
abbrev Zzk:List PE:=[.val 0 (.slice 167 (Zw)) (.u false),.val 1 (.slice 167 (Zw)) (.u false),.val 5 (.slice 167 (Zw)) (.u true),.val 6 (.int .i64) (.u false),.val 7 (.int .i64) (.u false)]
def Zf1(K1: (List Ze×List Ze×List Ze×Int×Unit)->Option (List Ze×Unit))(K2: (List Ze×List Ze×List Ze×Int×Int×Unit)->Option (List Ze×Unit))(a0_3:List Ze)(b1_3:List Ze)(out5_2:List Ze)(i6_2:Int)(k7_1:Int):Option (List Ze×Unit):=K2 (a0_3,b1_3,out5_2,i6_2,IntKind.i64.wrap (k7_1+1),())
abbrev Zzl:List PE:=[.val 0 (.slice 167 (Zw)) (.u false),.val 1 (.slice 167 (Zw)) (.u false),.val 5 (.slice 167 (Zw)) (.u true),.val 6 (.int .i64) (.u false),.val 7 (.int .i64) (.u false),.box 8 167 (Zw) (.u false)]
def Zlp(K1: (List Ze×List Ze×List Ze×Int×Unit)->Option (List Ze×Unit))(K2: (List Ze×List Ze×List Ze×Int×Int×Unit)->Option (List Ze×Unit))(a0_4:List Ze)(b1_4:List Ze)(out5_3:List Ze)(i6_3:Int)(k7_2:Int)(r8:Ze):Option (List Ze×Unit):=bif decide (r8.1<r8.2.1)then Zi (out5_3.length+ ([r8]).length<=Qo)<|Zf1 K1 K2 a0_4 b1_4 (out5_3++ ([r8])) i6_3 k7_2 else Zf1 K1 K2 a0_4 b1_4 out5_3 i6_3 k7_2
abbrev Zzn:List PE:=[.val 0 (.slice 167 (Zw)) (.u false),.val 1 (.slice 167 (Zw)) (.u false),.val 5 (.slice 167 (Zw)) (.u true),.val 6 (.int .i64) (.u false),.val 7 (.int .i64) (.u false)]
def Za4(a0_2:List Ze)(b1_2:List Ze)(out5_1:List Ze)(i6_1:Int)(k7:Int):Nat:=((b1_2.length:Int)-k7).toNat+1
def Wo(K1: (List Ze×List Ze×List Ze×Int×Unit)->Option (List Ze×Unit)):Nat->List Ze->List Ze->List Ze->Int->Int->Option (List Ze×Unit)
 |0,_,_,_,_,_=>none
 |N+1,a0_2,b1_2,out5_1,i6_1,k7=>
  bif decide (k7< (b1_2.length:Int))then
   Zi (0<=i6_1/\i6_1<a0_2.length)<|
   Zi (0<=k7/\k7<b1_2.length)<|
   let t40:Int:=max (a0_2.getD i6_1.toNat Zy).1 (b1_2.getD k7.toNat Zy).1
   Zi (0<=i6_1/\i6_1<a0_2.length)<|
   Zi (0<=k7/\k7<b1_2.length)<|
   let t51:Int:=min (a0_2.getD i6_1.toNat Zy).2.1 (b1_2.getD k7.toNat Zy).2.1
   Zo3 1 (
    Zlp K1 (fun v=>Wo K1 N v.1 v.2.1 v.2.2.1 v.2.2.2.1 v.2.2.2.2.1) a0_2 b1_2 out5_1 i6_1 k7 (t40,(t51,()))
   )
  else
   K1 (a0_2,b1_2,out5_1,IntKind.i64.wrap (i6_1+1),())
abbrev Zzm:List PE:=[.val 0 (.slice 167 (Zw)) (.u false),.val 1 (.slice 167 (Zw)) (.u false),.val 5 (.slice 167 (Zw)) (.u true),.val 6 (.int .i64) (.u false)]
def Za3(a0_1:List Ze)(b1_1:List Ze)(out5:List Ze)(i6:Int):Nat:=((a0_1.length:Int)-i6).toNat+1
def Jt:Nat->List Ze->List Ze->List Ze->Int->Option (List Ze×Unit)
 |0,_,_,_,_=>none
 |N+1,a0_1,b1_1,out5,i6=>
  (bif(decide (i6< (a0_1.length:Int)))then(Kz a0_1)else some (false,())).bind fun t16=>
  let t17:Bool:=(decide (i6< (a0_1.length:Int)))&&t16.1
  (bif t17 then(Kz b1_1)else some (false,())).bind fun t20=>
  bif t17&&t20.1 then
   Wo (fun v=>Jt N v.1 v.2.1 v.2.2.1 v.2.2.2.1) (Za4 a0_1 b1_1 out5 i6 (0:Int)) a0_1 b1_1 out5 i6 (0:Int)
  else
   some (out5,())
def Zcq(a0:List Ze)(b1:List Ze):Option (List Ze×Unit):=Jt (Za3 a0 b1 ([]:List Ze) (0:Int)) a0 b1 ([]:List Ze) (0:Int)
abbrev Z1d:List PE:=[.val 0 (.slice 167 (Zw)) (.u false),.box 3 167 (Zw) (.u false),.val 5 (.slice 167 (Zw)) (.u true),.val 6 (.int .i64) (.u false)]
def Zhe(K1: (List Ze×Ze×List Ze×Int×Unit)->Option (List Ze×Unit))(l0_2:List Ze)(r3_1:Ze)(out5_1:List Ze)(i6_1:Int):Option (List Ze×Unit):=K1 (l0_2,r3_1,out5_1,IntKind.i64.wrap (i6_1+1),())
abbrev Z1e:List PE:=[.val 0 (.slice 167 (Zw)) (.u false),.box 3 167 (Zw) (.u false),.val 5 (.slice 167 (Zw)) (.u true),.val 6 (.int .i64) (.u false)]
def Zdi(K1: (List Ze×Ze×List Ze×Int×Unit)->Option (List Ze×Unit))(l0_3:List Ze)(r3_2:Ze)(out5_2:List Ze)(i6_2:Int):Option (List Ze×Unit):=
 Zi (0<=i6_2/\i6_2<l0_3.length)<|
 Zi (0<=i6_2/\i6_2<l0_3.length)<|
 bif decide ((max (l0_3.getD i6_2.toNat Zy).1 r3_2.2.1)< (l0_3.getD i6_2.toNat Zy).2.1)then
  Zi (0<=i6_2/\i6_2<l0_3.length)<|
  Zi (0<=i6_2/\i6_2<l0_3.length)<|
  let t84:List Ze:=[(max (l0_3.getD i6_2.toNat Zy).1 r3_2.2.1,((l0_3.getD i6_2.toNat Zy).2.1,()))]
  Zi (out5_2.length+t84.length<=Qo)<|
  Zhe K1 l0_3 r3_2 (out5_2++t84) i6_2
 else
  Zhe K1 l0_3 r3_2 out5_2 i6_2
abbrev Z1f:List PE:=[.val 0 (.slice 167 (Zw)) (.u false),.box 3 167 (Zw) (.u false),.val 5 (.slice 167 (Zw)) (.u true),.val 6 (.int .i64) (.u false)]
def Zb4(l0_1:List Ze)(r3:Ze)(out5:List Ze)(i6:Int):Nat:=((l0_1.length:Int)-i6).toNat+1
def Ja:Nat->List Ze->Ze->List Ze->Int->Option (List Ze×Unit)
 |0,_,_,_,_=>none
 |N+1,l0_1,r3,out5,i6=>
  bif decide (i6< (l0_1.length:Int))then
   Zi (0<=i6/\i6<l0_1.length)<|
   Zi (0<=i6/\i6<l0_1.length)<|
   bif decide ((l0_1.getD i6.toNat Zy).1< (min (l0_1.getD i6.toNat Zy).2.1 r3.1))then
    Zi (0<=i6/\i6<l0_1.length)<|
    Zi (0<=i6/\i6<l0_1.length)<|
    let t53:List Ze:=[((l0_1.getD i6.toNat Zy).1,(min (l0_1.getD i6.toNat Zy).2.1 r3.1,()))]
    Zi (out5.length+t53.length<=Qo)<|
    Zdi (fun v=>Ja N v.1 v.2.1 v.2.2.1 v.2.2.2.1) l0_1 r3 (out5++t53) i6
   else
    Zdi (fun v=>Ja N v.1 v.2.1 v.2.2.1 v.2.2.2.1) l0_1 r3 out5 i6
  else
   some (out5,())
def Zd2(l0:List Ze)(r1:Ze):Option (List Ze×Unit):=(Kz l0).bind fun t8=>(bif(!t8.1)then some (false,())else(Zr0 r1)).bind fun t12=>bif(!t8.1)|| (!t12.1)then (Zi7 l0).bind fun t16=>some (t16.1,()) else Ja (Zb4 l0 r1 ([]:List Ze) (0:Int)) l0 r1 ([]:List Ze) (0:Int)
abbrev Z6h:List PE:=[.box 4 68 (Z4) (.u true),.box 6 68 (Z4) (.p (.u false) (.p (.u true) (.p (.u true) (.p (.u true) (.p (.u true) (.u false))))))]
def Zgb(t4_1:Zo)(x6_1:Zo):Option (Zo×Bool×Unit):=(Zaj x6_1).bind fun t86=>some ((t86.1,x6_1.2),true,())
abbrev Z6g:List PE:=[.box 3 273 (Zb5) (.u false),.box 4 68 (Z4) (.u true),.box 6 68 (Z4) (.p (.u false) (.p (.u true) (.p (.u true) (.p (.u true) (.p (.u true) (.u false))))))]
def Zga(p3:Ks)(t4:Zo)(x6:Zo):Option (Zo×Bool×Unit):=bif p3.2.2.1 then Zgb t4 (x6.1,(x6.2.1,(x6.2.2.1,(x6.2.2.2.1,(x6.2.2.2.2.1,(x6.2.2.2.2.2.1,((2:Int),x6.2.2.2.2.2.2.2))))))) else Zgb t4 x6
def Zp4(s0:Zo)(p1:Ks):Option (Zo×Bool×Unit):=
 (Zci s0).bind fun t10=>
 (Xz s0).bind fun t12=>
 let t18:Bool:=(!t12.1)|| (decide (s0.1>(2:Int)))
 (bif t18 then some (false,())else(Zp9 s0 p1)).bind fun t22=>
 bif((t18|| (!t22.1))|| ((p1.2.1==([]:List UInt8))&& (!p1.2.2.1)))|| (p1.2.2.1&& (s0.2.2.2.2.2.2.1 !=1))then
  some (t10.1,false,())
 else
  bif !(p1.2.1==([]:List UInt8))then
   (Zms p1).bind fun t49=>
   (Zcq s0.2.2.1 ([t49.1])).bind fun t54=>
   Zi ((((t54.1.length:Int) !=(1:Int))=false->(0<=(0:Int)/\(0:Int)<t54.1.length)))<|
   bif((t54.1.length:Int) !=(1:Int))|| (!(eqV (Zw) (t54.1.getD (0:Int).toNat Zy) t49.1))then
    some (t10.1,false,())
   else
    (Zd2 s0.2.2.1 t49.1).bind fun t69=>
    (Wy s0.2.2.2.1 t49.1).bind fun t74=>
    Zga p1 Zak (t10.1.1,(t10.1.2.1,(t69.1,(t74.1,(t10.1.2.2.2.2.1,(t10.1.2.2.2.2.2.1,(t10.1.2.2.2.2.2.2.1,(max s0.2.2.2.2.2.2.2.1 t49.1.2.1,t10.1.2.2.2.2.2.2.2.2))))))))
  else
   Zga p1 Zak t10.1
def Zlu(c0:Q0)(n1:Int):Option (Q0×Bool×Unit):=(Ye c0).bind fun t7=>bif((!t7.1)|| (decide (n1< (0:Int))))|| (decide (n1>(IntKind.i64.wrap (c0.1-c0.2.1))))then some (c0,false,()) else some ((c0.1,(IntKind.i64.wrap (c0.2.1+n1),c0.2.2)),true,())
def Zii(c0:Zg)(id1:Int)(p2:Ks):Option (Zg×Bool×Unit):=(Z6 c0).bind fun t19=>(Qv c0 id1).bind fun t23=>(Y2 c0).bind fun t27=>bif((!t27.1)|| (!t23.2.1))|| (!t23.1.2.2.2.2.2.2.1)then some (t19.1,false,()) else (Zp4 t23.1.2.1 p2).bind fun t43=>(Zlu t23.1.2.2.1 (IntKind.i64.wrap (t43.1.2.2.2.2.2.2.2.1-t23.1.2.1.2.2.2.2.2.2.2.1))).bind fun t56=>(Zlu c0.2.2.2.2.1 (IntKind.i64.wrap (t43.1.2.2.2.2.2.2.2.1-t23.1.2.1.2.2.2.2.2.2.2.1))).bind fun t63=>bif((!t43.2.1)|| (!t56.2.1))|| (!t63.2.1)then some (t19.1,false,()) else (Qi t19.1.2.2.2.1 (t23.1.1,(t43.1,(t56.1,t23.1.2.2.2)))).bind fun t88=>some ((t19.1.1,(t19.1.2.1,(t19.1.2.2.1,(t88.1,(t63.1,(t19.1.2.2.2.2.2.1,(t19.1.2.2.2.2.2.2.1,(t19.1.2.2.2.2.2.2.2.1,(t19.1.2.2.2.2.2.2.2.2.1,(t19.1.2.2.2.2.2.2.2.2.2.1,(t19.1.2.2.2.2.2.2.2.2.2.2.1,(t19.1.2.2.2.2.2.2.2.2.2.2.2.1,(t19.1.2.2.2.2.2.2.2.2.2.2.2.2.1,(id1,t19.1.2.2.2.2.2.2.2.2.2.2.2.2.2.2)))))))))))))),true,())
abbrev Qeg:List PE:=[.box 0 37 (Zp) (.u true),.val 1 (.slice 39 (Zx)) (.u true),.val 2 (.int .i64) (.u false),.val 7 (.slice 3 (.int .i64)) (.u true),.val 8 (.int .i64) (.u false)]
def Zc1(K1: (Zg×List Zl×Int×List Int×Int×Unit)->Option ((List Zl×Unit)×(Zg×Unit)))(x0_2:Zg)(frames1_2:List Zl)(room2_2:Int)(skip7_1:List Int)(i8_1:Int):Option ((List Zl×Unit)×(Zg×Unit)):=K1 (x0_2,frames1_2,room2_2,skip7_1,IntKind.i64.wrap (i8_1+1),())
abbrev Qeh:List PE:=[.box 0 37 (Zp) (.u true),.val 1 (.slice 39 (Zx)) (.u true),.val 2 (.int .i64) (.u false),.val 7 (.slice 3 (.int .i64)) (.u true),.val 8 (.int .i64) (.u false),.val 11 (.int .i64) (.u false),.box 12 273 (Zb5) (.u false),.box 14 37 (Zp) (.u true),.val 15 (.bool) (.u false)]
def Zfn(K1: (Zg×List Zl×Int×List Int×Int×Unit)->Option ((List Zl×Unit)×(Zg×Unit)))(x0_4:Zg)(frames1_4:List Zl)(room2_4:Int)(skip7_3:List Int)(i8_3:Int)(id11:Int)(p12:Ks)(y14:Zg)(fine15:Bool):Option ((List Zl×Unit)×(Zg×Unit)):=bif !fine15 then some ((frames1_4,()),(x0_4,())) else (Zss id11 p12).bind fun t82=>Zi (frames1_4.length+ ([t82.1]).length<=Qo)<|(Zeo t82.1).bind fun t89=>Zc1 K1 y14 (frames1_4++ ([t82.1])) (IntKind.i64.wrap (room2_4-t89.1)) skip7_3 i8_3
abbrev Qej:List PE:=[.box 0 37 (Zp) (.u true),.val 1 (.slice 39 (Zx)) (.u true),.val 2 (.int .i64) (.u false),.val 7 (.slice 3 (.int .i64)) (.u true),.val 8 (.int .i64) (.u false),.val 9 (.slice 288 (Xe)) (.u true),.val 10 (.int .i64) (.u false)]
def Zl2(x0_3:Zg)(frames1_3:List Zl)(room2_3:Int)(skip7_2:List Int)(i8_2:Int)(l9:List Zz)(k10:Int):Nat:=((skip7_2.length:Int)-k10).toNat+1
def Zc2(K1: (Zg×List Zl×Int×List Int×Int×Unit)->Option ((List Zl×Unit)×(Zg×Unit))):Nat->Zg->List Zl->Int->List Int->Int->List Zz->Int->Option ((List Zl×Unit)×(Zg×Unit))|0,_,_,_,_,_,_,_=>none|N+1,x0_3,frames1_3,room2_3,skip7_2,i8_2,l9,k10=>bif decide (k10< (skip7_2.length:Int))then Zi (0<=k10/\k10<skip7_2.length)<|(Zn5 l9 (skip7_2.getD k10.toNat (0:Int))).bind fun t37=>Zc2 K1 N x0_3 frames1_3 room2_3 skip7_2 i8_2 t37.1 (IntKind.i64.wrap (k10+1)) else (Zn1 l9 x0_3.2.2.2.2.2.2.2.2.2.2.2.2.2.1).bind fun t43=>bif decide (t43.1< (0:Int))then some ((frames1_3,()),(x0_3,())) else (Zrd x0_3 t43.1 room2_3).bind fun t53=>bif !t53.2.1 then (Zkh x0_3 t43.1).bind fun t60=>Zi (skip7_2.length+ ([t43.1]).length<=Qo)<|Zc1 K1 t60.2.1 frames1_3 room2_3 (skip7_2++ ([t43.1])) i8_2 else Zo3 1 ((Zii x0_3 t43.1 t53.1).bind fun t71=>Zfn K1 x0_3 frames1_3 room2_3 skip7_2 i8_2 t43.1 t53.1 t71.1 t71.2.1)
abbrev Qei:List PE:=[.box 0 37 (Zp) (.u true),.val 1 (.slice 39 (Zx)) (.u true),.val 2 (.int .i64) (.u false),.val 7 (.slice 3 (.int .i64)) (.u true),.val 8 (.int .i64) (.u false)]
def Zl1(x0_1:Zg)(frames1_1:List Zl)(room2_1:Int)(skip7:List Int)(i8:Int):Nat:=((200:Int)-i8).toNat+1+0*frames1_1.length
def J0:Nat->Zg->List Zl->Int->List Int->Int->Option ((List Zl×Unit)×(Zg×Unit))|0,_,_,_,_,_=>none|N+1,x0_1,frames1_1,room2_1,skip7,i8=>bif decide (i8< (200:Int))then (Zn4 x0_1).bind fun t25=>Zc2 (fun v=>J0 N v.1 v.2.1 v.2.2.1 v.2.2.2.1 v.2.2.2.2.1) (Zl2 x0_1 frames1_1 room2_1 skip7 i8 t25.1 (0:Int)) x0_1 frames1_1 room2_1 skip7 i8 t25.1 (0:Int) else some ((frames1_1,()),(x0_1,()))
def Zp7(x0:Zg)(frames1:List Zl)(room2:Int):Option ((List Zl×Unit)×(Zg×Unit)):=J0 (Zl1 x0 frames1 room2 ([]:List Int) (0:Int)) x0 frames1 room2 ([]:List Int) (0:Int)
abbrev Zx0:List PE:=[.val 0 (.slice 39 (Zx)) (.u false),.val 3 (.str) (.u false),.val 4 (.int .i64) (.u false)]
def Zem(l0_1:List Zl)(s3_1:List UInt8)(i4:Int):Nat:=((l0_1.length:Int)-i4).toNat+1
def Zbh:Nat->List Zl->List UInt8->Int->Option (List UInt8×Unit)|0,_,_,_=>none|N+1,l0_1,s3_1,i4=>bif decide (i4< (l0_1.length:Int))then Zi (0<=i4/\i4<l0_1.length)<|(Zid (l0_1.getD i4.toNat Zcj)).bind fun t16=>bif t16.1==([]:List UInt8)then some (([]:List UInt8),()) else Zi (s3_1.length+t16.1.length<=Zqi)<|Zbh N l0_1 (s3_1++t16.1) (IntKind.i64.wrap (i4+1)) else bif decide ((s3_1.length:Int)>(400:Int))then some (([]:List UInt8),()) else some (s3_1,())
def Zjk(l0:List Zl):Option (List UInt8×Unit):=Zbh (Zem l0 ([]:List UInt8) (0:Int)) l0 ([]:List UInt8) (0:Int)
abbrev Z3b:List PE:=[.box 2 37 (Zp) (.u false),.box 6 37 (Zp) (.u true),.box 7 37 (Zp) (.u true),.val 8 (.slice 39 (Zx)) (.u true),.val 9 (.int .i64) (.u false),.val 10 (.slice 39 (Zx)) (.u true),.val 11 (.int .i64) (.u false)]
def V5(K1: (Zg×Zg×Zg×List Zl×Int×List Zl×Int×Unit)->Option ((List UInt8×Int×Zg×Unit)×(Unit)))(c2_1:Zg)(t6_1:Zg)(x7_1:Zg)(frames8_1:List Zl)(room9_1:Int)(l10_1:List Zl)(i11_1:Int):Option ((List UInt8×Int×Zg×Unit)×(Unit)):=K1 (c2_1,t6_1,x7_1,frames8_1,room9_1,l10_1,IntKind.i64.wrap (i11_1+1),())
abbrev Z3c:List PE:=[.box 2 37 (Zp) (.u false),.box 6 37 (Zp) (.u true),.box 7 37 (Zp) (.u true),.val 8 (.slice 39 (Zx)) (.u true),.val 9 (.int .i64) (.u false),.val 10 (.slice 39 (Zx)) (.u true),.val 11 (.int .i64) (.u false)]
def Zic(c2:Zg)(t6:Zg)(x7:Zg)(frames8:List Zl)(room9:Int)(l10:List Zl)(i11:Int):Nat:=((l10.length:Int)-i11).toNat+1
def Yy:Nat->Zg->Zg->Zg->List Zl->Int->List Zl->Int->Option ((List UInt8×Int×Zg×Unit)×(Unit))|0,_,_,_,_,_,_,_=>none|N+1,c2,t6,x7,frames8,room9,l10,i11=>bif decide (i11< (l10.length:Int))then Zi (0<=i11/\i11<l10.length)<|(Zeo (l10.getD i11.toNat Zcj)).bind fun t42=>bif decide (t42.1<=room9)then Zi (0<=i11/\i11<l10.length)<|(Zeo (l10.getD i11.toNat Zcj)).bind fun t50=>Zi (0<=i11/\i11<l10.length)<|(Zd1 x7 (l10.getD i11.toNat Zcj)).bind fun t57=>Zi (0<=i11/\i11<l10.length)<|Zi (frames8.length+ ([(l10.getD i11.toNat Zcj)]).length<=Qo)<|V5 (fun v=>Yy N v.1 v.2.1 v.2.2.1 v.2.2.2.1 v.2.2.2.2.1 v.2.2.2.2.2.1 v.2.2.2.2.2.2.1) c2 t6 t57.1 (frames8++ ([(l10.getD i11.toNat Zcj)])) (IntKind.i64.wrap (room9-t50.1)) l10 i11 else V5 (fun v=>Yy N v.1 v.2.1 v.2.2.1 v.2.2.2.1 v.2.2.2.2.1 v.2.2.2.2.2.1 v.2.2.2.2.2.2.1) c2 t6 x7 frames8 room9 l10 i11 else (Zp7 x7 frames8 room9).bind fun t67=>bif(t67.1.1.length:Int)==(0:Int)then some ((([]:List UInt8),((-1:Int),(t67.2.1,()))),()) else Zi (t67.2.1.2.2.2.2.2.2.2.2.2.2.2.2.2.2.2.1.length+ ([(c2.2.2.2.2.2.2.2.2.2.2.2.2.2.2.1,(t67.1.1,()))]).length<=Qo)<|(Zjk t67.1.1).bind fun t86=>some ((t86.1,(c2.2.2.2.2.2.2.2.2.2.2.2.2.2.2.1,((t67.2.1.1,(t67.2.1.2.1,(t67.2.1.2.2.1,(t67.2.1.2.2.2.1,(t67.2.1.2.2.2.2.1,(t67.2.1.2.2.2.2.2.1,(t67.2.1.2.2.2.2.2.2.1,(t67.2.1.2.2.2.2.2.2.2.1,(t67.2.1.2.2.2.2.2.2.2.2.1,(t67.2.1.2.2.2.2.2.2.2.2.2.1,(t67.2.1.2.2.2.2.2.2.2.2.2.2.1,(t67.2.1.2.2.2.2.2.2.2.2.2.2.2.1,(t67.2.1.2.2.2.2.2.2.2.2.2.2.2.2.1,(t67.2.1.2.2.2.2.2.2.2.2.2.2.2.2.2.1,(IntKind.i64.wrap (c2.2.2.2.2.2.2.2.2.2.2.2.2.2.2.1+1),(t67.2.1.2.2.2.2.2.2.2.2.2.2.2.2.2.2.2.1++ ([(c2.2.2.2.2.2.2.2.2.2.2.2.2.2.2.1,(t67.1.1,()))]),t67.2.1.2.2.2.2.2.2.2.2.2.2.2.2.2.2.2.2)))))))))))))))),()))),())
def Zfh(c0:Zg)(budget1:Int):Option ((List UInt8×Int×Zg×Unit)×(Unit)):=(Z6 c0).bind fun t13=>(Jk c0).bind fun t15=>(bif(!t15.1)then some (false,())else(Z5 budget1 (1:Int) (400:Int))).bind fun t19=>bif((!t15.1)|| (!t19.1))|| (decide (c0.2.2.2.2.2.2.2.2.2.2.2.2.2.2.1>=(1000000:Int)))then some ((([]:List UInt8),((-1:Int),(t13.1,()))),()) else (Zjj c0).bind fun t31=>Yy (Zic c0 Wt t13.1 ([]:List Zl) budget1 t31.1 (0:Int)) c0 Wt t13.1 ([]:List Zl) budget1 t31.1 (0:Int)
def Ya(c0:Qx)(list1:List Int):Option ((Int×Unit)×(Qx×Unit)):=(Qm c0 (list1.length:Int)).bind fun t9=>Zi (0<=t9.1.1/\t9.1.1<list1.length)<|some ((list1.getD t9.1.1.toNat (0:Int),()),(t9.2.1,()))
def Zmr(c0:Qx):Option ((Zl×Unit)×(Qx×Unit)):=(Ya c0 ([(4:Int),(5:Int),(8:Int),(8:Int),(8:Int),(8:Int),(16:Int),(17:Int),(18:Int),(20:Int),(21:Int),(22:Int)])).bind fun t6=>(Qm t6.2.1 (8:Int)).bind fun t9=>(Qm t9.2.1 (12:Int)).bind fun t12=>(Zl5 t12.2.1 (6:Int)).bind fun t15=>(Ws t15.2.1 (4:Int)).bind fun t18=>(Qm t18.2.1 (5:Int)).bind fun t21=>(Qm t21.2.1 (40:Int)).bind fun t24=>(Qm t24.2.1 (14:Int)).bind fun t27=>(Ws t27.2.1 (2:Int)).bind fun t30=>Option.bind (Zgh (t6.1.1,(t9.1.1,(t12.1.1,(t15.1.1,(t18.1.1,(t21.1.1,(t24.1.1,(t27.1.1,(t30.1.1,())))))))))) fun t33=>some ((t33.1,()),(t30.2.1,()))
def Zjl(id0:Int):Option (Int×Unit):=(Qf id0).bind fun t4=>bif !t4.1 then some ((-1:Int),()) else Zi (0<=(2:Int))<|some (id0.fdiv (2^ (min (2:Int).toNat IntKind.i64.bits)),())
def Zgv(a0:Q0)(index1:Int):Option (Q0×Int×Bool×Unit):=
 (Vb a0).bind fun t9=>
 bif((!t9.1)|| (decide (index1< (0:Int))))|| (decide (index1>=a0.2.1))then
  some (a0,(0:Int),false,())
 else
  let t27:Int:=max (0:Int) (IntKind.i64.wrap ((IntKind.i64.wrap (index1+1))-a0.2.2.1))
  some ((a0.1,(a0.2.1,(IntKind.i64.wrap (a0.2.2.1+t27),a0.2.2.2))),t27,true,())
abbrev Qec:List PE:=[.box 0 37 (Zp) (.u true),.val 1 (.int .i64) (.u false),.val 6 (.int .i64) (.u false),.box 7 72 (Zu) (.u true)]
def Zfm(K1: (Zg×Int×Int×Unit)->Option ((Unit)×(Zg×Unit)))(x0_2:Zg)(id1_2:Int)(i6_1:Int)(s7:Zd):Option ((Unit)×(Zg×Unit)):=(Qi x0_2.2.2.2.1 s7).bind fun t41=>K1 ((x0_2.1,(x0_2.2.1,(x0_2.2.2.1,(t41.1,x0_2.2.2.2.2)))),id1_2,IntKind.i64.wrap (i6_1-1),())
abbrev Qed:List PE:=[.box 0 37 (Zp) (.u true),.val 1 (.int .i64) (.u false),.val 6 (.int .i64) (.u false)]
def Zgc(x0_1:Zg)(id1_1:Int)(i6:Int):Nat:=(i6-0).toNat+2
def Y9:Nat->Zg->Int->Int->Option ((Unit)×(Zg×Unit))
 |0,_,_,_=>none
 |N+1,x0_1,id1_1,i6=>
  bif decide (i6>=(0:Int))then
   let t23:Int:=IntKind.i64.wrap (id1_1- (IntKind.i64.wrap ((4:Int)*i6)))
   Zo3 1 (
    (Kx x0_1.1 t23 x0_1.2.1 x0_1.2.2.1).bind fun t32=>
    Zfm (fun v=>Y9 N v.1 v.2.1 v.2.2.1) x0_1 id1_1 i6 t32.1
   )
  else
   some ((),(x0_1,()))
def Zmm(x0:Zg)(id1:Int)(n2:Int):Option ((Unit)×(Zg×Unit)):=Y9 (Zgc x0 id1 (IntKind.i64.wrap (n2-1))) x0 id1 (IntKind.i64.wrap (n2-1))
abbrev Zzr:List PE:=[.val 1 (.int .i64) (.u false),.box 4 37 (Zp) (.u true),.box 6 37 (Zp) (.p (.u false) (.p (.u false) (.p (.u false) (.p (.u true) (.p (.u false) (.p (.u false) (.p (.u false) (.p (.u false) (.p (.u false) (.p (.u false) (.u true))))))))))),.val 9 (.int .i64) (.u false)]
def Yt(id1_3:Int)(t4_2:Zg)(x6_2:Zg)(n9_1:Int):Option (Zg×Int×Unit):=(Zmm x6_2 id1_3 n9_1).bind fun t70=>some (t70.2.1,(0:Int),())
abbrev Zzq:List PE:=[.val 1 (.int .i64) (.u false),.box 2 37 (Zp) (.u false),.box 4 37 (Zp) (.u true),.box 6 37 (Zp) (.u true),.box 8 34 (Qu) (.u false),.val 9 (.int .i64) (.u false),.val 10 (.bool) (.u false)]
def Kl(id1_2:Int)(c2_1:Zg)(t4_1:Zg)(x6_1:Zg)(b8:Q0)(n9:Int)(is10:Bool):Option (Zg×Int×Unit):=bif((!is10)|| (n9==0))|| (decide ((IntKind.i64.wrap ((c2_1.2.2.2.1.length:Int)+n9))>24))then some (x6_1,(4:Int),()) else (Vc id1_2).bind fun t63=>bif t63.1 then Yt id1_2 t4_1 (x6_1.1,(x6_1.2.1,(x6_1.2.2.1,(x6_1.2.2.2.1,(x6_1.2.2.2.2.1,(x6_1.2.2.2.2.2.1,(x6_1.2.2.2.2.2.2.1,(x6_1.2.2.2.2.2.2.2.1,(x6_1.2.2.2.2.2.2.2.2.1,(b8,x6_1.2.2.2.2.2.2.2.2.2.2)))))))))) n9 else Yt id1_2 t4_1 (x6_1.1,(x6_1.2.1,(x6_1.2.2.1,(x6_1.2.2.2.1,(x6_1.2.2.2.2.1,(x6_1.2.2.2.2.2.1,(x6_1.2.2.2.2.2.2.1,(x6_1.2.2.2.2.2.2.2.1,(b8,x6_1.2.2.2.2.2.2.2.2.2))))))))) n9
abbrev Zzp:List PE:=[.val 1 (.int .i64) (.u false),.box 2 37 (Zp) (.u false),.box 4 37 (Zp) (.u true),.box 6 37 (Zp) (.u true),.box 7 34 (Qu) (.u false)]
def Xa(id1_1:Int)(c2:Zg)(t4:Zg)(x6:Zg)(a7:Q0):Option (Zg×Int×Unit):=Zwo ((Zjl id1_1).bind fun t42=>Zo3 1 ((Zgv a7 t42.1).bind fun t43=>Kl id1_1 c2 t4 x6 t43.1 t43.2.1 t43.2.2.1)) ((Zjl id1_1).bind fun t42=>(Zgv a7 t42.1).bind fun t43=>Kl id1_1 c2 t4 x6 t43.1 t43.2.1 t43.2.2.1)
def Ys(c0:Zg)(id1:Int):Option (Zg×Int×Unit):=(Z6 c0).bind fun t12=>(Y2 c0).bind fun t14=>(bif(!t14.1)then some (false,())else(Qf id1)).bind fun t18=>bif(!t14.1)|| (!t18.1)then some (t12.1,(7:Int),()) else (Xp c0.2.2.2.1 id1).bind fun t25=>bif decide (t25.1>=(0:Int))then some (t12.1,(0:Int),()) else (Zcw c0.1 id1).bind fun t31=>bif t31.1 then some (t12.1,(5:Int),()) else (Vc id1).bind fun t36=>bif t36.1 then Xa id1 c0 Wt t12.1 c0.2.2.2.2.2.2.2.2.2.1 else Xa id1 c0 Wt t12.1 c0.2.2.2.2.2.2.2.2.1
def Zjr(r0:Zr)(end1:Int)(final2:Bool):Option (Int×Unit):=bif((r0.2.2.1 !=(-1:Int))&& ((decide (end1>r0.2.2.1))|| (final2&& (end1 !=r0.2.2.1))))|| (final2&& (decide (end1<r0.2.2.2.1)))then some ((6:Int),()) else some ((0:Int),())
abbrev Zzj:List PE:=[.box 1 58 (Qw) (.u false),.val 3 (.slice 167 (Zw)) (.u true),.val 4 (.int .i64) (.u false)]
def Za2(b1:Zq)(out3:List Ze)(i4:Int):Nat:=((b1.2.1.length:Int)-i4).toNat+1
def Kj:Nat->Zq->List Ze->Int->Option (List Ze×Unit)
 |0,_,_,_=>none
 |N+1,b1,out3,i4=>
  (bif(decide (i4< (b1.2.1.length:Int)))then(Zdt b1)else some (false,())).bind fun t13=>
  bif(decide (i4< (b1.2.1.length:Int)))&&t13.1 then
   Zi (0<=i4/\i4<b1.2.1.length)<|
   Zi (0<=i4/\i4<b1.2.1.length)<|
   Zi (0<=i4/\i4<b1.2.1.length)<|
   let t39:List Ze:=[((b1.2.1.getD i4.toNat Qc).1,(IntKind.i64.wrap ((b1.2.1.getD i4.toNat Qc).1+ ((b1.2.1.getD i4.toNat Qc).2.1.length:Int)),()))]
   Zi (out3.length+t39.length<=Qo)<|
   Kj N b1 (out3++t39) (IntKind.i64.wrap (i4+1))
  else
   some (out3,())
def Zk0(b0:Zq):Option (List Ze×Unit):=Kj (Za2 b0 ([]:List Ze) (0:Int)) b0 ([]:List Ze) (0:Int)
abbrev Qhr:List PE:=[.val 1 (.int .i64) (.u false),.box 2 58 (Qw) (.u false),.val 5 (.int .i64) (.u false)]
def Zg5(offset1_1:Int)(b2:Zq)(i5:Int):Nat:=((b2.2.1.length:Int)-i5).toNat+1
def Zca:Nat->Int->Zq->Int->Option (Int×Unit)
 |0,_,_,_=>none
 |N+1,offset1_1,b2,i5=>
  bif decide (i5< (b2.2.1.length:Int))then
   Zi (0<=i5/\i5<b2.2.1.length)<|
   let t21:Int:=IntKind.i64.wrap (offset1_1- (b2.2.1.getD i5.toNat Qc).1)
   Zi (((decide (offset1_1>=(0:Int)))=true->(0<=i5/\i5<b2.2.1.length)))<|
   let t36:Bool:=((decide (offset1_1>=(0:Int)))&& (decide ((b2.2.1.getD i5.toNat Qc).1>=(0:Int))))&& (decide (t21>=(0:Int)))
   Zi ((t36=true->(0<=i5/\i5<b2.2.1.length)))<|
   bif t36&& (decide (t21< ((b2.2.1.getD i5.toNat Qc).2.1.length:Int)))then
    Zi (0<=i5/\i5<b2.2.1.length)<|
    Zi (0<=t21/\t21< (b2.2.1.getD i5.toNat Qc).2.1.length)<|
    some (IntKind.i64.wrap (((b2.2.1.getD i5.toNat Qc).2.1.getD t21.toNat 0).toNat:Int),())
   else
    Zca N offset1_1 b2 (IntKind.i64.wrap (i5+1))
  else
   some ((-1:Int),())
def Zov(b0:Zq)(offset1:Int):Option (Int×Unit):=Zca (Zg5 offset1 b0 (0:Int)) offset1 b0 (0:Int)
abbrev Z3i:List PE:=[.val 1 (.int .i64) (.u false),.val 2 (.str) (.u false),.box 3 58 (Qw) (.u false),.box 6 58 (Qw) (.u true),.box 9 58 (Qw) (.p (.u false) (.u true)),.val 10 (.slice 167 (Zw)) (.u true),.val 11 (.int .i64) (.u false),.val 12 (.str) (.u false),.val 13 (.int .i64) (.u false),.val 14 (.int .i64) (.u false)]
def V6(K1: (Int×List UInt8×Zq×Zq×Zq×List Ze×Int×Unit)->Option (Zq×Unit))(K2: (Int×List UInt8×Zq×Zq×Zq×List Ze×Int×List UInt8×Int×Unit)->Option (Zq×Unit))(offset1_3:Int)(data2_3:List UInt8)(b3_2:Zq)(t6_2:Zq)(x9_2:Zq)(l10_2:List Ze)(i11_2:Int)(s12_2:List UInt8)(at13_1:Int)(v14:Int):Option (Zq×Unit):=(Zi6 v14).bind fun t90=>Zi (s12_2.length+t90.1.length<=Zqi)<|K2 (offset1_3,data2_3,b3_2,t6_2,x9_2,l10_2,i11_2,s12_2++t90.1,IntKind.i64.wrap (at13_1+1),())
abbrev Z3k:List PE:=[.val 1 (.int .i64) (.u false),.val 2 (.str) (.u false),.box 3 58 (Qw) (.u false),.box 6 58 (Qw) (.u true),.box 9 58 (Qw) (.p (.u false) (.u true)),.val 10 (.slice 167 (Zw)) (.u true),.val 11 (.int .i64) (.u false),.val 12 (.str) (.u false),.val 13 (.int .i64) (.u false)]
def Jo(offset1_2:Int)(data2_2:List UInt8)(b3_1:Zq)(t6_1:Zq)(x9_1:Zq)(l10_1:List Ze)(i11_1:Int)(s12_1:List UInt8)(at13:Int):Nat:=((l10_1.getD i11_1.toNat Zy).2.1-at13).toNat+1
def Xr(K1: (Int×List UInt8×Zq×Zq×Zq×List Ze×Int×Unit)->Option (Zq×Unit)):Nat->Int->List UInt8->Zq->Zq->Zq->List Ze->Int->List UInt8->Int->Option (Zq×Unit)
 |0,_,_,_,_,_,_,_,_,_=>none
 |N+1,offset1_2,data2_2,b3_1,t6_1,x9_1,l10_1,i11_1,s12_1,at13=>
  Zi (0<=i11_1/\i11_1<l10_1.length)<|
  bif decide (at13< (l10_1.getD i11_1.toNat Zy).2.1)then
   (Zov b3_1 at13).bind fun t79=>
   bif decide (t79.1< (0:Int))then
    Zi (0<=(IntKind.i64.wrap (at13-offset1_2))/\(IntKind.i64.wrap (at13-offset1_2))<data2_2.length)<|
    V6 K1 (fun v=>Xr K1 N v.1 v.2.1 v.2.2.1 v.2.2.2.1 v.2.2.2.2.1 v.2.2.2.2.2.1 v.2.2.2.2.2.2.1 v.2.2.2.2.2.2.2.1 v.2.2.2.2.2.2.2.2.1) offset1_2 data2_2 b3_1 t6_1 x9_1 l10_1 i11_1 s12_1 at13 (IntKind.i64.wrap ((data2_2.getD (IntKind.i64.wrap (at13-offset1_2)).toNat 0).toNat:Int))
   else
    V6 K1 (fun v=>Xr K1 N v.1 v.2.1 v.2.2.1 v.2.2.2.1 v.2.2.2.2.1 v.2.2.2.2.2.1 v.2.2.2.2.2.2.1 v.2.2.2.2.2.2.2.1 v.2.2.2.2.2.2.2.2.1) offset1_2 data2_2 b3_1 t6_1 x9_1 l10_1 i11_1 s12_1 at13 t79.1
  else
   Zi (0<=i11_1/\i11_1<l10_1.length)<|
   let t101:List Z0:=[((l10_1.getD i11_1.toNat Zy).1,(s12_1,()))]
   Zi (x9_1.2.1.length+t101.length<=Qo)<|
   K1 (offset1_2,data2_2,b3_1,t6_1,(x9_1.1,(x9_1.2.1++t101,x9_1.2.2)),l10_1,IntKind.i64.wrap (i11_1+1),())
abbrev Z3j:List PE:=[.val 1 (.int .i64) (.u false),.val 2 (.str) (.u false),.box 3 58 (Qw) (.u false),.box 6 58 (Qw) (.u true),.box 9 58 (Qw) (.p (.u false) (.u true)),.val 10 (.slice 167 (Zw)) (.u true),.val 11 (.int .i64) (.u false)]
def Jn(offset1_1:Int)(data2_1:List UInt8)(b3:Zq)(t6:Zq)(x9:Zq)(l10:List Ze)(i11:Int):Nat:=((l10.length:Int)-i11).toNat+1
def Kp:Nat->Int->List UInt8->Zq->Zq->Zq->List Ze->Int->Option (Zq×Unit)|0,_,_,_,_,_,_,_=>none|N+1,offset1_1,data2_1,b3,t6,x9,l10,i11=>bif decide (i11< (l10.length:Int))then Zi (0<=i11/\i11<l10.length)<|Xr (fun v=>Kp N v.1 v.2.1 v.2.2.1 v.2.2.2.1 v.2.2.2.2.1 v.2.2.2.2.2.1 v.2.2.2.2.2.2.1) (Jo offset1_1 data2_1 b3 t6 x9 l10 i11 ([]:List UInt8) (l10.getD i11.toNat Zy).1) offset1_1 data2_1 b3 t6 x9 l10 i11 ([]:List UInt8) (l10.getD i11.toNat Zy).1 else some (x9,())
def Zfi(b0:Zq)(offset1:Int)(data2:List UInt8):Option (Zq×Unit):=
 (Zdt b0).bind fun t16=>
 bif(((!t16.1)|| (data2==([]:List UInt8)))|| (decide (offset1< (0:Int))))|| (decide (offset1>(IntKind.i64.wrap ((4611686018427387903:Int)- (data2.length:Int)))))then
  (Zi8 b0).bind fun t34=>
  some (t34.1,())
 else
  let t42:Int:=IntKind.i64.wrap (offset1+ (data2.length:Int))
  bif decide ((max offset1 b0.1)>=t42)then
   (Zi8 b0).bind fun t47=>
   some (t47.1,())
  else
   (Zk0 b0).bind fun t52=>
   (Wy t52.1 (max offset1 b0.1,(t42,()))).bind fun t56=>
   Kp (Jn offset1 data2 b0 ((0:Int),(([]:List Z0),())) (b0.1,(([]:List Z0),())) t56.1 (0:Int)) offset1 data2 b0 ((0:Int),(([]:List Z0),())) (b0.1,(([]:List Z0),())) t56.1 (0:Int)
abbrev Z1c:List PE:=[.box 8 60 (Z7) (.u true),.box 10 60 (Z7) (.p (.u false) (.p (.u true) (.u false)))]
def Zdh(t8_1:Zr)(x10_1:Zr):Option (Zr×Int×Unit):=some (x10_1,(0:Int),())
abbrev Z1b:List PE:=[.val 1 (.int .i64) (.u false),.val 2 (.str) (.u false),.box 4 60 (Z7) (.u false),.box 8 60 (Z7) (.u true),.box 10 60 (Z7) (.p (.u false) (.p (.u true) (.u false)))]
def Y7(offset1_1:Int)(data2_1:List UInt8)(r4:Zr)(t8:Zr)(x10:Zr):Option (Zr×Int×Unit):=(Zfi r4.2.1 offset1_1 data2_1).bind fun t60=>(bif(x10.2.2.1 !=(-1:Int))then(Zau t60.1)else some ((0:Int),())).bind fun t71=>bif(x10.2.2.1 !=(-1:Int))&& ((IntKind.i64.wrap (t60.1.1+t71.1))==x10.2.2.1)then Zdh t8 ((2:Int),(t60.1,x10.2.2)) else Zdh t8 (x10.1,(t60.1,x10.2.2))
def Yn(r0:Zr)(offset1:Int)(data2:List UInt8)(fin3:Bool):Option (Zr×Int×Unit):=
 (Zgi r0).bind fun t14=>
 (Q5 r0).bind fun t16=>
 bif((!t16.1)|| (decide (offset1< (0:Int))))|| (decide (offset1>(IntKind.i64.wrap ((4611686018427387903:Int)- (data2.length:Int)))))then
  some (t14.1,(7:Int),())
 else
  let t33:Int:=IntKind.i64.wrap (offset1+ (data2.length:Int))
  (Zjr r0 t33 fin3).bind fun t37=>
  bif(t37.1 !=0)|| (decide (r0.1>(1:Int)))then
   some (t14.1,t37.1,())
  else
   bif fin3 then
    Y7 offset1 data2 r0 Zmt ((1:Int),(t14.1.2.1,(t33,(max r0.2.2.2.1 t33,t14.1.2.2.2.2))))
   else
    Y7 offset1 data2 r0 Zmt (t14.1.1,(t14.1.2.1,(t14.1.2.2.1,(max r0.2.2.2.1 t33,t14.1.2.2.2.2))))
def Zkg(r0:Zr)(end1:Int):Option (Int×Unit):=(Q5 r0).bind fun t6=>(bif(!t6.1)then some (false,())else(Qf end1)).bind fun t10=>bif(!t6.1)|| (!t10.1)then some ((0:Int),()) else some (max (0:Int) (IntKind.i64.wrap (end1-r0.2.2.2.1)),())
def Zgu(w0:Qq)(n1:Int):Option (Qq×Bool×Unit):=(Vq w0).bind fun t7=>bif((!t7.1)|| (decide (n1< (0:Int))))|| (decide (n1>(IntKind.i64.wrap (w0.2.2.1-w0.2.2.2.1))))then some (w0,false,()) else some ((w0.1,(w0.2.1,(w0.2.2.1,(IntKind.i64.wrap (w0.2.2.2.1+n1),w0.2.2.2.2)))),true,())
def Zdq(x0:Zg)(s1:Zd)(end2:Int):Option ((Int×Unit)×(Zg×Zd×Unit)):=(Zkg s1.2.2.2.1 end2).bind fun t17=>bif t17.1==0 then some (((0:Int),()),(x0,(s1,()))) else (Zgu s1.2.2.2.2.1 t17.1).bind fun t26=>(Zgu x0.2.2.2.2.2.1 t17.1).bind fun t35=>bif(!t26.2.1)|| (!t35.2.1)then some (((3:Int),()),(x0,(s1,()))) else some (((0:Int),()),((x0.1,(x0.2.1,(x0.2.2.1,(x0.2.2.2.1,(x0.2.2.2.2.1,(t35.1,x0.2.2.2.2.2.2)))))),((s1.1,(s1.2.1,(s1.2.2.1,(s1.2.2.2.1,(t26.1,s1.2.2.2.2.2))))),())))
def Vv(c0:Zg)(f1:Zl):Option ((Zg×Int×Unit)×(Unit)):=(Y2 c0).bind fun t13=>(bif(!t13.1)then some (false,())else(Zae f1)).bind fun t17=>bif((!t13.1)|| (!t17.1))|| (f1.1 !=8)then (Z6 c0).bind fun t26=>some ((t26.1,((7:Int),())),()) else (Q8 c0.1 f1.2.1).bind fun t31=>bif !t31.1 then (Z6 c0).bind fun t34=>some ((t34.1,((5:Int),())),()) else (Ys c0 f1.2.1).bind fun t39=>bif t39.2.1 !=0 then (Z6 c0).bind fun t45=>some ((t45.1,(t39.2.1,())),()) else (Qv t39.1 f1.2.1).bind fun t51=>(Yn t51.1.2.2.2.1 f1.2.2.1 f1.2.2.2.1 f1.2.2.2.2.1).bind fun t63=>(Zdq t39.1 t51.1 (IntKind.i64.wrap (f1.2.2.1+ (f1.2.2.2.1.length:Int)))).bind fun t72=>bif t72.1.1 !=0 then (Z6 c0).bind fun t76=>some ((t76.1,(t72.1.1,())),()) else bif t63.2.1 !=0 then (Z6 c0).bind fun t81=>some ((t81.1,(t63.2.1,())),()) else (Jj t72.2.1 (t72.2.2.1.1,(t72.2.2.1.2.1,(t72.2.2.1.2.2.1,(t63.1,t72.2.2.1.2.2.2.2))))).bind fun t86=>some ((t86.2.1,((0:Int),())),())
def Jh(r0:Zr)(code1:Int)(final2:Int):Option (Zr×Int×Unit):=(Zgi r0).bind fun t11=>(Q5 r0).bind fun t13=>(bif(!t13.1)then some (false,())else(Qf code1)).bind fun t17=>(bif((!t13.1)|| (!t17.1))then some (false,())else(Qf final2)).bind fun t22=>bif((!t13.1)|| (!t17.1))|| (!t22.1)then some (t11.1,(7:Int),()) else (Zjr r0 final2 true).bind fun t28=>bif(t28.1 !=0)|| (decide (r0.1>(1:Int)))then some (t11.1,t28.1,()) else some (((4:Int),((r0.2.1.1,(([]:List Z0),())),(final2,(final2,(code1,()))))),(0:Int),())
abbrev Z09:List PE:=[.box 4 37 (Zp) (.u true),.box 6 37 (Zp) (.u false),.box 8 72 (Zu) (.u false),.box 10 60 (Z7) (.u true)]
def K8(t4:Zg)(x6:Zg)(s8:Zd)(r10:Zr):Option ((Zg×Int×Unit)×(Unit)):=(Jj x6 (s8.1,(s8.2.1,(s8.2.2.1,(r10,s8.2.2.2.2))))).bind fun t92=>some ((t92.2.1,((0:Int),())),())
def Va(c0:Zg)(f1:Zl):Option ((Zg×Int×Unit)×(Unit)):=(Y2 c0).bind fun t13=>(bif(!t13.1)then some (false,())else(Zae f1)).bind fun t17=>bif((!t13.1)|| (!t17.1))|| (f1.1 !=4)then (Z6 c0).bind fun t26=>some ((t26.1,((7:Int),())),()) else (Q8 c0.1 f1.2.1).bind fun t31=>bif !t31.1 then (Z6 c0).bind fun t34=>some ((t34.1,((5:Int),())),()) else (Ys c0 f1.2.1).bind fun t39=>bif t39.2.1 !=0 then (Z6 c0).bind fun t45=>some ((t45.1,(t39.2.1,())),()) else (Qv t39.1 f1.2.1).bind fun t51=>(Jh t51.1.2.2.2.1 f1.2.2.2.2.2.1 f1.2.2.2.2.2.2.2.1).bind fun t61=>(Zdq t39.1 t51.1 f1.2.2.2.2.2.2.2.1).bind fun t66=>bif t66.1.1 !=0 then (Z6 c0).bind fun t70=>some ((t70.1,(t66.1.1,())),()) else bif t61.2.1 !=0 then (Z6 c0).bind fun t75=>some ((t75.1,(t61.2.1,())),()) else bif(t61.1.1==4)&& (t66.2.2.1.2.2.2.1.1 !=4)then (Zgd t66.2.1 t66.2.2.1 f1.2.2.2.2.2.2.2.1).bind fun t88=>K8 Wt t88.2.1 t88.2.2.1 t61.1 else K8 Wt t66.2.1 t66.2.2.1 t61.1
abbrev Z3h:List PE:=[.box 4 37 (Zp) (.u true),.box 6 37 (Zp) (.u true),.box 8 72 (Zu) (.p (.u false) (.p (.u true) (.p (.u false) (.p (.u true) (.u false)))))]
def Jv(t4:Zg)(x6:Zg)(s8:Zd):Option ((Zg×Int×Unit)×(Unit)):=(Jj x6 s8).bind fun t67=>some ((t67.2.1,((0:Int),())),())
def Vw(c0:Zg)(f1:Zl):Option ((Zg×Int×Unit)×(Unit)):=(Y2 c0).bind fun t13=>(bif(!t13.1)then some (false,())else(Zae f1)).bind fun t17=>bif((!t13.1)|| (!t17.1))|| (f1.1 !=5)then (Z6 c0).bind fun t26=>some ((t26.1,((7:Int),())),()) else (Yr c0.1 f1.2.1).bind fun t31=>bif !t31.1 then (Z6 c0).bind fun t34=>some ((t34.1,((5:Int),())),()) else (Ys c0 f1.2.1).bind fun t39=>bif t39.2.1 !=0 then (Z6 c0).bind fun t45=>some ((t45.1,(t39.2.1,())),()) else (Qv t39.1 f1.2.1).bind fun t51=>(K0 t51.1.2.1 f1.2.2.2.2.2.1).bind fun t59=>bif t59.2.1 then Jv Wt t39.1 (t51.1.1,(t59.1,(t51.1.2.2.1,(t51.1.2.2.2.1,(t51.1.2.2.2.2.1,(t51.1.2.2.2.2.2.1,(t51.1.2.2.2.2.2.2.1,(t51.1.2.2.2.2.2.2.2.1,(true,t51.1.2.2.2.2.2.2.2.2.2))))))))) else Jv Wt t39.1 t51.1
def Zcy(c0:Q0)(limit1:Int):Option (Q0×Unit):=(Ye c0).bind fun t6=>(bif(!t6.1)then some (false,())else(Qf limit1)).bind fun t10=>bif((!t6.1)|| (!t10.1))|| (decide (limit1<=c0.1))then some (c0,()) else some ((limit1,(c0.2.1,((-1:Int),c0.2.2.2))),())
def Zcx(c0:Zbm)(limit1:Int):Option (Zbm×Unit):=(Zb2 c0).bind fun t6=>bif((!t6.1)|| (decide (limit1<=c0.1)))|| (decide (limit1>(1152921504606846976:Int)))then some (c0,()) else some ((limit1,(c0.2.1,((-1:Int),c0.2.2.2))),())
abbrev Qag:List PE:=[.box 4 37 (Zp) (.u true),.box 7 37 (Zp) (.p (.u false) (.p (.u false) (.p (.u false) (.u true))))]
def Zd6(t4_1:Zg)(x7:Zg):Option (Zg×Int×Unit):=some (x7,(0:Int),())
abbrev Qaf:List PE:=[.box 2 37 (Zp) (.u false),.box 3 39 (Zx) (.u false),.box 4 37 (Zp) (.u true),.val 6 (.bool) (.u false)]
def Wr(c2:Zg)(f3:Zl)(t4:Zg)(fine6:Bool):Option (Zg×Int×Unit):=bif !fine6 then (Z6 c2).bind fun t27=>some (t27.1,(5:Int),()) else (Ys c2 f3.2.1).bind fun t32=>bif t32.2.1 !=0 then (Z6 c2).bind fun t38=>some (t38.1,t32.2.1,()) else bif f3.1==17 then (Qv t32.1 f3.2.1).bind fun t47=>(Zcy t47.1.2.2.1 f3.2.2.2.2.2.2.1).bind fun t54=>(Qi t32.1.2.2.2.1 (t47.1.1,(t47.1.2.1,(t54.1,t47.1.2.2.2)))).bind fun t59=>Zd6 t4 (t32.1.1,(t32.1.2.1,(t32.1.2.2.1,(t59.1,t32.1.2.2.2.2)))) else Zd6 t4 t32.1
def Zgw(c0:Zg)(f1:Zl):Option (Zg×Int×Unit):=(Yr c0.1 f1.2.1).bind fun t15=>bif f1.1==21 then (Q8 c0.1 f1.2.1).bind fun t23=>Wr c0 f1 Wt t23.1 else Wr c0 f1 Wt t15.1
abbrev Z06:List PE:=[.box 4 37 (Zp) (.u true),.box 6 37 (Zp) (.p (.u false) (.p (.u false) (.p (.u false) (.p (.u true) (.p (.u false) (.p (.u false) (.p (.u false) (.p (.u false) (.u true)))))))))]
def Zam(t4:Zg)(x6:Zg):Option (Zg×Int×Unit):=some (x6,(0:Int),())
abbrev Z08:List PE:=[.box 2 37 (Zp) (.u false),.box 3 39 (Zx) (.u false),.box 4 37 (Zp) (.u true),.box 6 37 (Zp) (.u true),.val 52 (.bool) (.u false)]
def K7(c2_1:Zg)(f3_1:Zl)(t4_2:Zg)(x6_2:Zg)(t52:Bool):Option (Zg×Int×Unit):=bif t52 then (Zgw c2_1 f3_1).bind fun t58=>some (t58.1,t58.2.1,()) else some (x6_2,(7:Int),())
abbrev Z07:List PE:=[.box 2 37 (Zp) (.u false),.box 3 39 (Zx) (.u false),.box 4 37 (Zp) (.u true),.box 6 37 (Zp) (.u true),.val 21 (.int .i64) (.u false),.val 48 (.bool) (.u false)]
def K6(c2:Zg)(f3:Zl)(t4_1:Zg)(x6_1:Zg)(t21:Int)(t48:Bool):Option (Zg×Int×Unit):=bif t48 then some (x6_1,(0:Int),()) else bif t21==17 then K7 c2 f3 t4_1 x6_1 (t21==17) else K7 c2 f3 t4_1 x6_1 (t21==21)
def J9(c0:Zg)(f1:Zl):Option (Zg×Int×Unit):=(Z6 c0).bind fun t10=>(Y2 c0).bind fun t12=>(bif(!t12.1)then some (false,())else(Zae f1)).bind fun t16=>bif(!t12.1)|| (!t16.1)then some (t10.1,(7:Int),()) else bif f1.1==16 then (Zcy c0.2.2.2.2.1 f1.2.2.2.2.2.2.1).bind fun t28=>some ((t10.1.1,(t10.1.2.1,(t10.1.2.2.1,(t10.1.2.2.2.1,(t28.1,t10.1.2.2.2.2.2))))),(0:Int),()) else bif f1.1==18 then bif f1.2.2.2.2.2.2.2.2.1 then (Zcx c0.2.2.2.2.2.2.2.1 f1.2.2.2.2.2.2.1).bind fun t39=>Zam Wt (t10.1.1,(t10.1.2.1,(t10.1.2.2.1,(t10.1.2.2.2.1,(t10.1.2.2.2.2.1,(t10.1.2.2.2.2.2.1,(t10.1.2.2.2.2.2.2.1,(t39.1,t10.1.2.2.2.2.2.2.2.2)))))))) else (Zcx c0.2.2.2.2.2.2.1 f1.2.2.2.2.2.2.1).bind fun t45=>Zam Wt (t10.1.1,(t10.1.2.1,(t10.1.2.2.1,(t10.1.2.2.2.1,(t10.1.2.2.2.2.1,(t10.1.2.2.2.2.2.1,(t45.1,t10.1.2.2.2.2.2.2.2))))))) else bif f1.1==20 then K6 c0 f1 Wt t10.1 f1.1 (f1.1==20) else K6 c0 f1 Wt t10.1 f1.1 (f1.1==22)
abbrev Z05:List PE:=[.box 4 37 (Zp) (.u true),.box 6 37 (Zp) (.p (.u true) (.p (.p (.u true) (.p (.u true) (.p (.u true) (.p (.u true) (.p (.u true) (.p (.u true) (.p (.u true) (.p (.u true) (.u true))))))))) (.p (.p (.u true) (.p (.u true) (.p (.u true) (.p (.u true) (.p (.u true) (.p (.u true) (.p (.u true) (.p (.u true) (.u true))))))))) (.p (.u false) (.p (.p (.u true) (.p (.u true) (.p (.u true) (.p (.u true) (.u true))))) (.p (.p (.u true) (.p (.u true) (.p (.u true) (.p (.u true) (.p (.u true) (.p (.u true) (.u true))))))) (.p (.p (.u true) (.p (.u true) (.p (.u true) (.u true)))) (.p (.p (.u true) (.p (.u true) (.p (.u true) (.u true)))) (.p (.p (.u true) (.p (.u true) (.p (.u true) (.p (.u true) (.u true))))) (.p (.p (.u true) (.p (.u true) (.p (.u true) (.p (.u true) (.u true))))) (.p (.u true) (.p (.u true) (.p (.u true) (.p (.u true) (.p (.u true) (.p (.u false) (.p (.u true) (.p (.u true) (.u true))))))))))))))))))),.val 7 (.int .i64) (.u false)]
def K5(t4:Zg)(x6:Zg)(e7:Int):Option ((Zg×Int×Unit)×(Unit)):=some ((x6,(e7,())),())
def J8(c0:Zg)(f1:Zl):Option ((Zg×Int×Unit)×(Unit)):=(Z6 c0).bind fun t9=>bif f1.1==8 then (Vv c0 f1).bind fun t23=>K5 Wt t23.1.1 t23.1.2.1 else bif f1.1==4 then (Va c0 f1).bind fun t31=>K5 Wt t31.1.1 t31.1.2.1 else bif f1.1==5 then (Vw c0 f1).bind fun t39=>K5 Wt t39.1.1 t39.1.2.1 else (J9 c0 f1).bind fun t15=>K5 Wt t15.1 t15.2.1
abbrev Qab:List PE:=[.val 1 (.int .i64) (.u false),.box 2 37 (Zp) (.u false),.box 4 130 (Y1) (.u true),.val 6 (.int .i64) (.u false)]
def Zkp(number1_1:Int)(c2:Zg)(t4:Z8)(i6:Int):Nat:=((c2.2.2.2.2.2.2.2.2.2.2.2.2.2.2.2.1.length:Int)-i6).toNat+1
def Zio:Nat->Int->Zg->Z8->Int->Option (Z8×Bool×Unit)|0,_,_,_,_=>none|N+1,number1_1,c2,t4,i6=>bif decide (i6< (c2.2.2.2.2.2.2.2.2.2.2.2.2.2.2.2.1.length:Int))then Zi (0<=i6/\i6<c2.2.2.2.2.2.2.2.2.2.2.2.2.2.2.2.1.length)<|bif(c2.2.2.2.2.2.2.2.2.2.2.2.2.2.2.2.1.getD i6.toNat Qg).1==number1_1 then Zi (0<=i6/\i6<c2.2.2.2.2.2.2.2.2.2.2.2.2.2.2.2.1.length)<|Zi (([]:List Zl).length+ (c2.2.2.2.2.2.2.2.2.2.2.2.2.2.2.2.1.getD i6.toNat Qg).2.1.length<=Qo)<|some ((number1_1,(([]:List Zl)++ (c2.2.2.2.2.2.2.2.2.2.2.2.2.2.2.2.1.getD i6.toNat Qg).2.1,())),true,()) else Zio N number1_1 c2 t4 (IntKind.i64.wrap (i6+1)) else some (((0:Int),(([]:List Zl),())),false,())
def Znh(c0:Zg)(number1:Int):Option (Z8×Bool×Unit):=Zio (Zkp number1 c0 ((0:Int),(([]:List Zl),())) (0:Int)) number1 c0 ((0:Int),(([]:List Zl),())) (0:Int)
abbrev Qen:List PE:=[.box 0 37 (Zp) (.u false),.val 1 (.int .i64) (.u false),.val 4 (.slice 130 (Y1)) (.p (.u true) (.u false)),.val 5 (.int .i64) (.u false)]
def Zc6(K1: (Zg×Int×List Z8×Int×Unit)->Option ((Unit)×(Zg×Unit)))(x0_2:Zg)(number1_2:Int)(out4_1:List Z8)(i5_1:Int):Option ((Unit)×(Zg×Unit)):=K1 (x0_2,number1_2,out4_1,IntKind.i64.wrap (i5_1+1),())
abbrev Qeo:List PE:=[.box 0 37 (Zp) (.u false),.val 1 (.int .i64) (.u false),.val 4 (.slice 130 (Y1)) (.p (.u true) (.u false)),.val 5 (.int .i64) (.u false)]
def Zl4(x0_1:Zg)(number1_1:Int)(out4:List Z8)(i5:Int):Nat:=((x0_1.2.2.2.2.2.2.2.2.2.2.2.2.2.2.2.1.length:Int)-i5).toNat+1
def J1:Nat->Zg->Int->List Z8->Int->Option ((Unit)×(Zg×Unit))|0,_,_,_,_=>none|N+1,x0_1,number1_1,out4,i5=>bif decide (i5< (x0_1.2.2.2.2.2.2.2.2.2.2.2.2.2.2.2.1.length:Int))then Zi (0<=i5/\i5<x0_1.2.2.2.2.2.2.2.2.2.2.2.2.2.2.2.1.length)<|bif(x0_1.2.2.2.2.2.2.2.2.2.2.2.2.2.2.2.1.getD i5.toNat Qg).1 !=number1_1 then Zi (0<=i5/\i5<x0_1.2.2.2.2.2.2.2.2.2.2.2.2.2.2.2.1.length)<|Zi (out4.length+ ([(x0_1.2.2.2.2.2.2.2.2.2.2.2.2.2.2.2.1.getD i5.toNat Qg)]).length<=Qo)<|Zc6 (fun v=>J1 N v.1 v.2.1 v.2.2.1 v.2.2.2.1) x0_1 number1_1 (out4++ ([(x0_1.2.2.2.2.2.2.2.2.2.2.2.2.2.2.2.1.getD i5.toNat Qg)])) i5 else Zc6 (fun v=>J1 N v.1 v.2.1 v.2.2.1 v.2.2.2.1) x0_1 number1_1 out4 i5 else some ((),((x0_1.1,(x0_1.2.1,(x0_1.2.2.1,(x0_1.2.2.2.1,(x0_1.2.2.2.2.1,(x0_1.2.2.2.2.2.1,(x0_1.2.2.2.2.2.2.1,(x0_1.2.2.2.2.2.2.2.1,(x0_1.2.2.2.2.2.2.2.2.1,(x0_1.2.2.2.2.2.2.2.2.2.1,(x0_1.2.2.2.2.2.2.2.2.2.2.1,(x0_1.2.2.2.2.2.2.2.2.2.2.2.1,(x0_1.2.2.2.2.2.2.2.2.2.2.2.2.1,(x0_1.2.2.2.2.2.2.2.2.2.2.2.2.2.1,(x0_1.2.2.2.2.2.2.2.2.2.2.2.2.2.2.1,(out4,x0_1.2.2.2.2.2.2.2.2.2.2.2.2.2.2.2.2)))))))))))))))),()))
def Zjq(x0:Zg)(number1:Int):Option ((Unit)×(Zg×Unit)):=J1 (Zl4 x0 number1 ([]:List Z8) (0:Int)) x0 number1 ([]:List Z8) (0:Int)
def Zwk(f0:Zl):Option (Ks×Unit):=some ((f0.2.2.1,(f0.2.2.2.1,(f0.2.2.2.2.1,()))),())
abbrev Z6a:List PE:=[.box 4 68 (Z4) (.u true),.box 5 68 (Z4) (.p (.u false) (.p (.u true) (.p (.u true) (.p (.u true) (.p (.u true) (.u false))))))]
def Zf6(t4_1:Zo)(x5_1:Zo):Option (Zo×Unit):=(Zaj x5_1).bind fun t65=>some ((t65.1,x5_1.2),())
abbrev Z59:List PE:=[.box 2 68 (Z4) (.u false),.box 3 273 (Zb5) (.u false),.box 4 68 (Z4) (.u true),.box 5 68 (Z4) (.u true)]
def Zf5(s2:Zo)(p3:Ks)(t4:Zo)(x5:Zo):Option (Zo×Unit):=bif p3.2.2.1&& (s2.2.2.2.2.2.2.1==2)then Zf6 t4 (x5.1,(x5.2.1,(x5.2.2.1,(x5.2.2.2.1,(x5.2.2.2.2.1,(x5.2.2.2.2.2.1,((1:Int),x5.2.2.2.2.2.2.2))))))) else Zf6 t4 x5
abbrev Z6b:List PE:=[.box 2 68 (Z4) (.u false),.box 3 273 (Zb5) (.u false),.box 4 68 (Z4) (.u true),.box 5 68 (Z4) (.u true),.val 6 (.slice 167 (Zw)) (.u true),.val 7 (.int .i64) (.u false)]
def Zjm(s2_1:Zo)(p3_1:Ks)(t4_2:Zo)(x5_2:Zo)(c6:List Ze)(i7:Int):Nat:=((c6.length:Int)-i7).toNat+1
def Zf7:Nat->Zo->Ks->Zo->Zo->List Ze->Int->Option (Zo×Unit)|0,_,_,_,_,_,_=>none|N+1,s2_1,p3_1,t4_2,x5_2,c6,i7=>bif decide (i7< (c6.length:Int))then Zi (0<=i7/\i7<c6.length)<|(Zd2 x5_2.2.2.2.1 (c6.getD i7.toNat Zy)).bind fun t46=>Zi (0<=i7/\i7<c6.length)<|(Wy x5_2.2.2.1 (c6.getD i7.toNat Zy)).bind fun t54=>Zf7 N s2_1 p3_1 t4_2 (x5_2.1,(x5_2.2.1,(t54.1,(t46.1,x5_2.2.2.2.2)))) c6 (IntKind.i64.wrap (i7+1)) else Zf5 s2_1 p3_1 t4_2 x5_2
def Zp1(s0:Zo)(p1:Ks):Option (Zo×Unit):=
 (Zci s0).bind fun t9=>
 (Xz s0).bind fun t11=>
 let t17:Bool:=(!t11.1)|| (decide (s0.1>(2:Int)))
 (bif t17 then some (false,())else(Zp9 s0 p1)).bind fun t21=>
 bif t17|| (!t21.1)then
  some (t9.1,())
 else
  bif !(p1.2.1==([]:List UInt8))then
   (Zms p1).bind fun t31=>
   (Zcq s0.2.2.2.1 ([t31.1])).bind fun t33=>
   Zf7 (Zjm s0 p1 Zak t9.1 t33.1 (0:Int)) s0 p1 Zak t9.1 t33.1 (0:Int)
  else
   Zf5 s0 p1 Zak t9.1
abbrev Qeq:List PE:=[.box 0 37 (Zp) (.u false),.box 4 72 (Zu) (.p (.u false) (.p (.u true) (.p (.u false) (.p (.u true) (.u false)))))]
def J2(x0_2:Zg)(s4_1:Zd):Option ((Unit)×(Zg×Unit)):=(Qi x0_2.2.2.2.1 s4_1).bind fun t72=>some ((),((x0_2.1,(x0_2.2.1,(x0_2.2.2.1,(t72.1,x0_2.2.2.2.2)))),()))
abbrev Qep:List PE:=[.box 0 37 (Zp) (.u false),.box 3 39 (Zx) (.u false),.box 4 72 (Zu) (.u true),.val 5 (.bool) (.u false)]
def Zfo(x0_1:Zg)(f3:Zl)(s4:Zd)(is5:Bool):Option ((Unit)×(Zg×Unit)):=(bif(!is5)then some (false,())else(V7 f3)).bind fun t36=>bif(!is5)|| (!t36.1)then some ((),(x0_1,())) else bif f3.1==8 then (Zwk f3).bind fun t46=>(Zp1 s4.2.1 t46.1).bind fun t47=>J2 x0_1 (s4.1,(t47.1,s4.2.2)) else bif f3.1==4 then J2 x0_1 (s4.1,(s4.2.1,(s4.2.2.1,(s4.2.2.2.1,(s4.2.2.2.2.1,(s4.2.2.2.2.2.1,(s4.2.2.2.2.2.2.1,(s4.2.2.2.2.2.2.2.1,(s4.2.1.1==4,s4.2.2.2.2.2.2.2.2.2))))))))) else bif f3.1==5 then J2 x0_1 (s4.1,(s4.2.1,(s4.2.2.1,(s4.2.2.2.1,(s4.2.2.2.2.1,(s4.2.2.2.2.2.1,(s4.2.2.2.2.2.2.1,(s4.2.2.2.2.2.2.2.1,(s4.2.2.2.2.2.2.2.2.1,(decide (s4.2.2.2.1.1< (2:Int)),s4.2.2.2.2.2.2.2.2.2.2)))))))))) else bif f3.1==17 then J2 x0_1 (s4.1,(s4.2.1,(s4.2.2.1,(s4.2.2.2.1,(s4.2.2.2.2.1,(s4.2.2.2.2.2.1,(s4.2.2.2.2.2.2.1,(s4.2.2.2.2.2.2.2.1,(s4.2.2.2.2.2.2.2.2.1,(s4.2.2.2.2.2.2.2.2.2.1,(true,s4.2.2.2.2.2.2.2.2.2.2.2))))))))))) else J2 x0_1 s4
def Zmq(x0:Zg)(f1:Zl):Option ((Unit)×(Zg×Unit)):=bif f1.1==16 then some ((),((x0.1,(x0.2.1,(x0.2.2.1,(x0.2.2.2.1,(x0.2.2.2.2.1,(x0.2.2.2.2.2.1,(x0.2.2.2.2.2.2.1,(x0.2.2.2.2.2.2.2.1,(x0.2.2.2.2.2.2.2.2.1,(x0.2.2.2.2.2.2.2.2.2.1,(true,x0.2.2.2.2.2.2.2.2.2.2.2))))))))))),())) else bif f1.1==18 then bif f1.2.2.2.2.2.2.2.2.1 then some ((),((x0.1,(x0.2.1,(x0.2.2.1,(x0.2.2.2.1,(x0.2.2.2.2.1,(x0.2.2.2.2.2.1,(x0.2.2.2.2.2.2.1,(x0.2.2.2.2.2.2.2.1,(x0.2.2.2.2.2.2.2.2.1,(x0.2.2.2.2.2.2.2.2.2.1,(x0.2.2.2.2.2.2.2.2.2.2.1,(x0.2.2.2.2.2.2.2.2.2.2.2.1,(true,x0.2.2.2.2.2.2.2.2.2.2.2.2.2))))))))))))),())) else some ((),((x0.1,(x0.2.1,(x0.2.2.1,(x0.2.2.2.1,(x0.2.2.2.2.1,(x0.2.2.2.2.2.1,(x0.2.2.2.2.2.2.1,(x0.2.2.2.2.2.2.2.1,(x0.2.2.2.2.2.2.2.2.1,(x0.2.2.2.2.2.2.2.2.2.1,(x0.2.2.2.2.2.2.2.2.2.2.1,(true,x0.2.2.2.2.2.2.2.2.2.2.2.2)))))))))))),())) else Zo3 1 ((Qv x0 f1.2.1).bind fun t29=>Zfo x0 f1 t29.1 t29.2.1)
abbrev Z3m:List PE:=[.box 4 37 (Zp) (.u true),.box 6 37 (Zp) (.u false),.box 7 130 (Y1) (.u true),.val 9 (.int .i64) (.u false)]
def Zih(t4:Zg)(x6:Zg)(p7:Z8)(i9:Int):Nat:=((p7.2.1.length:Int)-i9).toNat+1
def V8:Nat->Zg->Zg->Z8->Int->Option ((Zg×Bool×Unit)×(Unit))|0,_,_,_,_=>none|N+1,t4,x6,p7,i9=>bif decide (i9< (p7.2.1.length:Int))then Zi (0<=i9/\i9<p7.2.1.length)<|(Zmq x6 (p7.2.1.getD i9.toNat Zcj)).bind fun t40=>V8 N t4 t40.2.1 p7 (IntKind.i64.wrap (i9+1)) else some ((x6,(true,())),())
def Zfj(c0:Zg)(number1:Int):Option ((Zg×Bool×Unit)×(Unit)):=(Z6 c0).bind fun t11=>(Znh c0 number1).bind fun t15=>(Jk c0).bind fun t19=>bif(!t19.1)|| (!t15.2.1)then some ((t11.1,(false,())),()) else (Zjq t11.1 number1).bind fun t27=>V8 (Zih Wt t27.2.1 t15.1 (0:Int)) Wt t27.2.1 t15.1 (0:Int)
abbrev Z92:List PE:=[.val 1 (.int .i64) (.u false),.box 2 65 (Vj) (.u false),.box 4 65 (Vj) (.u true),.box 6 65 (Vj) (.u true),.val 7 (.int .i64) (.u false)]
def Ze2(to1_1:Int)(r2:Yj)(t4:Yj)(x6:Yj)(at7:Int):Nat:=(to1_1-at7).toNat+1
def Zib:Nat->Int->Yj->Yj->Yj->Int->Option (Yj×Bool×Unit)|0,_,_,_,_,_=>none|N+1,to1_1,r2,t4,x6,at7=>bif decide (at7<to1_1)then Zi (r2.1≠0)<|Zi (0<=(Int.tmod at7 r2.1)/\(Int.tmod at7 r2.1)<x6.2.2.2.1.length)<|Zib N to1_1 r2 t4 (x6.1,(x6.2.1,(x6.2.2.1,(x6.2.2.2.1.set (Int.tmod at7 r2.1).toNat (0:Int),x6.2.2.2.2)))) (IntKind.i64.wrap (at7+1)) else some ((x6.1,(to1_1,x6.2.2)),true,())
def Znd(r0:Yj)(to1:Int):Option (Yj×Bool×Unit):=(Zoy r0).bind fun t9=>(Vn r0).bind fun t11=>bif((!t11.1)|| (decide (to1<r0.2.1)))|| (decide (to1>r0.2.2.1))then some (t9.1,false,()) else Zib (Ze2 to1 r0 Qsm t9.1 r0.2.1) to1 r0 Qsm t9.1 r0.2.1
abbrev Z9x:List PE:=[.box 4 68 (Z4) (.u true),.box 5 68 (Z4) (.p (.u false) (.p (.u true) (.p (.u true) (.p (.u true) (.p (.u true) (.u false)))))),.box 8 65 (Vj) (.u true)]
def Zme(t4_2:Zo)(x5_2:Zo)(r8:Yj):Option (Zo×Unit):=(Zaj (x5_2.1,(r8,x5_2.2.2))).bind fun t78=>some ((t78.1,(r8,x5_2.2.2)),())
abbrev Z9w:List PE:=[.box 2 68 (Z4) (.u false),.box 4 68 (Z4) (.u true),.box 5 68 (Z4) (.p (.u false) (.p (.u true) (.p (.u true) (.p (.u true) (.p (.u true) (.u false))))))]
def Zh8(s2_1:Zo)(t4_1:Zo)(x5_1:Zo):Option (Zo×Unit):=Zwo ((Zgt x5_1.2.2.2.2.1 (0:Int)).bind fun t71=>Zo3 1 ((Znd s2_1.2.1 t71.1).bind fun t72=>Zme t4_1 x5_1 t72.1)) ((Zgt x5_1.2.2.2.2.1 (0:Int)).bind fun t71=>(Znd s2_1.2.1 t71.1).bind fun t72=>Zme t4_1 x5_1 t72.1)
abbrev Z9v:List PE:=[.box 2 68 (Z4) (.u false),.box 3 273 (Zb5) (.u false),.box 4 68 (Z4) (.u true),.box 5 68 (Z4) (.u true)]
def Zh7(s2:Zo)(p3:Ks)(t4:Zo)(x5:Zo):Option (Zo×Unit):=bif p3.2.2.1&& (s2.2.2.2.2.2.2.1==2)then Zh8 s2 t4 (x5.1,(x5.2.1,(x5.2.2.1,(x5.2.2.2.1,(x5.2.2.2.2.1,(x5.2.2.2.2.2.1,((3:Int),x5.2.2.2.2.2.2.2))))))) else Zh8 s2 t4 x5
abbrev Z9y:List PE:=[.box 2 68 (Z4) (.u false),.box 3 273 (Zb5) (.u false),.box 4 68 (Z4) (.u true),.box 5 68 (Z4) (.u true),.val 6 (.slice 167 (Zw)) (.u true),.val 7 (.int .i64) (.u false)]
def Zkm(s2_2:Zo)(p3_1:Ks)(t4_3:Zo)(x5_3:Zo)(c6:List Ze)(i7:Int):Nat:=((c6.length:Int)-i7).toNat+1
def Zh9:Nat->Zo->Ks->Zo->Zo->List Ze->Int->Option (Zo×Unit)|0,_,_,_,_,_,_=>none|N+1,s2_2,p3_1,t4_3,x5_3,c6,i7=>bif decide (i7< (c6.length:Int))then Zi (0<=i7/\i7<c6.length)<|(Zd2 x5_3.2.2.2.1 (c6.getD i7.toNat Zy)).bind fun t48=>Zi (0<=i7/\i7<c6.length)<|(Wy x5_3.2.2.2.2.1 (c6.getD i7.toNat Zy)).bind fun t56=>Zh9 N s2_2 p3_1 t4_3 (x5_3.1,(x5_3.2.1,(x5_3.2.2.1,(t48.1,(t56.1,x5_3.2.2.2.2.2))))) c6 (IntKind.i64.wrap (i7+1)) else Zh7 s2_2 p3_1 t4_3 x5_3
def Zq7(s0:Zo)(p1:Ks):Option (Zo×Unit):=
 (Zci s0).bind fun t11=>
 (Xz s0).bind fun t13=>
 let t19:Bool:=(!t13.1)|| (decide (s0.1>(2:Int)))
 (bif t19 then some (false,())else(Zp9 s0 p1)).bind fun t23=>
 bif t19|| (!t23.1)then
  some (t11.1,())
 else
  bif !(p1.2.1==([]:List UInt8))then
   (Zms p1).bind fun t33=>
   (Zcq s0.2.2.2.1 ([t33.1])).bind fun t35=>
   Zh9 (Zkm s0 p1 Zak t11.1 t35.1 (0:Int)) s0 p1 Zak t11.1 t35.1 (0:Int)
  else
   Zh7 s0 p1 Zak t11.1
def Zq8(s0:Zo):Option (Zo×Bool×Unit):=(Zci s0).bind fun t6=>(Xz s0).bind fun t8=>bif(!t8.1)|| (s0.1 !=4)then some (t6.1,false,()) else some (((5:Int),t6.1.2),true,())
abbrev Qhy:List PE:=[.box 0 37 (Zp) (.u false),.box 4 72 (Zu) (.p (.u false) (.p (.u true) (.p (.u false) (.p (.u true) (.u false)))))]
def Vr(x0_2:Zg)(s4_1:Zd):Option ((Unit)×(Zg×Unit)):=(Jj x0_2 s4_1).bind fun t51=>some ((),(t51.2.1,()))
abbrev Qhx:List PE:=[.box 0 37 (Zp) (.u false),.box 3 39 (Zx) (.u false),.box 4 72 (Zu) (.u true),.val 5 (.bool) (.u false)]
def Zix(x0_1:Zg)(f3:Zl)(s4:Zd)(is5:Bool):Option ((Unit)×(Zg×Unit)):=(bif(!is5)then some (false,())else(V7 f3)).bind fun t21=>bif(!is5)|| (!t21.1)then some ((),(x0_1,())) else bif f3.1==8 then (Zwk f3).bind fun t31=>(Zq7 s4.2.1 t31.1).bind fun t32=>Vr x0_1 (s4.1,(t32.1,s4.2.2)) else bif f3.1==4 then (Zq8 s4.2.1).bind fun t39=>bif t39.2.1 then Vr x0_1 (s4.1,(t39.1,(s4.2.2.1,(s4.2.2.2.1,(s4.2.2.2.2.1,(s4.2.2.2.2.2.1,(s4.2.2.2.2.2.2.1,(s4.2.2.2.2.2.2.2.1,(false,s4.2.2.2.2.2.2.2.2.2))))))))) else Vr x0_1 (s4.1,(t39.1,s4.2.2)) else bif f3.1==5 then Vr x0_1 (s4.1,(s4.2.1,(s4.2.2.1,(s4.2.2.2.1,(s4.2.2.2.2.1,(s4.2.2.2.2.2.1,(s4.2.2.2.2.2.2.1,(s4.2.2.2.2.2.2.2.1,(s4.2.2.2.2.2.2.2.2.1,(false,s4.2.2.2.2.2.2.2.2.2.2)))))))))) else Vr x0_1 s4
def Zox(x0:Zg)(f1:Zl):Option ((Unit)×(Zg×Unit)):=Zo3 1 ((Qv x0 f1.2.1).bind fun t14=>Zix x0 f1 t14.1 t14.2.1)
abbrev Z58:List PE:=[.box 4 37 (Zp) (.u true),.box 6 37 (Zp) (.u false),.box 7 130 (Y1) (.u true),.val 9 (.int .i64) (.u false)]
def Zjh(t4:Zg)(x6:Zg)(p7:Z8)(i9:Int):Nat:=((p7.2.1.length:Int)-i9).toNat+1
def Zac:Nat->Zg->Zg->Z8->Int->Option ((Zg×Bool×Unit)×(Unit))|0,_,_,_,_=>none|N+1,t4,x6,p7,i9=>bif decide (i9< (p7.2.1.length:Int))then Zi (0<=i9/\i9<p7.2.1.length)<|(Zox x6 (p7.2.1.getD i9.toNat Zcj)).bind fun t40=>Zac N t4 t40.2.1 p7 (IntKind.i64.wrap (i9+1)) else some ((x6,(true,())),())
def Zh6(c0:Zg)(number1:Int):Option ((Zg×Bool×Unit)×(Unit)):=(Z6 c0).bind fun t11=>(Znh c0 number1).bind fun t15=>(Jk c0).bind fun t19=>bif(!t19.1)|| (!t15.2.1)then some ((t11.1,(false,())),()) else (Zjq t11.1 number1).bind fun t27=>Zac (Zjh Wt t27.2.1 t15.1 (0:Int)) Wt t27.2.1 t15.1 (0:Int)
abbrev Qem:List PE:=[.box 0 148 (Zct) (.u false),.box 3 37 (Zp) (.u false),.box 4 37 (Zp) (.u true),.box 6 37 (Zp) (.u false),.val 27 (.int .i64) (.u false),.val 91 (.bool) (.u false)]
def Zc5(c0_3:Qx)(x3_2:Zg)(t4_2:Zg)(y6_1:Zg)(t27_2:Int)(t91:Bool):Option ((Zg×Unit)×(Qx×Unit)):=bif t91 then (Qm c0_3 (20:Int)).bind fun t97=>(Zfh x3_2 (IntKind.i64.wrap ((8:Int)+t97.1.1))).bind fun t99=>some ((t99.1.2.2.1,()),(t97.2.1,())) else bif t27_2==8 then (Zmr c0_3).bind fun t106=>(J8 x3_2 t106.1.1).bind fun t110=>bif t110.1.2.1==0 then some ((t110.1.1,()),(t106.2.1,())) else some ((y6_1,()),(t106.2.1,())) else bif t27_2==9 then bif decide ((x3_2.2.2.2.2.2.2.2.2.2.2.2.2.2.2.2.1.length:Int)>(0:Int))then (Qm c0_3 (x3_2.2.2.2.2.2.2.2.2.2.2.2.2.2.2.2.1.length:Int)).bind fun t128=>Zi (0<=t128.1.1/\t128.1.1<x3_2.2.2.2.2.2.2.2.2.2.2.2.2.2.2.2.1.length)<|(Ws t128.2.1 (3:Int)).bind fun t133=>bif t133.1.1 then (Zfj x3_2 (x3_2.2.2.2.2.2.2.2.2.2.2.2.2.2.2.2.1.getD t128.1.1.toNat Qg).1).bind fun t137=>some ((t137.1.1,()),(t133.2.1,())) else (Zh6 x3_2 (x3_2.2.2.2.2.2.2.2.2.2.2.2.2.2.2.2.1.getD t128.1.1.toNat Qg).1).bind fun t143=>some ((t143.1.1,()),(t133.2.1,())) else some ((y6_1,()),(c0_3,())) else some ((y6_1,()),(c0_3,()))
abbrev Qel:List PE:=[.box 0 148 (Zct) (.u false),.box 3 37 (Zp) (.u false),.box 4 37 (Zp) (.u true),.val 5 (.int .i64) (.u false),.box 6 37 (Zp) (.u false),.val 27 (.int .i64) (.u false),.val 38 (.bool) (.u false)]
def Zc4(c0_2:Qx)(x3_1:Zg)(t4_1:Zg)(id5_1:Int)(y6:Zg)(t27_1:Int)(t38:Bool):Option ((Zg×Unit)×(Qx×Unit)):=bif t38 then (Zl5 c0_2 (8:Int)).bind fun t45=>(Zd5 x3_1 id5_1 t45.1.1).bind fun t46=>some ((t46.2.1,()),(t45.2.1,())) else bif t27_1==3 then (Ws c0_2 (2:Int)).bind fun t52=>bif t52.1.1 then (Zcr x3_1 id5_1).bind fun t56=>some ((t56.1,()),(t52.2.1,())) else some ((y6,()),(t52.2.1,())) else bif t27_1==4 then (Qm c0_2 (6:Int)).bind fun t65=>(Zfl x3_1 id5_1 t65.1.1).bind fun t66=>some ((t66.1.2.2.1,()),(t65.2.1,())) else bif t27_1==5 then (Ws c0_2 (3:Int)).bind fun t73=>bif t73.1.1 then (Qm t73.2.1 (3:Int)).bind fun t78=>(Zd3 x3_1 id5_1 t78.1.1).bind fun t79=>some ((t79.1.1,()),(t78.2.1,())) else (Zow t73.2.1 ([([117,61,49]:List UInt8),([105]:List UInt8),([117,61,53,44,32,105]:List UInt8)])).bind fun t87=>(Zd4 x3_1 id5_1 t87.1.1).bind fun t88=>some ((t88.1,()),(t87.2.1,())) else bif t27_1==6 then Zc5 c0_2 x3_1 t4_1 y6 t27_1 (t27_1==6) else Zc5 c0_2 x3_1 t4_1 y6 t27_1 (t27_1==7)
abbrev Qek:List PE:=[.box 0 148 (Zct) (.u false),.box 3 37 (Zp) (.u false),.box 4 37 (Zp) (.u true),.val 5 (.int .i64) (.u false)]
def Zc3(c0_1:Qx)(x3:Zg)(t4:Zg)(id5:Int):Option ((Zg×Unit)×(Qx×Unit)):=(Qm c0_1 (10:Int)).bind fun t27=>bif t27.1.1==0 then (Ws t27.2.1 (2:Int)).bind fun t33=>(Zfk x3 t33.1.1).bind fun t34=>some ((t34.2.1,()),(t33.2.1,())) else bif t27.1.1==1 then Zc4 t27.2.1 x3 t4 id5 x3 t27.1.1 (t27.1.1==1) else Zc4 t27.2.1 x3 t4 id5 x3 t27.1.1 (t27.1.1==2)
def Zmp(c0:Qx)(x1:Zg):Option ((Zg×Unit)×(Qx×Unit)):=bif decide ((x1.2.2.2.1.length:Int)>(0:Int))then (Qm c0 (x1.2.2.2.1.length:Int)).bind fun t21=>Zi (0<=t21.1.1/\t21.1.1<x1.2.2.2.1.length)<|Zc3 t21.2.1 x1 Wt (x1.2.2.2.1.getD t21.1.1.toNat Zh).1 else Zc3 c0 x1 Wt (0:Int)
abbrev Qef:List PE:=[.box 0 148 (Zct) (.u false),.box 2 37 (Zp) (.u true),.box 3 37 (Zp) (.u false),.val 5 (.int .i64) (.u false)]
def Zl0(c0_1:Qx)(t2:Zg)(x3:Zg)(n5:Int):Nat:=(n5-0).toNat+1
def Zc0:Nat->Qx->Zg->Zg->Int->Option ((Zg×Unit)×(Qx×Unit))|0,_,_,_,_=>none|N+1,c0_1,t2,x3,n5=>bif decide (n5>(0:Int))then (Zmp c0_1 x3).bind fun t25=>Zc0 N t25.2.1 t2 t25.1.1 (IntKind.i64.wrap (n5-1)) else some ((x3,()),(c0_1,()))
def Zmn(c0:Qx):Option ((Zg×Unit)×(Qx×Unit)):=(Ws c0 (2:Int)).bind fun t8=>(Zml t8.2.1).bind fun t10=>(Zml t10.2.1).bind fun t12=>(Zmi t8.1.1 t10.1.1 t12.1.1).bind fun t13=>(Qm t12.2.1 (12:Int)).bind fun t17=>Zc0 (Zl0 t17.2.1 Wt t13.1 (IntKind.i64.wrap ((2:Int)+t17.1.1))) t17.2.1 Wt t13.1 (IntKind.i64.wrap ((2:Int)+t17.1.1))
def Zlz(c0:Qx):Option ((Zg×Unit)×(Qx×Unit)):=(Zmn c0).bind fun t5=>(Qm t5.2.1 (20:Int)).bind fun t7=>bif t7.1.1==0 then (Ya t7.2.1 ([(-1:Int),(3:Int),(7:Int),(256:Int)])).bind fun t12=>some (((t5.1.1.1,(t5.1.1.2.1,(t5.1.1.2.2.1,(t5.1.1.2.2.2.1,(t5.1.1.2.2.2.2.1,(t5.1.1.2.2.2.2.2.1,(t5.1.1.2.2.2.2.2.2.1,(t5.1.1.2.2.2.2.2.2.2.1,(t5.1.1.2.2.2.2.2.2.2.2.1,(t5.1.1.2.2.2.2.2.2.2.2.2.1,(t5.1.1.2.2.2.2.2.2.2.2.2.2.1,(t5.1.1.2.2.2.2.2.2.2.2.2.2.2.1,(t5.1.1.2.2.2.2.2.2.2.2.2.2.2.2.1,(t5.1.1.2.2.2.2.2.2.2.2.2.2.2.2.2.1,(t5.1.1.2.2.2.2.2.2.2.2.2.2.2.2.2.2.1,(t5.1.1.2.2.2.2.2.2.2.2.2.2.2.2.2.2.2.1,(t5.1.1.2.2.2.2.2.2.2.2.2.2.2.2.2.2.2.2.1,(t12.1.1,t5.1.1.2.2.2.2.2.2.2.2.2.2.2.2.2.2.2.2.2.2)))))))))))))))))),()),(t12.2.1,())) else bif t7.1.1==1 then (Ya t7.2.1 ([(-1:Int),(1000000:Int),(1000001:Int)])).bind fun t18=>some (((t5.1.1.1,(t5.1.1.2.1,(t5.1.1.2.2.1,(t5.1.1.2.2.2.1,(t5.1.1.2.2.2.2.1,(t5.1.1.2.2.2.2.2.1,(t5.1.1.2.2.2.2.2.2.1,(t5.1.1.2.2.2.2.2.2.2.1,(t5.1.1.2.2.2.2.2.2.2.2.1,(t5.1.1.2.2.2.2.2.2.2.2.2.1,(t5.1.1.2.2.2.2.2.2.2.2.2.2.1,(t5.1.1.2.2.2.2.2.2.2.2.2.2.2.1,(t5.1.1.2.2.2.2.2.2.2.2.2.2.2.2.1,(t5.1.1.2.2.2.2.2.2.2.2.2.2.2.2.2.1,(t5.1.1.2.2.2.2.2.2.2.2.2.2.2.2.2.2.1,(t5.1.1.2.2.2.2.2.2.2.2.2.2.2.2.2.2.2.1,(t18.1.1,t5.1.1.2.2.2.2.2.2.2.2.2.2.2.2.2.2.2.2.2))))))))))))))))),()),(t18.2.1,())) else bif t7.1.1==2 then (Ya t7.2.1 ([(-1:Int),(0:Int)])).bind fun t24=>some (((t5.1.1.1,(t5.1.1.2.1,(t5.1.1.2.2.1,(t5.1.1.2.2.2.1,((t5.1.1.2.2.2.2.1.1,(t24.1.1,t5.1.1.2.2.2.2.1.2.2)),t5.1.1.2.2.2.2.2))))),()),(t24.2.1,())) else bif t7.1.1==3 then (Ya t7.2.1 ([(0:Int),(1000000:Int),(1000001:Int)])).bind fun t31=>some (((t5.1.1.1,(t5.1.1.2.1,(t5.1.1.2.2.1,(t5.1.1.2.2.2.1,(t5.1.1.2.2.2.2.1,(t5.1.1.2.2.2.2.2.1,(t5.1.1.2.2.2.2.2.2.1,(t5.1.1.2.2.2.2.2.2.2.1,(t5.1.1.2.2.2.2.2.2.2.2.1,(t5.1.1.2.2.2.2.2.2.2.2.2.1,(t5.1.1.2.2.2.2.2.2.2.2.2.2.1,(t5.1.1.2.2.2.2.2.2.2.2.2.2.2.1,(t5.1.1.2.2.2.2.2.2.2.2.2.2.2.2.1,(t5.1.1.2.2.2.2.2.2.2.2.2.2.2.2.2.1,(t31.1.1,t5.1.1.2.2.2.2.2.2.2.2.2.2.2.2.2.2.2))))))))))))))),()),(t31.2.1,())) else some ((t5.1.1,()),(t7.2.1,()))
abbrev Qee:List PE:=[.box 4 37 (Zp) (.u true),.box 5 39 (Zx) (.u false),.box 7 37 (Zp) (.u false),.box 8 39 (Zx) (.u false)]
def Zke(t4:Zg)(t5:Zl)(x7:Zg)(f8:Zl):Option ((Zg×Zl×Unit)×(Unit)):=some ((x7,(f8,())),())
def Zjo(code0:List Int)(kind1:Int):Option ((Zg×Zl×Unit)×(Unit)):=(Zqt code0).bind fun t10=>(Zlz t10.1).bind fun t12=>(Zmr t12.2.1).bind fun t14=>(Qm t14.2.1 (12:Int)).bind fun t18=>(Zl5 t18.2.1 (5:Int)).bind fun t21=>(Ws t21.2.1 (4:Int)).bind fun t24=>(Qm t24.2.1 (4:Int)).bind fun t27=>(Qm t27.2.1 (12:Int)).bind fun t30=>(Qm t30.2.1 (40:Int)).bind fun t33=>(Qm t33.2.1 (9:Int)).bind fun t36=>Option.bind (Zgh (kind1,(t36.1.1,(t18.1.1,(t21.1.1,(t24.1.1,(t27.1.1,(t33.1.1,(t30.1.1,t14.1.1.2.2.2.2.2.2.2.2))))))))) fun t39=>(Ws t36.2.1 (14:Int)).bind fun t41=>bif t41.1.1 then (Ya t41.2.1 ([(0:Int),(8:Int),(16:Int)])).bind fun t44=>Zke Wt Zcj t12.1.1 (t44.1.1,t39.1.2) else Zke Wt Zcj t12.1.1 t39.1
def Zg6(code0:List Int):Option ((Zg×Zl×Unit)×(Unit)):=(Zjo code0 (8:Int)).bind fun t8=>some ((t8.1.1,(t8.1.2.1,())),())
def Z2(n0:Int)(low1:Int)(high2:Int):Option (Bool×Unit):=some ((decide (low1<=n0))&& (decide (n0<=high2)),())
def Zas(size0:Int):Option (Bool×Unit):=(Z2 size0 (1:Int) (64:Int)).bind fun t4=>some (t4.1&& ((bits .and .i64 size0 (IntKind.i64.wrap (size0-1)))==0),())
def Zld(c0:Zfp):Option (Bool×Unit):=
 (Zas c0.1).bind fun t5=>
 (bif t5.1 then(Z2 c0.2.2.1 (1:Int) (4096:Int))else some (false,())).bind fun t9=>
 (bif(t5.1&&t9.1)then(Z2 c0.2.2.2.2.1 (1:Int) (4096:Int))else some (false,())).bind fun t14=>
 (bif((t5.1&&t9.1)&&t14.1)then(Z2 c0.2.1 (1:Int) c0.2.2.1)else some (false,())).bind fun t21=>
 let t22:Bool:=((t5.1&&t9.1)&&t14.1)&&t21.1
 (bif t22 then(Z2 c0.2.2.2.1 (1:Int) c0.2.2.2.2.1)else some (false,())).bind fun t28=>
 (bif(t22&&t28.1)then(Z2 c0.2.2.2.2.2.1 (0:Int) (1000:Int))else some (false,())).bind fun t33=>
 (bif((t22&&t28.1)&&t33.1)then(Z2 c0.2.2.2.2.2.2.1 (0:Int) (1000:Int))else some (false,())).bind fun t38=>
 let t39:Bool:=((t22&&t28.1)&&t33.1)&&t38.1
 (bif t39 then(Z2 c0.2.2.2.2.2.2.2.1 (1:Int) (1000:Int))else some (false,())).bind fun t43=>
 some (t39&&t43.1,())
def Xd(n0:Int):Option (Bool×Unit):=(Z2 n0 (0:Int) (4611686018427387903:Int)).bind fun t4=>some (t4.1,())
def Zv8(n0:Int):Option (Bool×Unit):=(Z2 n0 (0:Int) (255:Int)).bind fun t4=>some (!t4.1,())
abbrev Zi4:List PE:=[.val 0 (.slice 3 (.int .i64)) (.u false),.val 1 (.fnc 258) (.u false),.val 7 (.int .i64) (.u false),.val 8 (.int .i64) (.u false)]
def Xj(s0_1:List Int)(f1:Unit)(t7_1:Int)(t8:Int):Nat:=(t7_1-t8).toNat+1
def Q9:Nat->List Int->Unit->Int->Int->Option (Int×Unit)|0,_,_,_,_=>none|N+1,s0_1,f1,t7_1,t8=>bif decide (t8<t7_1)then Zi (0<=t8/\t8<s0_1.length)<|(Zv8 (s0_1.getD t8.toNat (0:Int))).bind fun t16=>bif t16.1 then some (t8,()) else Q9 N s0_1 () t7_1 (IntKind.i64.wrap (t8+1)) else some ((-1:Int),())
def Js(s0:List Int):Option (Int×Unit):=Q9 (Xj s0 () (s0.length:Int) (0:Int)) s0 () (s0.length:Int) (0:Int)
def Kw(s0:List Int):Option (Bool×Unit):=(Js s0).bind fun t7=>some (decide (t7.1>=(0:Int)),())
def Zvj(r0:Yj):Option (Bool×Unit):=
 (Zas r0.1).bind fun t5=>
 let t14:Bool:=(!t5.1)|| ((r0.2.2.2.1.length:Int) !=r0.1)
 (bif t14 then some (false,())else(Kw r0.2.2.2.1)).bind fun t18=>
 bif t14||t18.1 then
  some (false,())
 else
  (Xd r0.2.1).bind fun t22=>
  (bif t22.1 then(Z2 r0.2.2.1 r0.2.1 (min (IntKind.i64.wrap (r0.2.1+r0.1)) (4611686018427387903:Int)))else some (false,())).bind fun t34=>
  some (t22.1&&t34.1,())
def Ztb(r0:Ze):Option (Bool×Unit):=some (((decide (r0.1>=(0:Int)))&& (decide (r0.1<r0.2.1)))&& (decide (r0.2.1<=(4611686018427387903:Int))),())
abbrev Z8j:List PE:=[.val 0 (.slice 167 (Zw)) (.u false),.val 5 (.slice 167 (Zw)) (.u false),.val 6 (.int .i64) (.u false),.val 7 (.int .i64) (.u false)]
def Zkk(l0_1:List Ze)(t5:List Ze)(t6_1:Int)(t7:Int):Nat:=(t6_1-t7).toNat+1
def Zhs:Nat->List Ze->List Ze->Int->Int->Option (Bool×Unit)|0,_,_,_,_=>none|N+1,l0_1,t5,t6_1,t7=>bif decide (t7<t6_1)then Zi (0<=t7/\t7<t5.length)<|(Ztb (t5.getD t7.toNat Zy)).bind fun t13=>Zi (((!t13.1)=false->((decide (t7>(0:Int)))=true->(0<=(IntKind.i64.wrap (t7-1))/\(IntKind.i64.wrap (t7-1))<l0_1.length))))<|bif(!t13.1)|| ((decide (t7>(0:Int)))&& (decide ((t5.getD t7.toNat Zy).1<=(l0_1.getD (IntKind.i64.wrap (t7-1)).toNat Zy).2.1)))then some (false,()) else Zhs N l0_1 t5 t6_1 (IntKind.i64.wrap (t7+1)) else some (true,())
def Zbx(l0:List Ze):Option (Bool×Unit):=Zhs (Zkk l0 l0 (l0.length:Int) (0:Int)) l0 l0 (l0.length:Int) (0:Int)
abbrev Zys:List PE:=[.val 3 (.int .i64) (.u false),.val 9 (.slice 167 (Zw)) (.u false),.val 10 (.int .i64) (.u false),.val 11 (.int .i64) (.u false)]
def Ze9(count3:Int)(t9:List Ze)(t10_1:Int)(t11:Int):Nat:=(t10_1-t11).toNat+1
def Zb8:Nat->Int->List Ze->Int->Int->Option (Int×Unit)|0,_,_,_,_=>none|N+1,count3,t9,t10_1,t11=>bif decide (t11<t10_1)then Zi (0<=t11/\t11<t9.length)<|Zb8 N (IntKind.i64.wrap (count3+ (IntKind.i64.wrap ((t9.getD t11.toNat Zy).2.1- (t9.getD t11.toNat Zy).1)))) t9 t10_1 (IntKind.i64.wrap (t11+1)) else some (count3,())
def W6(l0:List Ze):Option (Int×Unit):=(Zbx l0).bind fun t7=>bif !t7.1 then some ((-1:Int),()) else Zb8 (Ze9 (0:Int) l0 (l0.length:Int) (0:Int)) (0:Int) l0 (l0.length:Int) (0:Int)
def Vu(l0:List Ze):Option (List Ze×Unit):=Zi (([]:List Ze).length+l0.length<=Qo)<|some (([]:List Ze)++l0,())
abbrev Z8f:List PE:=[.box 3 167 (Zw) (.u false),.val 5 (.slice 167 (Zw)) (.u true),.val 6 (.bool) (.u false),.box 8 167 (Zw) (.u false),.val 20 (.slice 167 (Zw)) (.u false),.val 21 (.int .i64) (.u false),.val 22 (.int .i64) (.u false)]
def Zhm(K1: (Ze×List Ze×Bool×List Ze×Int×Int×Unit)->Option (List Ze×Unit))(r3_1:Ze)(out5_1:List Ze)(placed6_1:Bool)(x8:Ze)(t20_1:List Ze)(t21_2:Int)(t22_1:Int):Option (List Ze×Unit):=Zi (out5_1.length+ ([x8]).length<=Qo)<|K1 (r3_1,out5_1++ ([x8]),placed6_1,t20_1,t21_2,IntKind.i64.wrap (t22_1+1),())
abbrev Z8g:List PE:=[.box 3 167 (Zw) (.u false),.val 5 (.slice 167 (Zw)) (.u true),.val 6 (.bool) (.u false),.val 20 (.slice 167 (Zw)) (.u false),.val 21 (.int .i64) (.u false),.val 22 (.int .i64) (.u false)]
def Zey(r3:Ze)(out5:List Ze)(placed6:Bool)(t20:List Ze)(t21_1:Int)(t22:Int):Nat:=(t21_1-t22).toNat+1
def Yk:Nat->Ze->List Ze->Bool->List Ze->Int->Int->Option (List Ze×Unit)|0,_,_,_,_,_,_=>none|N+1,r3,out5,placed6,t20,t21_1,t22=>bif decide (t22<t21_1)then Zi (0<=t22/\t22<t20.length)<|bif decide ((t20.getD t22.toNat Zy).2.1<r3.1)then Zi (out5.length+ ([(t20.getD t22.toNat Zy)]).length<=Qo)<|Yk N r3 (out5++ ([(t20.getD t22.toNat Zy)])) placed6 t20 t21_1 (IntKind.i64.wrap (t22+1)) else bif decide ((t20.getD t22.toNat Zy).1>r3.2.1)then bif !placed6 then Zi (out5.length+ ([r3]).length<=Qo)<|Zhm (fun v=>Yk N v.1 v.2.1 v.2.2.1 v.2.2.2.1 v.2.2.2.2.1 v.2.2.2.2.2.1) r3 (out5++ ([r3])) true (t20.getD t22.toNat Zy) t20 t21_1 t22 else Zhm (fun v=>Yk N v.1 v.2.1 v.2.2.1 v.2.2.2.1 v.2.2.2.2.1 v.2.2.2.2.2.1) r3 out5 placed6 (t20.getD t22.toNat Zy) t20 t21_1 t22 else Yk N (min r3.1 (t20.getD t22.toNat Zy).1,(max r3.2.1 (t20.getD t22.toNat Zy).2.1,())) out5 placed6 t20 t21_1 (IntKind.i64.wrap (t22+1)) else bif !placed6 then Zi (out5.length+ ([r3]).length<=Qo)<|some (out5++ ([r3]),()) else some (out5,())
def Zq0(l0:List Ze)(r1:Ze):Option (List Ze×Unit):=(Zbx l0).bind fun t10=>(bif(!t10.1)then some (false,())else(Ztb r1)).bind fun t14=>bif(!t10.1)|| (!t14.1)then (Vu l0).bind fun t18=>some (t18.1,()) else Yk (Zey r1 ([]:List Ze) false l0 (l0.length:Int) (0:Int)) r1 ([]:List Ze) false l0 (l0.length:Int) (0:Int)
def Zcv(l0:List Ze)(place1:Int):Option (Bool×Unit):=
 let t12:Int:=IntKind.i64.wrap ((l0.length:Int)- (1:Int))
 Zi (((decide ((l0.length:Int)>(0:Int)))=true->(0<=t12/\t12<l0.length)))<|
 some ((decide ((l0.length:Int)>(0:Int)))&& (decide ((l0.getD t12.toNat Zy).2.1>place1)),())
abbrev Z8l:List PE:=[.val 3 (.int .i64) (.u false),.val 9 (.slice 167 (Zw)) (.u true),.val 27 (.slice 167 (Zw)) (.u true),.val 28 (.int .i64) (.u false),.val 29 (.int .i64) (.u false)]
def Ze0(end3_1:Int)(all9:List Ze)(t27_1:List Ze)(t28_1:Int)(t29:Int):Nat:=(t28_1-t29).toNat+1
def Zhw:Nat->Int->List Ze->List Ze->Int->Int->Option (Bool×Unit)|0,_,_,_,_,_=>none|N+1,end3_1,all9,t27_1,t28_1,t29=>bif decide (t29<t28_1)then Zi (0<=t29/\t29<t27_1.length)<|(Zq0 all9 (t27_1.getD t29.toNat Zy)).bind fun t35=>Zhw N end3_1 t35.1 t27_1 t28_1 (IntKind.i64.wrap (t29+1)) else (W6 all9).bind fun t38=>(bif(t38.1==end3_1)then(Zcv all9 end3_1)else some (false,())).bind fun t44=>some ((t38.1==end3_1)&& (!t44.1),())
def Zq2(a0:List Ze)(b1:List Ze)(c2:List Ze)(end3:Int):Option (Bool×Unit):=(W6 a0).bind fun t13=>(W6 b1).bind fun t15=>(W6 c2).bind fun t18=>bif(IntKind.i64.wrap ((IntKind.i64.wrap (t13.1+t15.1))+t18.1)) !=end3 then some (false,()) else (Vu a0).bind fun t23=>(Vu b1).bind fun t25=>Zi (t25.1.length+c2.length<=Qo)<|Zhw (Ze0 end3 t23.1 (t25.1++c2) ((t25.1++c2).length:Int) (0:Int)) end3 t23.1 (t25.1++c2) ((t25.1++c2).length:Int) (0:Int)
abbrev Z8h:List PE:=[.val 1 (.int .i64) (.u false),.val 14 (.slice 167 (Zw)) (.u false),.val 15 (.int .i64) (.u false),.val 16 (.int .i64) (.u false)]
def Zkj(from1_1:Int)(t14:List Ze)(t15_1:Int)(t16:Int):Nat:=(t15_1-t16).toNat+1
def Zdv:Nat->Int->List Ze->Int->Int->Option (Int×Unit)|0,_,_,_,_=>none|N+1,from1_1,t14,t15_1,t16=>bif decide (t16<t15_1)then Zi (0<=t16/\t16<t14.length)<|bif(decide ((t14.getD t16.toNat Zy).1<=from1_1))&& (decide (from1_1< (t14.getD t16.toNat Zy).2.1))then Zdv N (t14.getD t16.toNat Zy).2.1 t14 t15_1 (IntKind.i64.wrap (t16+1)) else Zdv N from1_1 t14 t15_1 (IntKind.i64.wrap (t16+1)) else some (from1_1,())
def Zq1(l0:List Ze)(from1:Int):Option (Int×Unit):=(Zbx l0).bind fun t8=>bif(!t8.1)|| (decide (from1< (0:Int)))then some ((-1:Int),()) else Zdv (Zkj from1 l0 (l0.length:Int) (0:Int)) from1 l0 (l0.length:Int) (0:Int)
def Zph(s0:Zo):Option (Int×Unit):=bif(s0.2.2.2.2.2.2.1==3)&& (s0.2.1.2.1==s0.2.1.2.2.1)then some ((3:Int),()) else bif((s0.2.2.2.2.2.2.1==2)|| (s0.2.2.2.2.2.2.1==3))|| ((s0.2.2.2.2.2.2.1==1)&& (s0.1==2))then some ((2:Int),()) else bif(decide (s0.2.2.2.2.2.2.2.1>(0:Int)))|| ((s0.2.2.2.2.2.2.1==1)&& (s0.1==1))then some ((1:Int),()) else some ((0:Int),())
abbrev Z8k:List PE:=[.box 1 68 (Z4) (.u false),.val 4 (.int .i64) (.u false)]
def Zht(s1:Zo)(final4:Int):Option (Bool×Unit):=
 (Zq2 s1.2.2.1 s1.2.2.2.1 s1.2.2.2.2.1 s1.2.1.2.2.1).bind fun t117=>
 (bif t117.1 then(Zq1 s1.2.2.2.2.1 (0:Int))else some ((0:Int),())).bind fun t121=>
 (bif(t117.1&& (t121.1==s1.2.1.2.1))then(Zcv s1.2.2.2.1 s1.2.2.2.2.2.2.2.1)else some (false,())).bind fun t132=>
 let t134:Bool:=(t117.1&& (t121.1==s1.2.1.2.1))&& (!t132.1)
 (bif t134 then(Zcv s1.2.2.2.2.1 s1.2.2.2.2.2.2.2.1)else some (false,())).bind fun t140=>
 let t153:Bool:=((t134&& (!t140.1))&& (s1.2.2.2.2.2.2.2.2.1==0))&& (s1.2.2.2.2.2.1==final4)
 (bif t153 then(Zph s1)else some ((0:Int),())).bind fun t158=>
 some (t153&& (s1.1==t158.1),())
def Zm6(s0:Zo):Option (Bool×Unit):=
 (Zvj s0.2.1).bind fun t7=>
 (bif(!t7.1)then some (false,())else(Zbx s0.2.2.1)).bind fun t12=>
 (bif((!t7.1)|| (!t12.1))then some (false,())else(Zbx s0.2.2.2.1)).bind fun t18=>
 let t20:Bool:=((!t7.1)|| (!t12.1))|| (!t18.1)
 (bif t20 then some (false,())else(Zbx s0.2.2.2.2.1)).bind fun t24=>
 (bif(t20|| (!t24.1))then some (false,())else(Z2 s0.2.2.2.2.2.2.2.1 (0:Int) s0.2.1.2.2.1)).bind fun t33=>
 let t35:Bool:=(t20|| (!t24.1))|| (!t33.1)
 (bif t35 then some (false,())else(Xd s0.2.2.2.2.2.2.2.2.1)).bind fun t39=>
 (bif(t35|| (!t39.1))then some (false,())else(Z2 s0.2.2.2.2.2.2.1 (0:Int) (3:Int))).bind fun t45=>
 bif(t35|| (!t39.1))|| (!t45.1)then
  some (false,())
 else
  bif(s0.1==4)|| (s0.1==5)then
   some ((((((((s0.2.2.1.length:Int)==(0:Int))&& ((s0.2.2.2.1.length:Int)==(0:Int)))&& ((s0.2.2.2.2.1.length:Int)==(0:Int)))&& (s0.2.1.2.1==s0.2.1.2.2.1))&& (s0.2.2.2.2.2.1==s0.2.2.2.2.2.2.2.1))&& (s0.2.2.2.2.2.2.2.1==s0.2.1.2.2.1))&& (s0.2.2.2.2.2.2.1==0),())
  else
   bif s0.2.2.2.2.2.2.1==0 then
    Zht s0 (-1:Int)
   else
    Zht s0 s0.2.1.2.2.1
def Zm5(c0:Q0):Option (Bool×Unit):=(Xd c0.1).bind fun t5=>(bif t5.1 then(Z2 c0.2.1 (0:Int) c0.1)else some (false,())).bind fun t11=>(bif(t5.1&&t11.1)then(Z2 c0.2.2.1 (-1:Int) c0.1)else some (false,())).bind fun t18=>(bif((t5.1&&t11.1)&&t18.1)then(Z2 c0.2.2.2.1 (-1:Int) c0.1)else some (false,())).bind fun t25=>some (((t5.1&&t11.1)&&t18.1)&&t25.1,())
def Zb7(c0:Z0):Option (Int×Unit):=some (IntKind.i64.wrap (c0.1+ (c0.2.1.length:Int)),())
abbrev Z8i:List PE:=[.val 3 (.int .i64) (.u false),.val 13 (.slice 158 (Zhj)) (.u false),.val 14 (.int .i64) (.u false),.val 15 (.int .i64) (.u false)]
def Zez(least3:Int)(t13:List Z0)(t14_1:Int)(t15:Int):Nat:=(t14_1-t15).toNat+1
def Zhr:Nat->Int->List Z0->Int->Int->Option (Bool×Unit)|0,_,_,_,_=>none|N+1,least3,t13,t14_1,t15=>bif decide (t15<t14_1)then Zi (0<=t15/\t15<t13.length)<|bif((((t13.getD t15.toNat Qc).2.1.length:Int)==(0:Int))|| (decide ((t13.getD t15.toNat Qc).1<least3)))|| (decide ((t13.getD t15.toNat Qc).1>(IntKind.i64.wrap ((4611686018427387903:Int)- ((t13.getD t15.toNat Qc).2.1.length:Int)))))then some (false,()) else (Zb7 (t13.getD t15.toNat Qc)).bind fun t39=>Zhr N (IntKind.i64.wrap (t39.1+1)) t13 t14_1 (IntKind.i64.wrap (t15+1)) else some (true,())
def Zgn(b0:Zq):Option (Bool×Unit):=(Xd b0.1).bind fun t8=>bif !t8.1 then some (false,()) else Zhr (Zez b0.1 b0.2.1 (b0.2.1.length:Int) (0:Int)) b0.1 b0.2.1 (b0.2.1.length:Int) (0:Int)
def Zyt(b0:Zq):Option (Int×Unit):=
 (Zgn b0).bind fun t4=>
 bif(!t4.1)|| ((b0.2.1.length:Int)==(0:Int))then
  some (b0.1,())
 else
  let t19:Int:=IntKind.i64.wrap ((b0.2.1.length:Int)- (1:Int))
  Zi (0<=t19/\t19<b0.2.1.length)<|
  (Zb7 (b0.2.1.getD t19.toNat Qc)).bind fun t22=>
  some (t22.1,())
def Zno(b0:Zq):Option (Int×Unit):=
 (Zgn b0).bind fun t4=>
 let t11:Bool:=(!t4.1)|| ((b0.2.1.length:Int)==(0:Int))
 Zi ((t11=false->(0<=(0:Int)/\(0:Int)<b0.2.1.length)))<|
 bif t11|| ((b0.2.1.getD (0:Int).toNat Qc).1 !=b0.1)then
  some ((0:Int),())
 else
  Zi (0<=(0:Int)/\(0:Int)<b0.2.1.length)<|
  some (((b0.2.1.getD (0:Int).toNat Qc).2.1.length:Int),())
def Zm9(b0:Zq):Option (Int×Unit):=(Zno b0).bind fun t6=>some (IntKind.i64.wrap (b0.1+t6.1),())
abbrev Z2c:List PE:=[.box 1 60 (Z7) (.u false),.val 101 (.bool) (.u false)]
def Vz(r1:Zr)(t101:Bool):Option (Bool×Unit):=bif t101 then some ((r1.2.2.1==r1.2.2.2.1)&& ((r1.2.1.2.1.length:Int)==(0:Int)),()) else some (false,())
def Zar(r0:Zr):Option (Bool×Unit):=
 (Zgn r0.2.1).bind fun t6=>
 (bif(!t6.1)then some ((0:Int),())else(Zyt r0.2.1)).bind fun t11=>
 let t15:Bool:=(!t6.1)|| (decide (t11.1>r0.2.2.2.1))
 (bif t15 then some (false,())else(Xd r0.2.2.2.1)).bind fun t19=>
 (bif(t15|| (!t19.1))then some (false,())else(Xd r0.2.2.2.2.1)).bind fun t25=>
 let t27:Bool:=(t15|| (!t19.1))|| (!t25.1)
 (bif(r0.2.2.1 !=(-1:Int))then(bif t27 then some (false,())else(Z2 r0.2.2.1 r0.2.2.2.1 (4611686018427387903:Int)))else some (false,())).bind fun t37=>
 bif t27|| ((r0.2.2.1 !=(-1:Int))&& (!t37.1))then
  some (false,())
 else
  (bif(r0.2.2.1 !=(-1:Int))then(Zm9 r0.2.1)else some ((0:Int),())).bind fun t47=>
  let t51:Bool:=(r0.2.2.1 !=(-1:Int))&& (t47.1==r0.2.2.1)
  bif r0.1==0 then
   some ((r0.2.2.1==(-1:Int))&& (r0.2.2.2.2.1==0),())
  else
   bif r0.1==1 then
    some (((r0.2.2.1 !=(-1:Int))&& (!t51))&& (r0.2.2.2.2.1==0),())
   else
    bif r0.1==2 then
     some (t51&& (r0.2.2.2.2.1==0),())
    else
     bif r0.1==3 then
      some ((t51&& (r0.2.2.2.2.1==0))&& ((r0.2.1.2.1.length:Int)==(0:Int)),())
     else
      bif r0.1==4 then
       Vz r0 (r0.1==4)
      else
       Vz r0 (r0.1==5)
def Zgo(w0:Qq):Option (Bool×Unit):=
 (Z2 w0.2.1 (1:Int) (4096:Int)).bind fun t5=>
 (bif t5.1 then(Z2 w0.1 (1:Int) w0.2.1)else some (false,())).bind fun t11=>
 (bif(t5.1&&t11.1)then(Z2 w0.2.2.1 (1:Int) (4611686018427387903:Int))else some (false,())).bind fun t16=>
 (bif((t5.1&&t11.1)&&t16.1)then(Z2 w0.2.2.2.1 (0:Int) w0.2.2.1)else some (false,())).bind fun t23=>
 let t24:Bool:=((t5.1&&t11.1)&&t16.1)&&t23.1
 (bif t24 then(Z2 w0.2.2.2.2.1 (0:Int) w0.2.2.2.1)else some (false,())).bind fun t30=>
 let t41:Bool:=(t24&&t30.1)&& (decide (w0.2.2.1<=(IntKind.i64.wrap (w0.2.2.2.2.1+w0.1))))
 (bif t41 then(Z2 w0.2.2.2.2.2.1 (0:Int) (1000000:Int))else some (false,())).bind fun t45=>
 some (t41&&t45.1,())
def Zr9(p0:Xf):Option (Bool×Unit):=(Z2 p0.1 (0:Int) (7:Int)).bind fun t5=>some (t5.1,())
def Zm7(s0:Zd):Option (Bool×Unit):=
 (Xd s0.1).bind fun t6=>
 (bif(!t6.1)then some (false,())else(Xd s0.2.2.2.2.2.2.2.2.2.2.2.2.1)).bind fun t11=>
 (bif((!t6.1)|| (!t11.1))then some (false,())else(Zm6 s0.2.1)).bind fun t17=>
 let t19:Bool:=((!t6.1)|| (!t11.1))|| (!t17.1)
 (bif t19 then some (false,())else(Zm5 s0.2.2.1)).bind fun t23=>
 (bif(t19|| (!t23.1))then some (false,())else(Zar s0.2.2.2.1)).bind fun t29=>
 let t31:Bool:=(t19|| (!t23.1))|| (!t29.1)
 (bif t31 then some (false,())else(Zgo s0.2.2.2.2.1)).bind fun t35=>
 (bif(t31|| (!t35.1))then some (false,())else(Zr9 s0.2.2.2.2.2.1)).bind fun t41=>
 bif(t31|| (!t35.1))|| (!t41.1)then
  some (false,())
 else
  bif(((!s0.2.2.2.2.2.2.1)&& (!s0.2.2.2.2.2.2.2.1))|| (decide (s0.2.1.2.2.2.2.2.2.2.1>s0.2.2.1.2.1)))|| (decide (s0.2.2.2.1.2.2.2.1>s0.2.2.2.2.1.2.2.2.1))then
   some (false,())
  else
   bif((s0.2.2.2.2.2.2.2.2.1&& (s0.2.1.1 !=4))|| (s0.2.2.2.2.2.2.2.2.2.1&& (!s0.2.2.2.2.2.2.2.2.2.2.2.1)))|| ((s0.2.2.2.2.2.2.2.2.2.2.2.2.1 !=0)&& (!s0.2.2.2.2.2.2.2.2.2.2.2.1))then
    some (false,())
   else
    bif(!s0.2.2.2.2.2.2.1)&& (((s0.2.1.1 !=0)|| (s0.2.1.2.1.2.2.1 !=0))|| (s0.2.1.2.2.2.2.2.1 !=(-1:Int)))then
     some (false,())
    else
     some (s0.2.2.2.2.2.2.2.1|| (((s0.2.2.2.1.1==0)&& (s0.2.2.2.1.2.2.2.1==0))&& (!s0.2.2.2.2.2.2.2.2.2.2.2.1)),())
abbrev Z19:List PE:=[.val 0 (.slice 72 (Zu)) (.u false),.val 5 (.slice 72 (Zu)) (.u false),.val 6 (.int .i64) (.u false),.val 7 (.int .i64) (.u false)]
def Zcl(l0_1:List Zd)(t5:List Zd)(t6_1:Int)(t7:Int):Nat:=(t6_1-t7).toNat+1
def Vy:Nat->List Zd->List Zd->Int->Int->Option (Bool×Unit)
 |0,_,_,_,_=>none
 |N+1,l0_1,t5,t6_1,t7=>
  bif decide (t7<t6_1)then
   Zi (0<=t7/\t7<t5.length)<|
   (bif(decide (t7>=(24:Int)))then some (false,())else(Zm7 (t5.getD t7.toNat Zh))).bind fun t16=>
   let t18:Bool:=(decide (t7>=(24:Int)))|| (!t16.1)
   Zi ((t18=false->((decide (t7>(0:Int)))=true->(0<=(IntKind.i64.wrap (t7-1))/\(IntKind.i64.wrap (t7-1))<l0_1.length))))<|
   bif t18|| ((decide (t7>(0:Int)))&& (decide ((l0_1.getD (IntKind.i64.wrap (t7-1)).toNat Zh).1>=(t5.getD t7.toNat Zh).1)))then
    some (false,())
   else
    Vy N l0_1 t5 t6_1 (IntKind.i64.wrap (t7+1))
  else
   some (true,())
def Zcu(l0:List Zd):Option (Bool×Unit):=Vy (Zcl l0 l0 (l0.length:Int) (0:Int)) l0 l0 (l0.length:Int) (0:Int)
def Zpa(c0:Zbm):Option (Bool×Unit):=(Z2 c0.1 (0:Int) (1152921504606846976:Int)).bind fun t5=>(bif t5.1 then(Z2 c0.2.1 (0:Int) c0.1)else some (false,())).bind fun t11=>(bif(t5.1&&t11.1)then(Z2 c0.2.2.1 (-1:Int) c0.1)else some (false,())).bind fun t18=>some ((t5.1&&t11.1)&&t18.1,())
def Zl7(a0:Q0):Option (Bool×Unit):=(Z2 a0.1 (0:Int) (1000:Int)).bind fun t5=>(bif t5.1 then(Z2 a0.2.1 a0.1 (1152921504606846976:Int))else some (false,())).bind fun t11=>(bif(t5.1&&t11.1)then(Z2 a0.2.2.1 (0:Int) a0.2.1)else some (false,())).bind fun t18=>(bif((t5.1&&t11.1)&&t18.1)then(Z2 a0.2.2.2.1 (0:Int) a0.2.2.1)else some (false,())).bind fun t25=>some ((((t5.1&&t11.1)&&t18.1)&&t25.1)&& (decide (a0.2.1<=(IntKind.i64.wrap (a0.2.2.2.1+a0.1)))),())
def Zv9(kind0:Int):Option (List UInt8×Unit):=bif kind0==4 then some (([114,101,115,101,116]:List UInt8),()) else bif kind0==5 then some (([115,116,111,112]:List UInt8),()) else bif kind0==8 then some (([115,116,114,101,97,109]:List UInt8),()) else bif kind0==16 then some (([109,97,120,100,97,116,97]:List UInt8),()) else bif kind0==17 then some (([109,97,120,115,116,114,101,97,109,100,97,116,97]:List UInt8),()) else bif kind0==18 then some (([109,97,120,115,116,114,101,97,109,115]:List UInt8),()) else bif kind0==20 then some (([100,97,116,97,98,108,111,99,107,101,100]:List UInt8),()) else bif kind0==21 then some (([115,116,114,101,97,109,100,97,116,97,98,108,111,99,107,101,100]:List UInt8),()) else bif kind0==22 then some (([115,116,114,101,97,109,115,98,108,111,99,107,101,100]:List UInt8),()) else some (([]:List UInt8),())
abbrev Zwv:List PE:=[.val 5 (.bool) (.u false)]
def Vo(t5:Bool):Option (Bool×Unit):=bif t5 then some (true,()) else some (false,())
def Zty(f0:Zl):Option (Bool×Unit):=bif f0.1==4 then Vo (f0.1==4) else bif f0.1==5 then Vo (f0.1==5) else bif f0.1==8 then Vo (f0.1==8) else bif f0.1==17 then Vo (f0.1==17) else Vo (f0.1==21)
abbrev Qn4:List PE:=[.box 1 39 (Zx) (.u false),.box 2 39 (Zx) (.u false),.box 3 39 (Zx) (.u false),.val 41 (.bool) (.u false)]
def Zyw(f1_1:Zl)(t2_1:Zl)(out3_1:Zl)(t41:Bool):Option (Zl×Unit):=bif t41 then some ((out3_1.1,(out3_1.2.1,(out3_1.2.2.1,(out3_1.2.2.2.1,(out3_1.2.2.2.2.1,(out3_1.2.2.2.2.2.1,(f1_1.2.2.2.2.2.2.1,(out3_1.2.2.2.2.2.2.2.1,(f1_1.2.2.2.2.2.2.2.2.1,out3_1.2.2.2.2.2.2.2.2.2))))))))),()) else some ((out3_1.1,(out3_1.2.1,(out3_1.2.2.1,(out3_1.2.2.2.1,(out3_1.2.2.2.2.1,(out3_1.2.2.2.2.2.1,(f1_1.2.2.2.2.2.2.1,out3_1.2.2.2.2.2.2.2))))))),())
abbrev Qn3:List PE:=[.box 1 39 (Zx) (.u false),.box 2 39 (Zx) (.u false),.box 3 39 (Zx) (.u false)]
def Zyv(f1:Zl)(t2:Zl)(out3:Zl):Option (Zl×Unit):=bif f1.1==4 then some ((out3.1,(out3.2.1,(out3.2.2.1,(out3.2.2.2.1,(out3.2.2.2.2.1,(f1.2.2.2.2.2.1,(out3.2.2.2.2.2.2.1,(f1.2.2.2.2.2.2.2.1,out3.2.2.2.2.2.2.2.2)))))))),()) else bif f1.1==5 then some ((out3.1,(out3.2.1,(out3.2.2.1,(out3.2.2.2.1,(out3.2.2.2.2.1,(f1.2.2.2.2.2.1,out3.2.2.2.2.2.2)))))),()) else bif f1.1==8 then some ((out3.1,(out3.2.1,(f1.2.2.1,(f1.2.2.2.1,(f1.2.2.2.2.1,out3.2.2.2.2.2))))),()) else bif f1.1==18 then Zyw f1 t2 out3 (f1.1==18) else Zyw f1 t2 out3 (f1.1==22)
def Qgd(f0:Zl):Option (Zl×Unit):=(Zty f0).bind fun t8=>bif t8.1 then Zyv f0 Zcj (f0.1,(f0.2.1,((0:Int),(([]:List UInt8),(false,((0:Int),((0:Int),((0:Int),(false,()))))))))) else Zyv f0 Zcj (f0.1,((0:Int),((0:Int),(([]:List UInt8),(false,((0:Int),((0:Int),((0:Int),(false,())))))))))
def Zdl(f0:Zl):Option (Bool×Unit):=
 (Zv9 f0.1).bind fun t5=>
 (bif(t5.1==([]:List UInt8))then some (Zcj,())else(Qgd f0)).bind fun t10=>
 let t12:Bool:=(t5.1==([]:List UInt8))|| (!(eqV (Zx) f0 t10.1))
 (bif t12 then some (false,())else(Xd f0.2.1)).bind fun t16=>
 (bif(t12|| (!t16.1))then some (false,())else(Xd f0.2.2.1)).bind fun t22=>
 let t24:Bool:=(t12|| (!t16.1))|| (!t22.1)
 (bif t24 then some (false,())else(Xd f0.2.2.2.2.2.1)).bind fun t28=>
 (bif(t24|| (!t28.1))then some (false,())else(Xd f0.2.2.2.2.2.2.1)).bind fun t34=>
 let t36:Bool:=(t24|| (!t28.1))|| (!t34.1)
 (bif t36 then some (false,())else(Xd f0.2.2.2.2.2.2.2.1)).bind fun t40=>
 bif t36|| (!t40.1)then
  some (false,())
 else
  bif(f0.1==18)|| (f0.1==22)then
   some (decide (f0.2.2.2.2.2.2.1<=(1152921504606846976:Int)),())
  else
   some ((decide ((f0.2.2.2.1.length:Int)<=(400:Int)))&& (decide (f0.2.2.1<=(IntKind.i64.wrap ((4611686018427387903:Int)- (f0.2.2.2.1.length:Int))))),())
def Zpg(f0:Zl):Option (Bool×Unit):=(Zdl f0).bind fun t4=>some (!t4.1,())
abbrev Zap:List PE:=[.val 0 (.slice 39 (Zx)) (.u false),.val 1 (.fnc 135) (.u false),.val 7 (.int .i64) (.u false),.val 8 (.int .i64) (.u false)]
def Q3(s0_1:List Zl)(f1:Unit)(t7_1:Int)(t8:Int):Nat:=(t7_1-t8).toNat+1
def Qb:Nat->List Zl->Unit->Int->Int->Option (Int×Unit)|0,_,_,_,_=>none|N+1,s0_1,f1,t7_1,t8=>bif decide (t8<t7_1)then Zi (0<=t8/\t8<s0_1.length)<|(Zpg (s0_1.getD t8.toNat Zcj)).bind fun t16=>bif t16.1 then some (t8,()) else Qb N s0_1 () t7_1 (IntKind.i64.wrap (t8+1)) else some ((-1:Int),())
def Xl(s0:List Zl):Option (Int×Unit):=Qb (Q3 s0 () (s0.length:Int) (0:Int)) s0 () (s0.length:Int) (0:Int)
def Qr(s0:List Zl):Option (Bool×Unit):=(Xl s0).bind fun t7=>some (decide (t7.1>=(0:Int)),())
abbrev Z2f:List PE:=[.val 0 (.slice 130 (Y1)) (.u false),.val 1 (.int .i64) (.u false),.val 7 (.slice 130 (Y1)) (.u false),.val 8 (.int .i64) (.u false),.val 9 (.int .i64) (.u false)]
def Zhv(l0_1:List Z8)(number1_1:Int)(t7:List Z8)(t8_1:Int)(t9:Int):Nat:=(t8_1-t9).toNat+1
def Zeb:Nat->List Z8->Int->List Z8->Int->Int->Option (Bool×Unit)
 |0,_,_,_,_,_=>none
 |N+1,l0_1,number1_1,t7,t8_1,t9=>
  bif decide (t9<t8_1)then
   Zi (0<=t9/\t9<t7.length)<|
   (Z2 (t7.getD t9.toNat Qg).1 (0:Int) (IntKind.i64.wrap (number1_1-1))).bind fun t18=>
   Zi (((!t18.1)=false->((decide (t9>(0:Int)))=true->(0<=(IntKind.i64.wrap (t9-1))/\(IntKind.i64.wrap (t9-1))<l0_1.length))))<|
   let t34:Bool:=(!t18.1)|| ((decide (t9>(0:Int)))&& (decide ((l0_1.getD (IntKind.i64.wrap (t9-1)).toNat Qg).1>=(t7.getD t9.toNat Qg).1)))
   (bif t34 then some (false,())else(Qr (t7.getD t9.toNat Qg).2.1)).bind fun t38=>
   bif t34||t38.1 then
    some (false,())
   else
    Zeb N l0_1 number1_1 t7 t8_1 (IntKind.i64.wrap (t9+1))
  else
   some (true,())
def Zsc(l0:List Z8)(number1:Int):Option (Bool×Unit):=Zeb (Zhv l0 number1 l0 (l0.length:Int) (0:Int)) l0 number1 l0 (l0.length:Int) (0:Int)
def Zwz(s0:Zd):Option (Int×Unit):=some (s0.2.1.2.2.2.2.2.2.2.1,())
abbrev Zpj:List PE:=[.val 1 (.fnc 137) (.u false),.val 5 (.int .i64) (.u false),.val 11 (.slice 72 (Zu)) (.u false),.val 12 (.int .i64) (.u false),.val 13 (.int .i64) (.u false)]
def Xy(number1:Unit)(sum5:Int)(t11:List Zd)(t12_1:Int)(t13:Int):Nat:=(t12_1-t13).toNat+1
def Kd:Nat->Unit->Int->List Zd->Int->Int->Option (Int×Unit)|0,_,_,_,_,_=>none|N+1,number1,sum5,t11,t12_1,t13=>bif decide (t13<t12_1)then Zi (0<=t13/\t13<t11.length)<|(Zwz (t11.getD t13.toNat Zh)).bind fun t20=>Kd N () (min (IntKind.i64.wrap (sum5+t20.1)) (4611686018427387904:Int)) t11 t12_1 (IntKind.i64.wrap (t13+1)) else some (sum5,())
def Zdn(l0:List Zd):Option (Int×Unit):=(Zcu l0).bind fun t9=>bif !t9.1 then some ((0:Int),()) else Kd (Xy () (0:Int) l0 (l0.length:Int) (0:Int)) () (0:Int) l0 (l0.length:Int) (0:Int)
def Zpf(l0:List Zd):Option (Int×Unit):=(Zdn l0).bind fun t4=>some (t4.1,())
def Zwy(s0:Zd):Option (Int×Unit):=some (s0.2.2.2.1.2.2.2.1,())
abbrev Zpi:List PE:=[.val 1 (.fnc 138) (.u false),.val 5 (.int .i64) (.u false),.val 11 (.slice 72 (Zu)) (.u false),.val 12 (.int .i64) (.u false),.val 13 (.int .i64) (.u false)]
def Vp(number1:Unit)(sum5:Int)(t11:List Zd)(t12_1:Int)(t13:Int):Nat:=(t12_1-t13).toNat+1
def Kc:Nat->Unit->Int->List Zd->Int->Int->Option (Int×Unit)|0,_,_,_,_,_=>none|N+1,number1,sum5,t11,t12_1,t13=>bif decide (t13<t12_1)then Zi (0<=t13/\t13<t11.length)<|(Zwy (t11.getD t13.toNat Zh)).bind fun t20=>Kc N () (min (IntKind.i64.wrap (sum5+t20.1)) (4611686018427387904:Int)) t11 t12_1 (IntKind.i64.wrap (t13+1)) else some (sum5,())
def Zdm(l0:List Zd):Option (Int×Unit):=(Zcu l0).bind fun t9=>bif !t9.1 then some ((0:Int),()) else Kc (Vp () (0:Int) l0 (l0.length:Int) (0:Int)) () (0:Int) l0 (l0.length:Int) (0:Int)
def Zpe(l0:List Zd):Option (Int×Unit):=(Zdm l0).bind fun t4=>some (t4.1,())
def Zaq(c0:Zg):Option (Bool×Unit):=
 (Zld c0.2.1).bind fun t6=>
 (bif(!t6.1)then some (false,())else(Zld c0.2.2.1)).bind fun t11=>
 (bif((!t6.1)|| (!t11.1))then some (false,())else(Zcu c0.2.2.2.1)).bind fun t17=>
 let t19:Bool:=((!t6.1)|| (!t11.1))|| (!t17.1)
 (bif t19 then some (false,())else(Zm5 c0.2.2.2.2.1)).bind fun t23=>
 (bif(t19|| (!t23.1))then some (false,())else(Zgo c0.2.2.2.2.2.1)).bind fun t29=>
 bif(t19|| (!t23.1))|| (!t29.1)then
  some (false,())
 else
  (Zpa c0.2.2.2.2.2.2.1).bind fun t35=>
  (bif(!t35.1)then some (false,())else(Zpa c0.2.2.2.2.2.2.2.1)).bind fun t40=>
  (bif((!t35.1)|| (!t40.1))then some (false,())else(Zl7 c0.2.2.2.2.2.2.2.2.1)).bind fun t46=>
  let t48:Bool:=((!t35.1)|| (!t40.1))|| (!t46.1)
  (bif t48 then some (false,())else(Zl7 c0.2.2.2.2.2.2.2.2.2.1)).bind fun t52=>
  bif t48|| (!t52.1)then
   some (false,())
  else
   (Z2 c0.2.2.2.2.2.2.2.2.2.2.2.2.2.1 (-1:Int) (4611686018427387903:Int)).bind fun t58=>
   (bif(!t58.1)then some (false,())else(Z2 c0.2.2.2.2.2.2.2.2.2.2.2.2.2.2.1 (0:Int) (1000000:Int))).bind fun t63=>
   (bif((!t58.1)|| (!t63.1))then some (false,())else(Z2 c0.2.2.2.2.2.2.2.2.2.2.2.2.2.2.2.2.1 (0:Int) (1000000:Int))).bind fun t69=>
   let t71:Bool:=((!t58.1)|| (!t63.1))|| (!t69.1)
   (bif t71 then some (false,())else(Z2 c0.2.2.2.2.2.2.2.2.2.2.2.2.2.2.2.2.2.1 (0:Int) (255:Int))).bind fun t75=>
   bif t71|| (!t75.1)then
    some (false,())
   else
    (Zsc c0.2.2.2.2.2.2.2.2.2.2.2.2.2.2.2.1 c0.2.2.2.2.2.2.2.2.2.2.2.2.2.2.1).bind fun t82=>
    (bif t82.1 then(Zpf c0.2.2.2.1)else some ((0:Int),())).bind fun t86=>
    (bif(t82.1&& (decide (t86.1<=c0.2.2.2.2.1.2.1)))then(Zpe c0.2.2.2.1)else some ((0:Int),())).bind fun t95=>
    some ((t82.1&& (decide (t86.1<=c0.2.2.2.2.1.2.1)))&& (decide (t95.1<=c0.2.2.2.2.2.1.2.2.2.1)),())
def Zwa(r0:Yj):Option (Yj×Unit):=Zi (([]:List Int).length+r0.2.2.2.1.length<=Qo)<|some ((r0.1,(r0.2.1,(r0.2.2.1,(([]:List Int)++r0.2.2.2.1,r0.2.2.2.2)))),())
def Zj0(s0:Zo):Option (Zo×Unit):=(Zwa s0.2.1).bind fun t5=>(Vu s0.2.2.1).bind fun t9=>(Vu s0.2.2.2.1).bind fun t12=>(Vu s0.2.2.2.2.1).bind fun t15=>some ((s0.1,(t5.1,(t9.1,(t12.1,(t15.1,s0.2.2.2.2.2))))),())
def Zfb(b0:Zq):Option (Zq×Unit):=Zi (([]:List Z0).length+b0.2.1.length<=Qo)<|some ((b0.1,(([]:List Z0)++b0.2.1,())),())
def W7(r0:Zr):Option (Zr×Unit):=(Zfb r0.2.1).bind fun t5=>some ((r0.1,(t5.1,r0.2.2)),())
def Zfc(s0:Zd):Option (Zd×Unit):=(Zj0 s0.2.1).bind fun t5=>(W7 s0.2.2.2.1).bind fun t8=>some ((s0.1,(t5.1,(s0.2.2.1,(t8.1,s0.2.2.2.2)))),())
abbrev Z0p:List PE:=[.val 3 (.slice 72 (Zu)) (.u true),.val 7 (.slice 72 (Zu)) (.u false),.val 8 (.int .i64) (.u false),.val 9 (.int .i64) (.u false)]
def Ky(out3:List Zd)(t7:List Zd)(t8_1:Int)(t9:Int):Nat:=(t8_1-t9).toNat+1
def Zdd:Nat->List Zd->List Zd->Int->Int->Option (List Zd×Unit)|0,_,_,_,_=>none|N+1,out3,t7,t8_1,t9=>bif decide (t9<t8_1)then Zi (0<=t9/\t9<t7.length)<|(Zfc (t7.getD t9.toNat Zh)).bind fun t15=>Zi (out3.length+ ([t15.1]).length<=Qo)<|Zdd N (out3++ ([t15.1])) t7 t8_1 (IntKind.i64.wrap (t9+1)) else some (out3,())
def Wj(l0:List Zd):Option (List Zd×Unit):=Zdd (Ky ([]:List Zd) l0 (l0.length:Int) (0:Int)) ([]:List Zd) l0 (l0.length:Int) (0:Int)
abbrev Z0o:List PE:=[.val 3 (.slice 130 (Y1)) (.u true),.val 7 (.slice 130 (Y1)) (.u false),.val 8 (.int .i64) (.u false),.val 9 (.int .i64) (.u false)]
def Zbz(out3:List Z8)(t7:List Z8)(t8_1:Int)(t9:Int):Nat:=(t8_1-t9).toNat+1
def Zdc:Nat->List Z8->List Z8->Int->Int->Option (List Z8×Unit)
 |0,_,_,_,_=>none
 |N+1,out3,t7,t8_1,t9=>
  bif decide (t9<t8_1)then
   Zi (0<=t9/\t9<t7.length)<|
   Zi (([]:List Zl).length+ (t7.getD t9.toNat Qg).2.1.length<=Qo)<|
   let t21:List Z8:=[((t7.getD t9.toNat Qg).1,(([]:List Zl)++ (t7.getD t9.toNat Qg).2.1,()))]
   Zi (out3.length+t21.length<=Qo)<|
   Zdc N (out3++t21) t7 t8_1 (IntKind.i64.wrap (t9+1))
  else
   some (out3,())
def Zql(l0:List Z8):Option (List Z8×Unit):=Zdc (Zbz ([]:List Z8) l0 (l0.length:Int) (0:Int)) ([]:List Z8) l0 (l0.length:Int) (0:Int)
def Qp(c0:Zg):Option (Zg×Unit):=(Wj c0.2.2.2.1).bind fun t5=>(Zql c0.2.2.2.2.2.2.2.2.2.2.2.2.2.2.2.1).bind fun t8=>some ((c0.1,(c0.2.1,(c0.2.2.1,(t5.1,(c0.2.2.2.2.1,(c0.2.2.2.2.2.1,(c0.2.2.2.2.2.2.1,(c0.2.2.2.2.2.2.2.1,(c0.2.2.2.2.2.2.2.2.1,(c0.2.2.2.2.2.2.2.2.2.1,(c0.2.2.2.2.2.2.2.2.2.2.1,(c0.2.2.2.2.2.2.2.2.2.2.2.1,(c0.2.2.2.2.2.2.2.2.2.2.2.2.1,(c0.2.2.2.2.2.2.2.2.2.2.2.2.2.1,(c0.2.2.2.2.2.2.2.2.2.2.2.2.2.2.1,(t8.1,c0.2.2.2.2.2.2.2.2.2.2.2.2.2.2.2.2)))))))))))))))),())
def Vt(id0:Int):Option (Bool×Unit):=(Xd id0).bind fun t4=>some (t4.1,())
def Zpb(id0:Int):Option (Bool×Unit):=(Vt id0).bind fun t4=>some (t4.1&& ((bits .and .i64 id0 (2:Int))==2),())
def Zz3(id0:Int):Option (Bool×Unit):=(Vt id0).bind fun t4=>some (t4.1&& ((bits .and .i64 id0 (1:Int))==1),())
def Zd9(server0:Bool)(id1:Int):Option (Bool×Unit):=(Vt id1).bind fun t6=>(bif t6.1 then(Zz3 id1)else some (false,())).bind fun t9=>some (t6.1&& (t9.1==server0),())
def Zcm(server0:Bool)(id1:Int):Option (Bool×Unit):=(Vt id1).bind fun t6=>(bif t6.1 then(Zpb id1)else some (false,())).bind fun t9=>(bif(!t9.1)then some (false,())else(bif t6.1 then(Zd9 server0 id1)else some (false,()))).bind fun t14=>some (t6.1&& ((!t9.1)|| (!t14.1)),())
def Zvi(s0:Zd)(t1:Int):Option (Bool×Unit):=some (s0.1==t1,())
abbrev Wx:List PE:=[.val 0 (.slice 72 (Zu)) (.u false),.val 1 (.clo 157 (.pair (.sptr 3 (.int .i64)) (.unit))) (.u false),.val 7 (.int .i64) (.u false),.val 8 (.int .i64) (.u false)]
def Qy(s0_1:List Zd)(f1_1:Int×Unit)(t7_1:Int)(t8:Int):Nat:=(t7_1-t8).toNat+1
def Z9:Nat->List Zd->(Int×Unit)->Int->Int->Option (Int×Unit)|0,_,_,_,_=>none|N+1,s0_1,f1_1,t7_1,t8=>bif decide (t8<t7_1)then Zi (0<=t8/\t8<s0_1.length)<|(Zvi (s0_1.getD t8.toNat Zh) f1_1.1).bind fun t16=>bif t16.1 then some (t8,()) else Z9 N s0_1 f1_1 t7_1 (IntKind.i64.wrap (t8+1)) else some ((-1:Int),())
def Xh(s0:List Zd)(f1:Int×Unit):Option (Int×Unit):=Z9 (Qy s0 f1 (s0.length:Int) (0:Int)) s0 f1 (s0.length:Int) (0:Int)
def Xn(l0:List Zd)(id1:Int):Option (Int×Unit):=(Xh l0 (id1,())).bind fun t7=>some (t7.1,())
def Z3(c0:Zg)(id1:Int):Option ((Bool)×(Zg×Unit)):=(Zpb id1).bind fun t6=>bif t6.1 then some (true,(c0,())) else some (false,(c0,()))
def Zdk(id0:Int):Option (Int×Unit):=(Vt id0).bind fun t4=>bif !t4.1 then some ((-1:Int),()) else Zi ((4:Int)≠0)<|some (IntKind.i64.wrap (Int.tdiv id0 (4:Int)),())
def Zby(a0:Q0)(index1:Int):Option (Q0×Int×Bool×Unit):=
 (Zl7 a0).bind fun t9=>
 (bif(!t9.1)then some (false,())else(Z2 index1 (0:Int) (IntKind.i64.wrap (a0.2.1-1)))).bind fun t16=>
 bif(!t9.1)|| (!t16.1)then
  some (a0,(0:Int),false,())
 else
  let t25:Int:=max (IntKind.i64.wrap ((IntKind.i64.wrap (index1+1))-a0.2.2.1)) (0:Int)
  some ((a0.1,(a0.2.1,(IntKind.i64.wrap (a0.2.2.1+t25),a0.2.2.2))),t25,true,())
def Zww:Option (Zr×Unit):=some (((0:Int),(((0:Int),(([]:List Z0),())),((-1:Int),((0:Int),((0:Int),()))))),())
def Zrp:Option (Xf×Unit):=some (((3:Int),(false,())),())
def Zlc(server0:Bool)(id1:Int):Option (Bool×Unit):=(Vt id1).bind fun t6=>(bif t6.1 then(Zpb id1)else some (false,())).bind fun t9=>(bif(!t9.1)then some (false,())else(bif t6.1 then(Zd9 server0 id1)else some (false,()))).bind fun t14=>some (t6.1&& ((!t9.1)||t14.1),())
def Zyu(size0:Int):Option (Yj×Bool×Unit):=(Zas size0).bind fun t5=>bif !t5.1 then some (Qsm,false,()) else Zi (0<=size0/\size0<=size0/\size0<=Qo)<|some ((size0,((0:Int),((0:Int),(List.replicate size0.toNat (0:Int),())))),true,())
def Zpc(size0:Int):Option (Zo×Bool×Unit):=(Zyu size0).bind fun t8=>bif !t8.2.1 then some (Zak,false,()) else some (((0:Int),(t8.1,(([]:List Ze),(([]:List Ze),(([]:List Ze),((-1:Int),Zon)))))),true,())
def Z2d(limit0:Int):Option (Q0×Bool×Unit):=(Xd limit0).bind fun t5=>bif !t5.1 then some (Qyr,false,()) else some ((limit0,((0:Int),((-1:Int),((-1:Int),())))),true,())
def Z2e(size0:Int)(most1:Int):Option (Qq×Bool×Unit):=(Z2 most1 (1:Int) (4096:Int)).bind fun t7=>(bif(!t7.1)then some (false,())else(Z2 size0 (1:Int) most1)).bind fun t12=>bif(!t7.1)|| (!t12.1)then some (Qlx,false,()) else some ((size0,(most1,(size0,Zon))),true,())
def Zpd(server0:Bool)(id1:Int)(own2:Zfp)(peer3:Zfp):Option (Zd×Bool×Unit):=(Vt id1).bind fun t12=>(bif(!t12.1)then some (false,())else(Zld own2)).bind fun t16=>(bif((!t12.1)|| (!t16.1))then some (false,())else(Zld peer3)).bind fun t21=>bif((!t12.1)|| (!t16.1))|| (!t21.1)then some (Zh,false,()) else Option.bind Zww fun t26=>Option.bind Zrp fun t27=>(Zlc server0 id1).bind fun t30=>(Zcm server0 id1).bind fun t33=>(Zpc own2.1).bind fun t38=>(Z2d peer3.2.1).bind fun t45=>(Z2e own2.2.1 own2.2.2.1).bind fun t54=>some ((id1,(t38.1,(t45.1,(t26.1,(t54.1,(t27.1,(t30.1,(t33.1,(false,(false,(false,(false,((0:Int),(false,())))))))))))))),true,())
def Zwx(x0:Zd)(t1:Zd):Option (Bool×Unit):=some (decide (x0.1>t1.1),())
abbrev Zab:List PE:=[.val 0 (.slice 72 (Zu)) (.u false),.val 1 (.clo 206 (.pair (.sptr 72 (Zu)) (.unit))) (.u false),.val 7 (.int .i64) (.u false),.val 8 (.int .i64) (.u false)]
def Q2(s0_1:List Zd)(f1_1:Zd×Unit)(t7_1:Int)(t8:Int):Nat:=(t7_1-t8).toNat+1
def Qa:Nat->List Zd->(Zd×Unit)->Int->Int->Option (Int×Unit)|0,_,_,_,_=>none|N+1,s0_1,f1_1,t7_1,t8=>bif decide (t8<t7_1)then Zi (0<=t8/\t8<s0_1.length)<|(Zwx (s0_1.getD t8.toNat Zh) f1_1.1).bind fun t16=>bif t16.1 then some (t8,()) else Qa N s0_1 f1_1 t7_1 (IntKind.i64.wrap (t8+1)) else some ((-1:Int),())
def Qs(s0:List Zd)(f1:Zd×Unit):Option (Int×Unit):=Qa (Q2 s0 f1 (s0.length:Int) (0:Int)) s0 f1 (s0.length:Int) (0:Int)
def Z7b(l:List (Zd))(i:Int)(v:List (Zd)):Option (((List (Zd))×Unit)×Unit):=Q3o l i v
abbrev Z5h:List PE:=[.shp 3 (Zu),.val 5 (.slice 72 (Zu)) (.u true),.val 7 (.int .i64) (.u false)]
def Zfs(s3:Zd)(out5_1:List Zd)(at7:Int):Option (List Zd×Unit):=(Zfc s3).bind fun t32=>(Z7b out5_1 at7 ([t32.1])).bind fun t34=>some (t34.1.1,())
def Zhu(l0:List Zd)(s1:Zd):Option (List Zd×Unit):=(Wj l0).bind fun t9=>(Xn l0 s1.1).bind fun t13=>bif decide (t13.1>=(0:Int))then (Zfc s1).bind fun t19=>Zi (0<=t13.1/\t13.1<t9.1.length)<|some (t9.1.set t13.1.toNat t19.1,()) else (Qs l0 (s1,())).bind fun t24=>bif decide (t24.1< (0:Int))then Zfs s1 t9.1 (l0.length:Int) else Zfs s1 t9.1 t24.1
abbrev Z0j:List PE:=[.box 0 37 (Zp) (.p (.u false) (.p (.u false) (.p (.u false) (.p (.u true) (.p (.u false) (.p (.u false) (.p (.u false) (.p (.u false) (.p (.u false) (.p (.u false) (.u true))))))))))),.val 1 (.int .i64) (.u false),.val 8 (.int .i64) (.u false),.box 9 72 (Zu) (.u true)]
def Zmw(K1: (Zg×Int×Int×Unit)->Option ((Int×Unit)×(Zg×Unit)))(c0_4:Zg)(id1_4:Int)(k8_1:Int)(s9:Zd):Option ((Int×Unit)×(Zg×Unit)):=(Zhu c0_4.2.2.2.1 s9).bind fun t89=>K1 ((c0_4.1,(c0_4.2.1,(c0_4.2.2.1,(t89.1,c0_4.2.2.2.2)))),id1_4,IntKind.i64.wrap (k8_1-1),())
abbrev Z0k:List PE:=[.box 0 37 (Zp) (.p (.u false) (.p (.u false) (.p (.u false) (.p (.u true) (.p (.u false) (.p (.u false) (.p (.u false) (.p (.u false) (.p (.u false) (.p (.u false) (.u true))))))))))),.val 1 (.int .i64) (.u false),.val 8 (.int .i64) (.u false)]
def Zgm(c0_3:Zg)(id1_3:Int)(k8:Int):Nat:=(k8-0).toNat+2
def Zal:Nat->Zg->Int->Int->Option ((Int×Unit)×(Zg×Unit))
 |0,_,_,_=>none
 |N+1,c0_3,id1_3,k8=>
  bif decide (k8>=(0:Int))then
   let t71:Int:=IntKind.i64.wrap (id1_3- (IntKind.i64.wrap ((4:Int)*k8)))
   Zo3 1 (
    (Zpd c0_3.1 t71 c0_3.2.1 c0_3.2.2.1).bind fun t80=>
    Zmw (fun v=>Zal N v.1 v.2.1 v.2.2.1) c0_3 id1_3 k8 t80.1
   )
  else
   bif decide ((c0_3.2.2.2.1.length:Int)>(24:Int))then
    some (((4:Int),()),(c0_3,()))
   else
    some (((0:Int),()),(c0_3,()))
abbrev Z0i:List PE:=[.box 0 37 (Zp) (.p (.u false) (.p (.u false) (.p (.u false) (.p (.u true) (.p (.u false) (.p (.u false) (.p (.u false) (.p (.u false) (.p (.u false) (.p (.u false) (.u true))))))))))),.val 1 (.int .i64) (.u false),.val 6 (.int .i64) (.u false)]
def Zda(c0_2:Zg)(id1_2:Int)(raised6_1:Int):Option ((Int×Unit)×(Zg×Unit)):=Zal (Zgm c0_2 id1_2 (IntKind.i64.wrap (raised6_1-1))) c0_2 id1_2 (IntKind.i64.wrap (raised6_1-1))
abbrev Z0h:List PE:=[.box 0 37 (Zp) (.u true),.val 1 (.int .i64) (.u false),.box 5 34 (Qu) (.u false),.val 6 (.int .i64) (.u false),.val 7 (.bool) (.u false)]
def Y4(c0_1:Zg)(id1_1:Int)(allow5:Q0)(raised6:Int)(ok7:Bool):Option ((Int×Unit)×(Zg×Unit)):=bif((!ok7)|| (raised6==0))|| (decide (raised6>(IntKind.i64.wrap ((24:Int)- (c0_1.2.2.2.1.length:Int)))))then some (((4:Int),()),(c0_1,())) else (Z3 c0_1 id1_1).bind fun t54=>bif t54.1 then Zda (t54.2.1.1,(t54.2.1.2.1,(t54.2.1.2.2.1,(t54.2.1.2.2.2.1,(t54.2.1.2.2.2.2.1,(t54.2.1.2.2.2.2.2.1,(t54.2.1.2.2.2.2.2.2.1,(t54.2.1.2.2.2.2.2.2.2.1,(t54.2.1.2.2.2.2.2.2.2.2.1,(allow5,t54.2.1.2.2.2.2.2.2.2.2.2.2)))))))))) id1_1 raised6 else Zda (t54.2.1.1,(t54.2.1.2.1,(t54.2.1.2.2.1,(t54.2.1.2.2.2.1,(t54.2.1.2.2.2.2.1,(t54.2.1.2.2.2.2.2.1,(t54.2.1.2.2.2.2.2.2.1,(t54.2.1.2.2.2.2.2.2.2.1,(allow5,t54.2.1.2.2.2.2.2.2.2.2.2))))))))) id1_1 raised6
def Wi(c0:Zg)(id1:Int):Option ((Int×Unit)×(Zg×Unit)):=(Xn c0.2.2.2.1 id1).bind fun t16=>bif decide (t16.1>=(0:Int))then some (((0:Int),()),(c0,())) else (Zd9 c0.1 id1).bind fun t23=>bif t23.1 then some (((5:Int),()),(c0,())) else Zwo ((Z3 c0 id1).bind fun t27=>bif t27.1 then Zwo ((Zdk id1).bind fun t31=>Zo3 1 ((Zby t27.2.1.2.2.2.2.2.2.2.2.2.1 t31.1).bind fun t32=>Y4 t27.2.1 id1 t32.1 t32.2.1 t32.2.2.1)) ((Zdk id1).bind fun t31=>(Zby t27.2.1.2.2.2.2.2.2.2.2.2.1 t31.1).bind fun t32=>Y4 t27.2.1 id1 t32.1 t32.2.1 t32.2.2.1) else Zwo ((Zdk id1).bind fun t31_1=>Zo3 1 ((Zby t27.2.1.2.2.2.2.2.2.2.2.1 t31_1.1).bind fun t32_1=>Y4 t27.2.1 id1 t32_1.1 t32_1.2.1 t32_1.2.2.1)) ((Zdk id1).bind fun t31_1=>(Zby t27.2.1.2.2.2.2.2.2.2.2.1 t31_1.1).bind fun t32_1=>Y4 t27.2.1 id1 t32_1.1 t32_1.2.1 t32_1.2.2.1)) ((Z3 c0 id1).bind fun t27=>bif t27.1 then (Zdk id1).bind fun t31=>(Zby t27.2.1.2.2.2.2.2.2.2.2.2.1 t31.1).bind fun t32=>Y4 t27.2.1 id1 t32.1 t32.2.1 t32.2.2.1 else (Zdk id1).bind fun t31_1=>(Zby t27.2.1.2.2.2.2.2.2.2.2.1 t31_1.1).bind fun t32_1=>Y4 t27.2.1 id1 t32_1.1 t32_1.2.1 t32_1.2.2.1)
def Zm8(r0:Zr)(end1:Int):Option (Int×Unit):=(Zar r0).bind fun t6=>(bif(!t6.1)then some (false,())else(Xd end1)).bind fun t10=>bif(!t6.1)|| (!t10.1)then some ((0:Int),()) else some (max (IntKind.i64.wrap (end1-r0.2.2.2.1)) (0:Int),())
def Zjd(w0:Qq):Option (Int×Unit):=(Zgo w0).bind fun t4=>bif !t4.1 then some ((0:Int),()) else some (IntKind.i64.wrap (w0.2.2.1-w0.2.2.2.1),())
def Zma(r0:Zr)(end1:Int)(fin2:Bool):Option (Bool×Unit):=some (((r0.2.2.1 !=(-1:Int))&& (decide (end1>r0.2.2.1)))|| (fin2&& (((r0.2.2.1 !=(-1:Int))&& (end1 !=r0.2.2.1))|| (decide (end1<r0.2.2.2.1)))),())
def Zt0(r0:Zr):Option (Bool×Unit):=some ((r0.1==0)|| (r0.1==1),())
def Zj8(l:List (Z0)):Option (Unit×List (Z0)):=Qsg l
abbrev Qgc:List PE:=[.val 3 (.slice 158 (Zhj)) (.u true),.val 8 (.slice 158 (Zhj)) (.u false),.val 9 (.int .i64) (.u false),.val 10 (.int .i64) (.u false)]
def Zg0(out3:List Z0)(t8:List Z0)(t9_1:Int)(t10:Int):Nat:=(t9_1-t10).toNat+1
def Zec:Nat->List Z0->List Z0->Int->Int->Option (List Z0×Unit)
 |0,_,_,_,_=>none
 |N+1,out3,t8,t9_1,t10=>
  bif decide (t10<t9_1)then
   Zi (0<=t10/\t10<t8.length)<|
   let t16:Int:=IntKind.i64.wrap ((out3.length:Int)- (1:Int))
   Zi (((decide (t16>=(0:Int)))=true->(0<=t16/\t16<out3.length)))<|
   (bif(decide (t16>=(0:Int)))then(Zb7 (out3.getD t16.toNat Qc))else some ((0:Int),())).bind fun t24=>
   bif(decide (t16>=(0:Int)))&& (t24.1==(t8.getD t10.toNat Qc).1)then
    Zi (0<=t16/\t16<out3.length)<|
    Zi ((out3.getD t16.toNat Qc).2.1.length+ (t8.getD t10.toNat Qc).2.1.length<=Zqi)<|
    Zi (0<=t16/\t16<out3.length)<|
    Zec N (out3.set t16.toNat ((out3.getD t16.toNat Qc).1,((out3.getD t16.toNat Qc).2.1++ (t8.getD t10.toNat Qc).2.1,(out3.getD t16.toNat Qc).2.2))) t8 t9_1 (IntKind.i64.wrap (t10+1))
   else
    Zi (out3.length+ ([(t8.getD t10.toNat Qc)]).length<=Qo)<|
    Zec N (out3++ ([(t8.getD t10.toNat Qc)])) t8 t9_1 (IntKind.i64.wrap (t10+1))
  else
   some (out3,())
def Zoq(list0:List Z0):Option (List Z0×Unit):=Zec (Zg0 ([]:List Z0) list0 (list0.length:Int) (0:Int)) ([]:List Z0) list0 (list0.length:Int) (0:Int)
abbrev Z2b:List PE:=[.box 3 58 (Qw) (.u false),.box 4 3 (.int .i64) (.u false),.box 5 9 (.str) (.u false),.box 6 58 (Qw) (.u true),.box 7 3 (.int .i64) (.u false),.box 8 3 (.int .i64) (.u false),.box 9 56 (.slice 158 (Zhj)) (.u true),.clo 10 161 [7,8,9,5,4],.val 53 (.slice 158 (Zhj)) (.u false),.val 54 (.int .i64) (.u false),.val 55 (.int .i64) (.u false)]
def Zhq(b3_1:Zq)(offset4_1:Int)(data5_1:List UInt8)(t6_1:Zq)(from7_1:Int)(end8_1:Int)(list9_1:List Z0)(t53:List Z0)(t54_1:Int)(t55:Int):Nat:=(t54_1-t55).toNat+1
def Zbp:Nat->Zq->Int->List UInt8->Zq->Int->Int->List Z0->List Z0->Int->Int->Option (Zq×Unit)
 |0,_,_,_,_,_,_,_,_,_,_=>none
 |N+1,b3_1,offset4_1,data5_1,t6_1,from7_1,end8_1,list9_1,t53,t54_1,t55=>
  bif decide (t55<t54_1)then
   Zi (0<=t55/\t55<t53.length)<|
   bif decide (from7_1< (min (t53.getD t55.toNat Qc).1 end8_1))then
    let t22_1:Int:=IntKind.i64.wrap ((min (t53.getD t55.toNat Qc).1 end8_1)-offset4_1)
    Zi (0<=(IntKind.i64.wrap (from7_1-offset4_1))/\(IntKind.i64.wrap (from7_1-offset4_1))<=t22_1/\t22_1<=data5_1.length)<|
    let t25:List Z0:=[(from7_1,((data5_1.drop (IntKind.i64.wrap (from7_1-offset4_1)).toNat).take (t22_1.toNat- (IntKind.i64.wrap (from7_1-offset4_1)).toNat),()))]
    Zi (list9_1.length+t25.length<=Qo)<|
    Zi ((list9_1++t25).length+ ([(t53.getD t55.toNat Qc)]).length<=Qo)<|
    (Zb7 (t53.getD t55.toNat Qc)).bind fun t69=>
    Zbp N b3_1 offset4_1 data5_1 t6_1 (max from7_1 t69.1) end8_1 ((list9_1++t25)++ ([(t53.getD t55.toNat Qc)])) t53 t54_1 (IntKind.i64.wrap (t55+1))
   else
    Zi (list9_1.length+ ([(t53.getD t55.toNat Qc)]).length<=Qo)<|
    (Zb7 (t53.getD t55.toNat Qc)).bind fun t69_1=>
    Zbp N b3_1 offset4_1 data5_1 t6_1 (max from7_1 t69_1.1) end8_1 (list9_1++ ([(t53.getD t55.toNat Qc)])) t53 t54_1 (IntKind.i64.wrap (t55+1))
  else
   bif decide (from7_1< (min end8_1 end8_1))then
    let t22_2:Int:=IntKind.i64.wrap ((min end8_1 end8_1)-offset4_1)
    Zi (0<=(IntKind.i64.wrap (from7_1-offset4_1))/\(IntKind.i64.wrap (from7_1-offset4_1))<=t22_2/\t22_2<=data5_1.length)<|
    let t25_1:List Z0:=[(from7_1,((data5_1.drop (IntKind.i64.wrap (from7_1-offset4_1)).toNat).take (t22_2.toNat- (IntKind.i64.wrap (from7_1-offset4_1)).toNat),()))]
    Zi (list9_1.length+t25_1.length<=Qo)<|
    (Zj8 (list9_1++t25_1)).bind fun t76=>
    (Zoq t76.2).bind fun t80=>
    some ((b3_1.1,(t80.1,())),())
   else
    (Zj8 list9_1).bind fun t76_1=>
    (Zoq t76_1.2).bind fun t80_1=>
    some ((b3_1.1,(t80_1.1,())),())
abbrev Z2a:List PE:=[.box 3 58 (Qw) (.u false),.box 4 3 (.int .i64) (.u false),.box 5 9 (.str) (.u false),.box 6 58 (Qw) (.u true),.box 7 3 (.int .i64) (.u false),.box 8 3 (.int .i64) (.u false)]
def Zn8(b3:Zq)(offset4:Int)(data5:List UInt8)(t6:Zq)(from7:Int)(end8:Int):Option (Zq×Unit):=Zbp (Zhq b3 offset4 data5 t6 from7 end8 ([]:List Z0) b3.2.1 (b3.2.1.length:Int) (0:Int)) b3 offset4 data5 t6 from7 end8 ([]:List Z0) b3.2.1 (b3.2.1.length:Int) (0:Int)
def Znm(b0:Zq)(offset1:Int)(data2:List UInt8):Option (Zq×Unit):=
 (Zgn b0).bind fun t14=>
 bif((((!t14.1)|| (data2==([]:List UInt8)))|| (decide (offset1< (0:Int))))|| (decide (offset1>(IntKind.i64.wrap ((4611686018427387903:Int)- (data2.length:Int))))))|| (decide ((IntKind.i64.wrap (offset1+ (data2.length:Int)))<=b0.1))then
  (Zfb b0).bind fun t41=>
  some (t41.1,())
 else
  let t49:Int:=IntKind.i64.wrap (offset1+ (data2.length:Int))
  Zo3 1 (
   Zn8 b0 offset1 data2 ((0:Int),(([]:List Z0),())) (max offset1 b0.1) t49
  )
abbrev Z0m:List PE:=[.box 8 60 (Z7) (.u true),.box 10 60 (Z7) (.p (.u false) (.p (.u true) (.u false)))]
def Zmx(t8_1:Zr)(out10_1:Zr):Option (Zr×Int×Unit):=some (out10_1,(0:Int),())
abbrev Z0l:List PE:=[.val 1 (.int .i64) (.u false),.val 2 (.str) (.u false),.box 4 60 (Z7) (.u false),.box 8 60 (Z7) (.u true),.box 10 60 (Z7) (.p (.u false) (.p (.u true) (.u false)))]
def Zdb(offset1_1:Int)(data2_1:List UInt8)(r4:Zr)(t8:Zr)(out10:Zr):Option (Zr×Int×Unit):=(Znm r4.2.1 offset1_1 data2_1).bind fun t55=>(bif(out10.2.2.1 !=(-1:Int))then(Zm9 t55.1)else some ((0:Int),())).bind fun t63=>bif(out10.2.2.1 !=(-1:Int))&& (t63.1==out10.2.2.1)then Zmx t8 ((2:Int),(t55.1,out10.2.2)) else Zmx t8 (out10.1,(t55.1,out10.2.2))
def Zl8(r0:Zr)(offset1:Int)(data2:List UInt8)(fin3:Bool):Option (Zr×Int×Unit):=
 (W7 r0).bind fun t13=>
 (Zar r0).bind fun t15=>
 bif((!t15.1)|| (decide (offset1< (0:Int))))|| (decide (offset1>(IntKind.i64.wrap ((4611686018427387903:Int)- (data2.length:Int)))))then
  some (t13.1,(7:Int),())
 else
  let t32:Int:=IntKind.i64.wrap (offset1+ (data2.length:Int))
  (Zma r0 t32 fin3).bind fun t36=>
  bif t36.1 then
   some (t13.1,(6:Int),())
  else
   (Zt0 r0).bind fun t39=>
   bif !t39.1 then
    some (t13.1,(0:Int),())
   else
    bif fin3 then
     Zdb offset1 data2 r0 Zmt ((1:Int),(t13.1.2.1,(t32,(max r0.2.2.2.1 t32,t13.1.2.2.2.2))))
    else
     Zdb offset1 data2 r0 Zmt (t13.1.1,(t13.1.2.1,(t13.1.2.2.1,(max r0.2.2.2.1 t32,t13.1.2.2.2.2))))
def Zgp(w0:Qq)(n1:Int):Option (Qq×Bool×Unit):=(Zgo w0).bind fun t7=>(bif(!t7.1)then some (false,())else(Z2 n1 (0:Int) (IntKind.i64.wrap (w0.2.2.1-w0.2.2.2.1)))).bind fun t16=>bif(!t7.1)|| (!t16.1)then some (w0,false,()) else some ((w0.1,(w0.2.1,(w0.2.2.1,(IntKind.i64.wrap (w0.2.2.2.1+n1),w0.2.2.2.2)))),true,())
def Zsb(s0:Zd):Option (Bool×Unit):=some (((!s0.2.2.2.2.2.2.1)|| (s0.2.1.1==3))|| (s0.2.1.1==5),())
def Zsa(r0:Zr):Option (Bool×Unit):=(Zar r0).bind fun t4=>some (t4.1&& ((r0.1==3)|| (r0.1==5)),())
def Znn(s0:Zd):Option (Bool×Unit):=(bif(!s0.2.2.2.2.2.2.2.1)then some (false,())else(Zsa s0.2.2.2.1)).bind fun t9=>some ((!s0.2.2.2.2.2.2.2.1)||t9.1,())
def Zfr(s0:Zd):Option (Bool×Unit):=(Zm7 s0).bind fun t4=>(bif t4.1 then(Zsb s0)else some (false,())).bind fun t7=>(bif(t4.1&&t7.1)then(Znn s0)else some (false,())).bind fun t11=>some ((t4.1&&t7.1)&&t11.1,())
def Qj(a0:Q0):Option (Q0×Bool×Unit):=(Zl7 a0).bind fun t5=>bif(!t5.1)|| (a0.2.2.2.1==a0.2.2.1)then some (a0,false,()) else some ((a0.1,(a0.2.1,(a0.2.2.1,(IntKind.i64.wrap (a0.2.2.2.1+1),a0.2.2.2.2)))),true,())
def Zjw(c0:Zg)(f1:Zl):Option (Zg×Int×Unit):=
 (Zaq c0).bind fun t13=>
 (bif(!t13.1)then some (false,())else(Zdl f1)).bind fun t17=>
 bif((!t13.1)|| (!t17.1))|| (!(f1.1==8))then
  (Qp c0).bind fun t25=>
  some (t25.1,(7:Int),())
 else
  (Qp c0).bind fun t27=>
  (Zcm t27.1.1 f1.2.1).bind fun t13_1=>
  bif !t13_1.1 then
   (Qp c0).bind fun t33=>
   some (t33.1,(5:Int),())
  else
   (Wi t27.1 f1.2.1).bind fun t17_1=>
   bif t17_1.1.1 !=0 then
    bif t17_1.1.1 !=0 then
     (Qp c0).bind fun t33_1=>
     some (t33_1.1,t17_1.1.1,())
    else
     some (t17_1.2.1,(0:Int),())
   else
    (Xn t17_1.2.1.2.2.2.1 f1.2.1).bind fun t14_3=>
    Zi (0<=t14_3.1/\t14_3.1<t17_1.2.1.2.2.2.1.length)<|
    (Zm8 (t17_1.2.1.2.2.2.1.getD t14_3.1.toNat Zh).2.2.2.1 (IntKind.i64.wrap (f1.2.2.1+ (f1.2.2.2.1.length:Int)))).bind fun t14_4=>
    (Zjd (t17_1.2.1.2.2.2.1.getD t14_3.1.toNat Zh).2.2.2.2.1).bind fun t20=>
    (bif(decide (t14_4.1>t20.1))then some ((0:Int),())else(Zjd t17_1.2.1.2.2.2.2.2.1)).bind fun t28_1=>
    bif(decide (t14_4.1>t20.1))|| (decide (t14_4.1>t28_1.1))then
     (Qp c0).bind fun t33_2=>
     some (t33_2.1,(3:Int),())
    else
     Zo3 1 (
      (Zl8 (t17_1.2.1.2.2.2.1.getD t14_3.1.toNat Zh).2.2.2.1 f1.2.2.1 f1.2.2.2.1 f1.2.2.2.2.1).bind fun t46=>
      bif t46.2.1 !=0 then
       bif t46.2.1 !=0 then
        (Qp c0).bind fun t33_3=>
        some (t33_3.1,t46.2.1,())
       else
        some (t17_1.2.1,(0:Int),())
      else
       (Zgp (t17_1.2.1.2.2.2.1.getD t14_3.1.toNat Zh).2.2.2.2.1 t14_4.1).bind fun t13_2=>
       let out10:List Zd:=t17_1.2.1.2.2.2.1.set t14_3.1.toNat ((t17_1.2.1.2.2.2.1.getD t14_3.1.toNat Zh).1,((t17_1.2.1.2.2.2.1.getD t14_3.1.toNat Zh).2.1,((t17_1.2.1.2.2.2.1.getD t14_3.1.toNat Zh).2.2.1,((t17_1.2.1.2.2.2.1.getD t14_3.1.toNat Zh).2.2.2.1,(t13_2.1,(t17_1.2.1.2.2.2.1.getD t14_3.1.toNat Zh).2.2.2.2.2)))))
       (Zgp t17_1.2.1.2.2.2.2.2.1 t14_4.1).bind fun t25_1=>
       let out10_1:List Zd:=out10.set t14_3.1.toNat ((out10.getD t14_3.1.toNat Zh).1,((out10.getD t14_3.1.toNat Zh).2.1,((out10.getD t14_3.1.toNat Zh).2.2.1,(t46.1,(out10.getD t14_3.1.toNat Zh).2.2.2.2))))
       (Xn out10_1 f1.2.1).bind fun t14_5=>
       Zi (0<=t14_5.1/\t14_5.1<out10_1.length)<|
       (Zd9 t17_1.2.1.1 f1.2.1).bind fun t13_3=>
       let t19_2:Bool:=t13_3.1|| (out10_1.getD t14_5.1.toNat Zh).2.2.2.2.2.2.2.2.2.2.2.2.2.1
       (bif t19_2 then some (false,())else(Zfr (out10_1.getD t14_5.1.toNat Zh))).bind fun t24=>
       bif t19_2|| (!t24.1)then
        some ((t17_1.2.1.1,(t17_1.2.1.2.1,(t17_1.2.1.2.2.1,(out10_1,(t17_1.2.1.2.2.2.2.1,(t25_1.1,t17_1.2.1.2.2.2.2.2.2)))))),(0:Int),())
       else
        let out10_2:List Zd:=out10_1.set t14_5.1.toNat ((out10_1.getD t14_5.1.toNat Zh).1,((out10_1.getD t14_5.1.toNat Zh).2.1,((out10_1.getD t14_5.1.toNat Zh).2.2.1,((out10_1.getD t14_5.1.toNat Zh).2.2.2.1,((out10_1.getD t14_5.1.toNat Zh).2.2.2.2.1,((out10_1.getD t14_5.1.toNat Zh).2.2.2.2.2.1,((out10_1.getD t14_5.1.toNat Zh).2.2.2.2.2.2.1,((out10_1.getD t14_5.1.toNat Zh).2.2.2.2.2.2.2.1,((out10_1.getD t14_5.1.toNat Zh).2.2.2.2.2.2.2.2.1,((out10_1.getD t14_5.1.toNat Zh).2.2.2.2.2.2.2.2.2.1,((out10_1.getD t14_5.1.toNat Zh).2.2.2.2.2.2.2.2.2.2.1,((out10_1.getD t14_5.1.toNat Zh).2.2.2.2.2.2.2.2.2.2.2.1,((out10_1.getD t14_5.1.toNat Zh).2.2.2.2.2.2.2.2.2.2.2.2.1,(true,(out10_1.getD t14_5.1.toNat Zh).2.2.2.2.2.2.2.2.2.2.2.2.2.2))))))))))))))
        Option.bind (Z3 (t17_1.2.1.1,(t17_1.2.1.2.1,(t17_1.2.1.2.2.1,(out10_2,(t17_1.2.1.2.2.2.2.1,(t25_1.1,t17_1.2.1.2.2.2.2.2.2)))))) f1.2.1) fun t33_4=>
        bif t33_4.1 then
         (Z3 t33_4.2.1 f1.2.1).bind fun t36=>
         bif t36.1 then
          (Qj t36.2.1.2.2.2.2.2.2.2.2.2.1).bind fun t39=>
          let t10_1:Zg:=(t36.2.1.1,(t36.2.1.2.1,(t36.2.1.2.2.1,(t36.2.1.2.2.2.1,(t36.2.1.2.2.2.2.1,(t36.2.1.2.2.2.2.2.1,(t36.2.1.2.2.2.2.2.2.1,(t36.2.1.2.2.2.2.2.2.2.1,(t36.2.1.2.2.2.2.2.2.2.2.1,(t39.1,t36.2.1.2.2.2.2.2.2.2.2.2.2))))))))))
          some (t10_1,(0:Int),())
         else
          (Qj t36.2.1.2.2.2.2.2.2.2.2.1).bind fun t39_1=>
          let t10_2:Zg:=(t36.2.1.1,(t36.2.1.2.1,(t36.2.1.2.2.1,(t36.2.1.2.2.2.1,(t36.2.1.2.2.2.2.1,(t36.2.1.2.2.2.2.2.1,(t36.2.1.2.2.2.2.2.2.1,(t36.2.1.2.2.2.2.2.2.2.1,(t36.2.1.2.2.2.2.2.2.2.2.1,(t39_1.1,t36.2.1.2.2.2.2.2.2.2.2.2.2))))))))))
          some (t10_2,(0:Int),())
        else
         (Z3 t33_4.2.1 f1.2.1).bind fun t36_1=>
         bif t36_1.1 then
          (Qj t36_1.2.1.2.2.2.2.2.2.2.2.2.1).bind fun t39_2=>
          let t10_3:Zg:=(t36_1.2.1.1,(t36_1.2.1.2.1,(t36_1.2.1.2.2.1,(t36_1.2.1.2.2.2.1,(t36_1.2.1.2.2.2.2.1,(t36_1.2.1.2.2.2.2.2.1,(t36_1.2.1.2.2.2.2.2.2.1,(t36_1.2.1.2.2.2.2.2.2.2.1,(t39_2.1,t36_1.2.1.2.2.2.2.2.2.2.2.2)))))))))
          some (t10_3,(0:Int),())
         else
          (Qj t36_1.2.1.2.2.2.2.2.2.2.2.1).bind fun t39_3=>
          let t10_4:Zg:=(t36_1.2.1.1,(t36_1.2.1.2.1,(t36_1.2.1.2.2.1,(t36_1.2.1.2.2.2.1,(t36_1.2.1.2.2.2.2.1,(t36_1.2.1.2.2.2.2.2.1,(t36_1.2.1.2.2.2.2.2.2.1,(t36_1.2.1.2.2.2.2.2.2.2.1,(t39_3.1,t36_1.2.1.2.2.2.2.2.2.2.2.2)))))))))
          some (t10_4,(0:Int),())
     )
def Zf4(code0:List Int):Option ((Zg×Zl×Unit)×(Unit)):=(Zjo code0 (4:Int)).bind fun t8=>some ((t8.1.1,(t8.1.2.1,())),())
def Zkw(r0:Zr)(code1:Int)(final2:Int):Option (Zr×Int×Unit):=(W7 r0).bind fun t10=>(Zar r0).bind fun t12=>(bif(!t12.1)then some (false,())else(Xd code1)).bind fun t16=>(bif((!t12.1)|| (!t16.1))then some (false,())else(Xd final2)).bind fun t21=>bif((!t12.1)|| (!t16.1))|| (!t21.1)then some (t10.1,(7:Int),()) else (Zma r0 final2 true).bind fun t27=>bif t27.1 then some (t10.1,(6:Int),()) else (Zt0 r0).bind fun t30=>bif !t30.1 then some (t10.1,(0:Int),()) else some (((4:Int),((t10.1.2.1.1,(([]:List Z0),t10.1.2.1.2.2)),(final2,(final2,(code1,t10.1.2.2.2.2.2))))),(0:Int),())
def Zea(w0:Qq)(n1:Int):Option (Qq×Bool×Unit):=(Zgo w0).bind fun t7=>(bif(!t7.1)then some (false,())else(Z2 n1 (0:Int) (IntKind.i64.wrap (w0.2.2.2.1-w0.2.2.2.2.1)))).bind fun t16=>bif(!t7.1)|| (!t16.1)then some (w0,false,()) else some ((w0.1,(w0.2.1,(w0.2.2.1,(w0.2.2.2.1,(IntKind.i64.wrap (w0.2.2.2.2.1+n1),w0.2.2.2.2.2))))),true,())
end Go.Proofs.YtmlpcjbkbnkajaaGreat

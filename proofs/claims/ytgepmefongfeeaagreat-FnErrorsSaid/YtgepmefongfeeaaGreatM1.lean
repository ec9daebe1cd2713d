/- FnErrors: what the functions that it reaches compute, as plain functions, part 1. No condition. -/
import Derived.Test.YtgepmefongfeeaaGreatRows
import Derived.Test.YtgepmefongfeeaaGreatAm6
import Derived.Test.YtgepmefongfeeaaGreatShelf
import Derived.Lib.AppendIntMem
import Derived.Lib.SplitLaws
import Derived.Lib.IndexMore
import Derived.Lib.Atoi
import Derived.Lib.AtoiBound
import Derived.Lib.Join
import Derived.Lib.ItoaNum
import Derived.Lib.ItoaLen
noncomputable section
namespace Go.Proofs.YtgepmefongfeeaaGreat
open Go.Am
set_option maxRecDepth 100000
set_option linter.unusedVariables false
abbrev Y5:Ty:= .pair (.int .i64) (.pair (.bool) (.unit))
abbrev Xl:Type:=Int×Bool×Unit
abbrev Zig:Ty:= .pair (.int .i64) (.pair (.str) (.unit))
abbrev Z1:Type:=Int×List UInt8×Unit
def Qf:Z1:=((0:Int),(([]:List UInt8),()))
abbrev Zx:Ty:= .pair (.int .i64) (.pair (.int .i64) (.unit))
abbrev Zh:Type:=Int×Int×Unit
def Zz:Zh:=((0:Int),((0:Int),()))
abbrev Zdg:Ty:= .pair (.int .i64) (Zx)
abbrev Zdh:Type:=Int×Zh
def Zpw:Zdh:=((0:Int),((0:Int),((0:Int),())))
abbrev Zcr:Ty:= .pair (.int .i64) (.pair (.str) (.pair (.bool) (.unit)))
abbrev Ja:Type:=Int×List UInt8×Bool×Unit
def Zrn:Ja:=((0:Int),(([]:List UInt8),(false,())))
abbrev V0:Ty:= .pair (.slice 5 (.int .u8)) (Zx)
abbrev Qb:Type:=List Int×Zh
abbrev Q1:Ty:= .pair (.int .i64) (Zdg)
abbrev Q8:Type:=Int×Zdh
def Q1s:Q8:=((0:Int),((0:Int),((0:Int),((0:Int),()))))
abbrev Xk:Ty:= .pair (.int .i64) (.pair (Y5) (.unit))
abbrev Z0:Type:=Int×Xl×Unit
def Js:Z0:=((0:Int),(((0:Int),(false,())),()))
abbrev Q2:Ty:= .pair (.int .i64) (.pair (.slice 183 (Zig)) (.unit))
abbrev Zs:Type:=Int×List Z1×Unit
def Qoo:Zs:=((0:Int),(([]:List Z1),()))
abbrev Vx:Ty:= .pair (.int .i64) (.pair (.int .i64) (.pair (.int .i64) (.pair (.slice 3 (.int .i64)) (.unit))))
abbrev Yv:Type:=Int×Int×Int×List Int×Unit
def Qvg:Yv:=((0:Int),((0:Int),((0:Int),(([]:List Int),()))))
abbrev Yo:Ty:= .pair (.int .i64) (.pair (.int .i64) (Q1))
abbrev Qw:Type:=Int×Int×Q8
def Qop:Qw:=((0:Int),((0:Int),((0:Int),((0:Int),((0:Int),((0:Int),()))))))
abbrev Zlp:Ty:= .pair (.int .i64) (.pair (.int .i64) (Yo))
abbrev Zgp:Type:=Int×Int×Qw
abbrev Zq:Ty:= .pair (.int .i64) (.pair (.int .i64) (.pair (.int .i64) (.pair (.str) (.pair (.bool) (.pair (.int .i64) (.pair (.int .i64) (Y5)))))))
abbrev Zi:Type:=Int×Int×Int×List UInt8×Bool×Int×Int×Xl
def Qr:Zi:=((0:Int),((0:Int),((0:Int),(([]:List UInt8),(false,((0:Int),((0:Int),((0:Int),(false,())))))))))
abbrev Z8:Ty:= .pair (.int .i64) (.pair (Q2) (Zdg))
abbrev Zu:Type:=Int×Zs×Zdh
def Znu:Zu:=((0:Int),(((0:Int),(([]:List Z1),())),((0:Int),((0:Int),((0:Int),())))))
abbrev Y9:Ty:= .pair (.int .i64) (.pair (.slice 50 (Zq)) (.unit))
abbrev Z9:Type:=Int×List Zi×Unit
def Qk:Z9:=((0:Int),(([]:List Zi),()))
abbrev Z6:Ty:= .pair (.int .i64) (.pair (Vx) (.pair (.slice 222 (Zx)) (.pair (.slice 222 (Zx)) (.pair (.slice 222 (Zx)) (Q1)))))
abbrev Zp:Type:=Int×Yv×List Zh×List Zh×List Zh×Q8
def Za1:Zp:=((0:Int),(((0:Int),((0:Int),((0:Int),(([]:List Int),())))),(([]:List Zh),(([]:List Zh),(([]:List Zh),((0:Int),((0:Int),((0:Int),((0:Int),())))))))))
abbrev Zw:Ty:= .pair (.int .i64) (.pair (Z6) (.pair (Q1) (.pair (Z8) (.pair (Yo) (.pair (Y5) (.pair (.bool) (.pair (.bool) (.pair (.bool) (.pair (.bool) (.pair (.bool) (.pair (.bool) (Y5))))))))))))
abbrev Zd:Type:=Int×Zp×Q8×Zu×Qw×Xl×Bool×Bool×Bool×Bool×Bool×Bool×Xl
def Zj:Zd:=((0:Int),(((0:Int),(((0:Int),((0:Int),((0:Int),(([]:List Int),())))),(([]:List Zh),(([]:List Zh),(([]:List Zh),((0:Int),((0:Int),((0:Int),((0:Int),()))))))))),(((0:Int),((0:Int),((0:Int),((0:Int),())))),(((0:Int),(((0:Int),(([]:List Z1),())),((0:Int),((0:Int),((0:Int),()))))),(((0:Int),((0:Int),((0:Int),((0:Int),((0:Int),((0:Int),())))))),(((0:Int),(false,())),(false,(false,(false,(false,(false,(false,((0:Int),(false,()))))))))))))))
abbrev Zo:Ty:= .pair (.bool) (.pair (Zlp) (.pair (Zlp) (.pair (.slice 67 (Zw)) (.pair (Q1) (.pair (Yo) (.pair (Zdg) (.pair (Zdg) (.pair (Q1) (.pair (Q1) (.pair (.bool) (.pair (.bool) (.pair (.bool) (.pair (.int .i64) (.pair (.int .i64) (.pair (.slice 88 (Y9)) (Zx))))))))))))))))
abbrev Zf:Type:=Bool×Zgp×Zgp×List Zd×Q8×Qw×Zdh×Zdh×Q8×Q8×Bool×Bool×Bool×Int×Int×List Z9×Zh
def Vg:Zf:=(false,(((0:Int),((0:Int),((0:Int),((0:Int),((0:Int),((0:Int),((0:Int),((0:Int),())))))))),(((0:Int),((0:Int),((0:Int),((0:Int),((0:Int),((0:Int),((0:Int),((0:Int),())))))))),(([]:List Zd),(((0:Int),((0:Int),((0:Int),((0:Int),())))),(((0:Int),((0:Int),((0:Int),((0:Int),((0:Int),((0:Int),())))))),(((0:Int),((0:Int),((0:Int),()))),(((0:Int),((0:Int),((0:Int),()))),(((0:Int),((0:Int),((0:Int),((0:Int),())))),(((0:Int),((0:Int),((0:Int),((0:Int),())))),(false,(false,(false,((0:Int),((0:Int),(([]:List Z9),((0:Int),((0:Int),()))))))))))))))))))
def Qq9(a:List Int):Option (Bool×Unit):=some (decide ((a.length:Int)>(1048576:Int)),())
abbrev Qn3:List PE:=[.val 0 (.slice 5 (.int .u8)) (.u false),.val 3 (.int .i64) (.u false),.val 4 (.int .i64) (.u false)]
def Zpu(a:List Int)(c b:Int):Nat:=((a.length:Int)-b).toNat+1
def Zop:Nat->List Int->Int->Int->Option ((Qb)×(Unit))|0,_,_,_=>none|N+1,b,c,a=>bif(decide (a< (b.length:Int)))&& (decide (a< (4000:Int)))then Ze (0<=a/\a<b.length)<|Zop N b (bits .and .i64 (IntKind.i64.wrap ((IntKind.i64.wrap ((IntKind.i64.wrap (c*131))+ (IntKind.i64.wrap (b.getD a.toNat (0:Int)))))+7)) (1073741823:Int)) (IntKind.i64.wrap (a+1)) else some ((b,((0:Int),(c,()))),())
def Zpt(a:List Int):Option ((Qb)×(Unit)):=
 let b:Int:=IntKind.i64.wrap ((10101:Int)+ (a.length:Int))
 Zop (Zpu a b (0:Int)) a b (0:Int)
def Vf(a:Qb):Option ((Int×Unit)×(Qb×Unit)):=
 let b:Int:=IntKind.i64.wrap ((IntKind.i64.wrap (a.2.2.1*6364136223846793005))+1442695040888963407)
 Ze (0<=(33:Int))<|
 Ze (0<=(45:Int))<|
 let c:Int:=bits .and .i64 (bits .xor .i64 (b.fdiv (2^ (min (33:Int).toNat IntKind.i64.bits))) (b.fdiv (2^ (min (45:Int).toNat IntKind.i64.bits)))) (255:Int)
 bif decide (a.2.1< (a.1.length:Int))then
  Ze (0<=a.2.1/\a.2.1<a.1.length)<|
  some ((bits .and .i64 (IntKind.i64.wrap (c+ (IntKind.i64.wrap (a.1.getD a.2.1.toNat (0:Int))))) (255:Int),()),((a.1,(IntKind.i64.wrap (a.2.1+1),(b,a.2.2.2))),()))
 else
  some ((c,()),((a.1,(a.2.1,(b,a.2.2.2))),()))
def Z7(b:Qb)(a:Int):Option ((Int×Unit)×(Qb×Unit)):=bif decide (a<=(0:Int))then some (((0:Int),()),(b,())) else bif decide (a<=(256:Int))then (Vf b).bind fun c=>Ze (a≠0)<|some ((Int.tmod c.1.1 a,()),(c.2.1,())) else (Vf b).bind fun d=>(Vf d.2.1).bind fun e=>(Vf e.2.1).bind fun f=>(Vf f.2.1).bind fun g=>Ze (a≠0)<|some ((Int.tmod (IntKind.i64.wrap ((IntKind.i64.wrap ((IntKind.i64.wrap ((IntKind.i64.wrap (d.1.1*16777216))+ (IntKind.i64.wrap (e.1.1*65536))))+ (IntKind.i64.wrap (f.1.1*256))))+g.1.1)) a,()),(g.2.1,()))
def Zag(b:Qb)(c:Int):Option ((Bool×Unit)×(Qb×Unit)):=(Z7 b c).bind fun a=>some ((a.1.1==0,()),(a.2.1,()))
def Zr9:Option (Zgp×Unit):=some (((16:Int),((8:Int),((32:Int),((16:Int),((64:Int),((2:Int),((2:Int),((4:Int),())))))))),())
def Znm(c:Qb):Option ((Zgp×Unit)×(Qb×Unit)):=Option.bind Zr9 fun a=>(Z7 c (3:Int)).bind fun b=>bif b.1.1==0 then some ((((8:Int),((4:Int),(a.1.2.2.1,((6:Int),(a.1.2.2.2.2.1,((1:Int),a.1.2.2.2.2.2.2)))))),()),(b.2.1,())) else bif b.1.1==1 then some (((a.1.1,(a.1.2.1,(a.1.2.2.1,(a.1.2.2.2.1,(a.1.2.2.2.2.1,((3:Int),((1:Int),((2:Int),a.1.2.2.2.2.2.2.2.2)))))))),()),(b.2.1,())) else some ((a.1,()),(b.2.1,()))
def Vs(a:Int):Option (Bool×Unit):=some (((decide (a>(0:Int)))&& (decide (a<=(64:Int))))&& ((bits .and .i64 a (IntKind.i64.wrap (a-1)))==0),())
def Z5(a b c:Int):Option (Bool×Unit):=some ((decide (a>=b))&& (decide (a<=c)),())
def Vz(a:Zgp):Option (Bool×Unit):=
 (Vs a.1).bind fun b=>
 (bif b.1 then(Z5 a.2.2.1 (1:Int) (4096:Int))else some (false,())).bind fun d=>
 (bif(b.1&&d.1)then(Z5 a.2.1 (1:Int) a.2.2.1)else some (false,())).bind fun f=>
 (bif((b.1&&d.1)&&f.1)then(Z5 a.2.2.2.2.1 (1:Int) (4096:Int))else some (false,())).bind fun i=>
 let c:Bool:=((b.1&&d.1)&&f.1)&&i.1
 (bif c then(Z5 a.2.2.2.1 (1:Int) a.2.2.2.2.1)else some (false,())).bind fun e=>
 (bif(c&&e.1)then(Z5 a.2.2.2.2.2.1 (0:Int) (1000:Int))else some (false,())).bind fun g=>
 (bif((c&&e.1)&&g.1)then(Z5 a.2.2.2.2.2.2.1 (0:Int) (1000:Int))else some (false,())).bind fun j=>
 let h:Bool:=((c&&e.1)&&g.1)&&j.1
 (bif h then(Z5 a.2.2.2.2.2.2.2.1 (1:Int) (1000:Int))else some (false,())).bind fun k=>
 some (h&&k.1,())
def Qj(a:Int):Option (Bool×Unit):=(Z5 a (0:Int) (4611686018427387903:Int)).bind fun b=>some (b.1,())
def Zc0(a:Int):Option (Q8×Bool×Unit):=(Qj a).bind fun b=>bif !b.1 then some (Q1s,false,()) else some ((a,((0:Int),((-1:Int),((-1:Int),())))),true,())
def Zc2(a b:Int):Option (Qw×Bool×Unit):=(Z5 b (1:Int) (4096:Int)).bind fun c=>(bif(!c.1)then some (false,())else(Z5 a (1:Int) b)).bind fun d=>bif(!c.1)|| (!d.1)then some (Qop,false,()) else some ((a,(b,(a,Zpw))),true,())
def Zss(a:Int):Option (Zdh×Bool×Unit):=(Z5 a (0:Int) (1152921504606846976:Int)).bind fun b=>bif !b.1 then some (Zpw,false,()) else some ((a,((0:Int),((-1:Int),()))),true,())
def Zsr(a:Int):Option (Q8×Bool×Unit):=(Z5 a (0:Int) (1000:Int)).bind fun b=>bif !b.1 then some (Q1s,false,()) else some ((a,(a,((0:Int),((0:Int),())))),true,())
def Znj(d:Bool)(a b:Zgp):Option (Zf×Bool×Unit):=(Vz a).bind fun c=>(bif(!c.1)then some (false,())else(Vz b)).bind fun e=>bif(!c.1)|| (!e.1)then some (Vg,false,()) else (Zc0 b.2.2.2.1).bind fun f=>(Zc2 a.2.2.2.1 a.2.2.2.2.1).bind fun g=>(Zss b.2.2.2.2.2.1).bind fun h=>(Zss b.2.2.2.2.2.2.1).bind fun i=>(Zsr a.2.2.2.2.2.1).bind fun j=>(Zsr a.2.2.2.2.2.2.1).bind fun k=>some ((d,(a,(b,(([]:List Zd),(f.1,(g.1,(h.1,(i.1,(j.1,(k.1,(false,(false,(false,((-1:Int),((0:Int),(([]:List Z9),((0:Int),((0:Int),())))))))))))))))))),true,())
def Zp8(a:Yv):Option (Yv×Unit):=Ze (([]:List Int).length+a.2.2.2.1.length<=Qo)<|some ((a.1,(a.2.1,(a.2.2.1,(([]:List Int)++a.2.2.2.1,())))),())
def Zj4(a:List Zh):Option (List Zh×Unit):=Ze (([]:List Zh).length+a.length<=Qo)<|some (([]:List Zh)++a,())
def Zc7(a:Zp):Option (Zp×Unit):=(Zp8 a.2.1).bind fun b=>(Zj4 a.2.2.1).bind fun c=>(Zj4 a.2.2.2.1).bind fun d=>(Zj4 a.2.2.2.2.1).bind fun e=>some ((a.1,(b.1,(c.1,(d.1,(e.1,(a.2.2.2.2.2.1,(a.2.2.2.2.2.2.1,(a.2.2.2.2.2.2.2.1,(a.2.2.2.2.2.2.2.2.1,()))))))))),())
def Zj6(a:Zs):Option (Zs×Unit):=Ze (([]:List Z1).length+a.2.1.length<=Qo)<|some ((a.1,(([]:List Z1)++a.2.1,())),())
def Zhg(a:Zu):Option (Zu×Unit):=(Zj6 a.2.1).bind fun b=>some ((a.1,(b.1,(a.2.2.1,(a.2.2.2.1,(a.2.2.2.2.1,()))))),())
def Zaw(a:Zd):Option (Zd×Unit):=(Zc7 a.2.1).bind fun b=>(Zhg a.2.2.2.1).bind fun c=>some ((a.1,(b.1,(a.2.2.1,(c.1,a.2.2.2.2)))),())
abbrev Z5s:List PE:=[.val 0 (.slice 88 (Y9)) (.u false),.val 3 (.slice 88 (Y9)) (.u true),.val 4 (.int .i64) (.u false)]
def Zjq(a c:List Z9)(b:Int):Nat:=((a.length:Int)-b).toNat+1
def Zft:Nat->List Z9->List Z9->Int->Option (List Z9×Unit)
 |0,_,_,_=>none
 |N+1,b,c,a=>
  bif decide (a< (b.length:Int))then
   Ze (0<=a/\a<b.length)<|
   Ze (0<=a/\a<b.length)<|
   Ze (([]:List Zi).length+ (b.getD a.toNat Qk).2.1.length<=Qo)<|
   let d:List Z9:=[((b.getD a.toNat Qk).1,(([]:List Zi)++ (b.getD a.toNat Qk).2.1,()))]
   Ze (c.length+d.length<=Qo)<|
   Zft N b (c++d) (IntKind.i64.wrap (a+1))
  else
   some (c,())
def Zo9(a:List Z9):Option (List Z9×Unit):=Zft (Zjq a ([]:List Z9) (0:Int)) a ([]:List Z9) (0:Int)
abbrev Qgr:List PE:=[.box 1 37 (Zo) (.u false),.box 2 37 (Zo) (.u true),.box 3 37 (Zo) (.p (.u false) (.p (.u false) (.p (.u false) (.p (.u true) (.u false))))),.val 4 (.int .i64) (.u false)]
def Zmw(a c d:Zf)(b:Int):Nat:=((a.2.2.2.1.length:Int)-b).toNat+1
def Zdn:Nat->Zf->Zf->Zf->Int->Option (Zf×Unit)|0,_,_,_,_=>none|N+1,b,e,a,c=>bif decide (c< (b.2.2.2.1.length:Int))then Ze (0<=c/\c<b.2.2.2.1.length)<|(Zaw (b.2.2.2.1.getD c.toNat Zj)).bind fun d=>Ze (a.2.2.2.1.length+ ([d.1]).length<=Qo)<|Zdn N b e (a.1,(a.2.1,(a.2.2.1,(a.2.2.2.1++ ([d.1]),a.2.2.2.2)))) (IntKind.i64.wrap (c+1)) else (Zo9 b.2.2.2.2.2.2.2.2.2.2.2.2.2.2.2.1).bind fun f=>some ((a.1,(a.2.1,(a.2.2.1,(a.2.2.2.1,(a.2.2.2.2.1,(a.2.2.2.2.2.1,(a.2.2.2.2.2.2.1,(a.2.2.2.2.2.2.2.1,(a.2.2.2.2.2.2.2.2.1,(a.2.2.2.2.2.2.2.2.2.1,(a.2.2.2.2.2.2.2.2.2.2.1,(a.2.2.2.2.2.2.2.2.2.2.2.1,(a.2.2.2.2.2.2.2.2.2.2.2.2.1,(a.2.2.2.2.2.2.2.2.2.2.2.2.2.1,(a.2.2.2.2.2.2.2.2.2.2.2.2.2.2.1,(f.1,a.2.2.2.2.2.2.2.2.2.2.2.2.2.2.2.2)))))))))))))))),())
def Z4(a:Zf):Option (Zf×Unit):=Zdn (Zmw a Vg (a.1,(a.2.1,(a.2.2.1,(([]:List Zd),a.2.2.2.2)))) (0:Int)) a Vg (a.1,(a.2.1,(a.2.2.1,(([]:List Zd),a.2.2.2.2)))) (0:Int)
abbrev Qkc:List PE:=[.box 1 55 (Vx) (.u false),.val 3 (.int .i64) (.u false)]
def Vw(a:Yv)(b:Int):Nat:=((a.2.2.2.1.length:Int)-b).toNat+1
def Zfn:Nat->Yv->Int->Option (Bool×Unit)|0,_,_=>none|N+1,b,a=>bif decide (a< (b.2.2.2.1.length:Int))then Ze (0<=a/\a<b.2.2.2.1.length)<|(Z5 (b.2.2.2.1.getD a.toNat (0:Int)) (0:Int) (255:Int)).bind fun c=>bif !c.1 then some (false,()) else Zfn N b (IntKind.i64.wrap (a+1)) else some (true,())
def Zad(a:Yv):Option (Bool×Unit):=(Vs a.1).bind fun b=>bif(((((!b.1)|| ((a.2.2.2.1.length:Int) !=a.1))|| (decide (a.2.1< (0:Int))))|| (decide (a.2.2.1<a.2.1)))|| (decide ((IntKind.i64.wrap (a.2.2.1-a.2.1))>a.1)))|| (decide (a.2.2.1>(4611686018427387903:Int)))then some (false,()) else Zfn (Vw a (0:Int)) a (0:Int)
def Zti(a:Zh):Option (Bool×Unit):=some (((decide (a.1>=(0:Int)))&& (decide (a.1<a.2.1)))&& (decide (a.2.1<=(4611686018427387903:Int))),())
abbrev Qcj:List PE:=[.val 0 (.slice 222 (Zx)) (.u false),.val 3 (.int .i64) (.u false)]
def Zb0(a:List Zh)(b:Int):Nat:=((a.length:Int)-b).toNat+1
def Zac:Nat->List Zh->Int->Option (Bool×Unit)|0,_,_=>none|N+1,b,a=>bif decide (a< (b.length:Int))then Ze (0<=a/\a<b.length)<|(Zti (b.getD a.toNat Zz)).bind fun c=>Ze (((!c.1)=false->((decide (a>(0:Int)))=true->(0<=(IntKind.i64.wrap (a-1))/\(IntKind.i64.wrap (a-1))<b.length))))<|Ze (((!c.1)=false->((decide (a>(0:Int)))=true->(0<=a/\a<b.length))))<|bif(!c.1)|| ((decide (a>(0:Int)))&& (decide ((b.getD (IntKind.i64.wrap (a-1)).toNat Zz).2.1>=(b.getD a.toNat Zz).1)))then some (false,()) else Zac N b (IntKind.i64.wrap (a+1)) else some (true,())
def Jh(a:List Zh):Option (Bool×Unit):=Zac (Zb0 a (0:Int)) a (0:Int)
abbrev Qcc:List PE:=[.val 0 (.slice 222 (Zx)) (.u false),.box 3 222 (Zx) (.u false),.val 5 (.slice 222 (Zx)) (.u true),.val 6 (.bool) (.u false),.val 7 (.int .i64) (.u false)]
def W6(K1: (List Zh×Zh×List Zh×Bool×Int×Unit)->Option (List Zh×Unit))(a:List Zh)(b:Zh)(c:List Zh)(d:Bool)(e:Int):Option (List Zh×Unit):=K1 (a,b,c,d,IntKind.i64.wrap (e+1),())
abbrev Qcd:List PE:=[.val 0 (.slice 222 (Zx)) (.u false),.box 3 222 (Zx) (.u false),.val 5 (.slice 222 (Zx)) (.u true),.val 6 (.bool) (.u false),.val 7 (.int .i64) (.u false)]
def Zi5(K1: (List Zh×Zh×List Zh×Bool×Int×Unit)->Option (List Zh×Unit))(b:List Zh)(d:Zh)(c:List Zh)(e:Bool)(a:Int):Option (List Zh×Unit):=Ze (0<=a/\a<b.length)<|Ze (c.length+ ([(b.getD a.toNat Zz)]).length<=Qo)<|W6 K1 b d (c++ ([(b.getD a.toNat Zz)])) e a
abbrev Qce:List PE:=[.val 0 (.slice 222 (Zx)) (.u false),.box 3 222 (Zx) (.u false),.val 5 (.slice 222 (Zx)) (.u true),.val 6 (.bool) (.u false),.val 7 (.int .i64) (.u false)]
def Zfz(a:List Zh)(c:Zh)(d:List Zh)(e:Bool)(b:Int):Nat:=((a.length:Int)-b).toNat+1
def Yt:Nat->List Zh->Zh->List Zh->Bool->Int->Option (List Zh×Unit)|0,_,_,_,_,_=>none|N+1,b,c,d,e,a=>bif decide (a< (b.length:Int))then Ze (0<=a/\a<b.length)<|bif decide ((b.getD a.toNat Zz).2.1<c.1)then Ze (0<=a/\a<b.length)<|Ze (d.length+ ([(b.getD a.toNat Zz)]).length<=Qo)<|W6 (fun v=>Yt N v.1 v.2.1 v.2.2.1 v.2.2.2.1 v.2.2.2.2.1) b c (d++ ([(b.getD a.toNat Zz)])) e a else Ze (0<=a/\a<b.length)<|bif decide ((b.getD a.toNat Zz).1>c.2.1)then bif !e then Ze (d.length+ ([c]).length<=Qo)<|Zi5 (fun v=>Yt N v.1 v.2.1 v.2.2.1 v.2.2.2.1 v.2.2.2.2.1) b c (d++ ([c])) true a else Zi5 (fun v=>Yt N v.1 v.2.1 v.2.2.1 v.2.2.2.1 v.2.2.2.2.1) b c d e a else Ze (0<=a/\a<b.length)<|Ze (0<=a/\a<b.length)<|W6 (fun v=>Yt N v.1 v.2.1 v.2.2.1 v.2.2.2.1 v.2.2.2.2.1) b (min c.1 (b.getD a.toNat Zz).1,(max c.2.1 (b.getD a.toNat Zz).2.1,c.2.2)) d e a else bif !e then Ze (d.length+ ([c]).length<=Qo)<|some (d++ ([c]),()) else some (d,())
def Zal(a:List Zh)(b:Zh):Option (List Zh×Unit):=(Jh a).bind fun c=>(bif(!c.1)then some (false,())else(Zti b)).bind fun d=>bif(!c.1)|| (!d.1)then (Zj4 a).bind fun e=>some (e.1,()) else Yt (Zfz a b ([]:List Zh) false (0:Int)) a b ([]:List Zh) false (0:Int)
abbrev Z08:List PE:=[.val 0 (.slice 222 (Zx)) (.u false),.val 3 (.int .i64) (.u false),.val 4 (.int .i64) (.u false)]
def Zbn(a:List Zh)(c b:Int):Nat:=((a.length:Int)-b).toNat+1
def Kv:Nat->List Zh->Int->Int->Option (Int×Unit)|0,_,_,_=>none|N+1,b,c,a=>bif decide (a< (b.length:Int))then Ze (0<=a/\a<b.length)<|Ze (0<=a/\a<b.length)<|Kv N b (IntKind.i64.wrap ((IntKind.i64.wrap (c+ (b.getD a.toNat Zz).2.1))- (b.getD a.toNat Zz).1)) (IntKind.i64.wrap (a+1)) else some (c,())
def Vy(a:List Zh):Option (Int×Unit):=(Jh a).bind fun b=>bif !b.1 then some ((-1:Int),()) else Kv (Zbn a (0:Int) (0:Int)) a (0:Int) (0:Int)
abbrev Qcg:List PE:=[.val 0 (.slice 222 (Zx)) (.u false),.val 1 (.int .i64) (.u false),.val 5 (.int .i64) (.u false)]
def Zjc(K1: (List Zh×Int×Int×Unit)->Option (Int×Unit))(a:List Zh)(b c:Int):Option (Int×Unit):=K1 (a,b,IntKind.i64.wrap (c+1),())
abbrev Qch:List PE:=[.val 0 (.slice 222 (Zx)) (.u false),.val 1 (.int .i64) (.u false),.val 5 (.int .i64) (.u false)]
def Zlj(a:List Zh)(c b:Int):Nat:=((a.length:Int)-b).toNat+1
def Vo:Nat->List Zh->Int->Int->Option (Int×Unit)
 |0,_,_,_=>none
 |N+1,b,c,a=>
  bif decide (a< (b.length:Int))then
   Ze (0<=a/\a<b.length)<|
   let d:Bool:=decide (c>=(b.getD a.toNat Zz).1)
   Ze ((d=true->(0<=a/\a<b.length)))<|
   bif d&& (decide (c< (b.getD a.toNat Zz).2.1))then
    Ze (0<=a/\a<b.length)<|
    Zjc (fun v=>Vo N v.1 v.2.1 v.2.2.1) b (b.getD a.toNat Zz).2.1 a
   else
    Zjc (fun v=>Vo N v.1 v.2.1 v.2.2.1) b c a
  else
   some (c,())
def Zhs(a:List Zh)(b:Int):Option (Int×Unit):=(Jh a).bind fun c=>bif(!c.1)|| (decide (b< (0:Int)))then some ((-1:Int),()) else Vo (Zlj a b (0:Int)) a b (0:Int)
def Za0(a:Zp):Option (Int×Unit):=bif(a.2.2.2.2.2.2.1==3)&& (a.2.1.2.1==a.2.1.2.2.1)then some ((3:Int),()) else bif(decide (a.2.2.2.2.2.2.1>(1:Int)))|| ((a.2.2.2.2.2.2.1==1)&& (a.1==2))then some ((2:Int),()) else bif(decide (a.2.2.2.2.2.2.2.1>(0:Int)))|| ((a.2.2.2.2.2.2.1==1)&& (a.1==1))then some ((1:Int),()) else some ((0:Int),())
abbrev Qcn:List PE:=[.box 1 58 (Z6) (.u false),.val 8 (.int .i64) (.u false)]
def Zf2(a:Zp)(i8:Int):Nat:=((a.2.2.2.2.1.length:Int)-i8).toNat+1
def Zcf:Nat->Zp->Int->Option (Bool×Unit)|0,_,_=>none|N+1,a,i8=>bif decide (i8< (a.2.2.2.2.1.length:Int))then Ze (0<=i8/\i8<a.2.2.2.2.1.length)<|bif decide ((a.2.2.2.2.1.getD i8.toNat Zz).2.1>a.2.2.2.2.2.2.2.1)then some (false,()) else Zcf N a (IntKind.i64.wrap (i8+1)) else bif(!((a.2.2.2.2.2.2.1==0)==(a.2.2.2.2.2.1==(-1:Int))))|| ((a.2.2.2.2.2.1 !=(-1:Int))&& (a.2.2.2.2.2.1 !=a.2.1.2.2.1))then some (false,()) else (Za0 a).bind fun b=>some (a.1==b.1,())
abbrev Qcm:List PE:=[.box 1 58 (Z6) (.u false),.val 7 (.int .i64) (.u false)]
def Zb2(a:Zp)(b:Int):Nat:=((a.2.2.2.1.length:Int)-b).toNat+1
def Zce:Nat->Zp->Int->Option (Bool×Unit)|0,_,_=>none|N+1,a,b=>bif decide (b< (a.2.2.2.1.length:Int))then Ze (0<=b/\b<a.2.2.2.1.length)<|bif decide ((a.2.2.2.1.getD b.toNat Zz).2.1>a.2.2.2.2.2.2.2.1)then some (false,()) else Zce N a (IntKind.i64.wrap (b+1)) else Zcf (Zf2 a (0:Int)) a (0:Int)
abbrev Qcl:List PE:=[.box 1 58 (Z6) (.u false),.val 3 (.slice 222 (Zx)) (.u false),.val 5 (.int .i64) (.u false)]
def Zb1(a:Zp)(c:List Zh)(b:Int):Nat:=((a.2.2.2.2.1.length:Int)-b).toNat+1
def Zcd:Nat->Zp->List Zh->Int->Option (Bool×Unit)
 |0,_,_,_=>none
 |N+1,a,c,b=>
  bif decide (b< (a.2.2.2.2.1.length:Int))then
   Ze (0<=b/\b<a.2.2.2.2.1.length)<|
   (Zal c (a.2.2.2.2.1.getD b.toNat Zz)).bind fun f=>
   Zcd N a f.1 (IntKind.i64.wrap (b+1))
  else
   (Vy a.2.2.1).bind fun g=>
   (Vy a.2.2.2.1).bind fun h=>
   (Vy a.2.2.2.2.1).bind fun i=>
   (Vy c).bind fun j=>
   let d:Bool:=(j.1 !=a.2.1.2.2.1)|| ((IntKind.i64.wrap ((IntKind.i64.wrap (g.1+h.1))+i.1)) !=a.2.1.2.2.1)
   Ze ((d=false->((decide (a.2.1.2.2.1>(0:Int)))=true->(0<=(0:Int)/\(0:Int)<c.length))))<|
   let e:Bool:=d|| ((decide (a.2.1.2.2.1>(0:Int)))&& ((c.getD (0:Int).toNat Zz).2.1 !=a.2.1.2.2.1))
   (bif e then some ((0:Int),())else(Zhs a.2.2.2.2.1 (0:Int))).bind fun k=>
   bif(e|| (k.1 !=a.2.1.2.1))|| (a.2.2.2.2.2.2.2.2.1 !=0)then
    some (false,())
   else
    Zce (Zb2 a (0:Int)) a (0:Int)
abbrev Qck:List PE:=[.box 1 58 (Z6) (.u false),.val 3 (.slice 222 (Zx)) (.u false),.val 4 (.int .i64) (.u false)]
def Kc(a:Zp)(c:List Zh)(b:Int):Nat:=((a.2.2.2.1.length:Int)-b).toNat+1
def Zcc:Nat->Zp->List Zh->Int->Option (Bool×Unit)|0,_,_,_=>none|N+1,a,c,b=>bif decide (b< (a.2.2.2.1.length:Int))then Ze (0<=b/\b<a.2.2.2.1.length)<|(Zal c (a.2.2.2.1.getD b.toNat Zz)).bind fun d=>Zcc N a d.1 (IntKind.i64.wrap (b+1)) else Zcd (Zb1 a c (0:Int)) a c (0:Int)
def Yb(a:Zp):Option (Bool×Unit):=
 (Zad a.2.1).bind fun b=>
 (bif(!b.1)then some (false,())else(Jh a.2.2.1)).bind fun e=>
 (bif((!b.1)|| (!e.1))then some (false,())else(Jh a.2.2.2.1)).bind fun h=>
 let c:Bool:=((!b.1)|| (!e.1))|| (!h.1)
 (bif c then some (false,())else(Jh a.2.2.2.2.1)).bind fun f=>
 (bif(c|| (!f.1))then some (false,())else(Z5 a.2.2.2.2.2.2.2.1 (0:Int) a.2.1.2.2.1)).bind fun i=>
 let d:Bool:=(c|| (!f.1))|| (!i.1)
 (bif d then some (false,())else(Qj a.2.2.2.2.2.2.2.2.1)).bind fun g=>
 (bif(d|| (!g.1))then some (false,())else(Z5 a.2.2.2.2.2.2.1 (0:Int) (3:Int))).bind fun j=>
 bif(d|| (!g.1))|| (!j.1)then
  some (false,())
 else
  bif(a.1==4)|| (a.1==5)then
   some (((((((a.2.1.2.1==a.2.1.2.2.1)&& ((a.2.2.1.length:Int)==(0:Int)))&& ((a.2.2.2.1.length:Int)==(0:Int)))&& ((a.2.2.2.2.1.length:Int)==(0:Int)))&& (a.2.2.2.2.2.1==a.2.2.2.2.2.2.2.1))&& (a.2.2.2.2.2.2.1==0))&& (a.2.2.2.2.2.2.2.1==a.2.1.2.2.1),())
  else
   Zcc (Kc a a.2.2.1 (0:Int)) a a.2.2.1 (0:Int)
def Yn(a:Q8):Option (Bool×Unit):=(Qj a.1).bind fun b=>(bif b.1 then(Z5 a.2.1 (0:Int) a.1)else some (false,())).bind fun c=>(bif(b.1&&c.1)then(Z5 a.2.2.1 (-1:Int) a.1)else some (false,())).bind fun d=>(bif((b.1&&c.1)&&d.1)then(Z5 a.2.2.2.1 (-1:Int) a.1)else some (false,())).bind fun e=>some (((b.1&&c.1)&&d.1)&&e.1,())
abbrev Qci:List PE:=[.box 1 61 (Q2) (.u false),.val 3 (.int .i64) (.u false),.val 4 (.int .i64) (.u false)]
def Zlk(a:Zs)(c b:Int):Nat:=((a.2.1.length:Int)-b).toNat+1
def Zet:Nat->Zs->Int->Int->Option (Bool×Unit)|0,_,_,_=>none|N+1,a,c,b=>bif decide (b< (a.2.1.length:Int))then Ze (0<=b/\b<a.2.1.length)<|bif((decide ((a.2.1.getD b.toNat Qf).1<=c))|| ((a.2.1.getD b.toNat Qf).2.1==([]:List UInt8)))|| (decide ((a.2.1.getD b.toNat Qf).1>(IntKind.i64.wrap ((4611686018427387903:Int)- ((a.2.1.getD b.toNat Qf).2.1.length:Int)))))then some (false,()) else Zet N a (IntKind.i64.wrap ((a.2.1.getD b.toNat Qf).1+ ((a.2.1.getD b.toNat Qf).2.1.length:Int))) (IntKind.i64.wrap (b+1)) else (Qj a.1).bind fun d=>some (d.1,())
def Zek(a:Zs):Option (Bool×Unit):=Zet (Zlk a (IntKind.i64.wrap (a.1-1)) (0:Int)) a (IntKind.i64.wrap (a.1-1)) (0:Int)
def Zmo(a:Zs):Option (Int×Unit):=
 (bif((a.2.1.length:Int)==(0:Int))then some (false,())else(Zek a)).bind fun c=>
 bif((a.2.1.length:Int)==(0:Int))|| (!c.1)then
  some (a.1,())
 else
  let b:Int:=IntKind.i64.wrap ((a.2.1.length:Int)- (1:Int))
  Ze (0<=b/\b<a.2.1.length)<|
  some (IntKind.i64.wrap ((a.2.1.getD b.toNat Qf).1+ ((a.2.1.getD b.toNat Qf).2.1.length:Int)),())
def Zbf(a:Zs):Option (Int×Unit):=
 (Zek a).bind fun c=>
 let b:Bool:=(!c.1)|| ((a.2.1.length:Int)==(0:Int))
 Ze ((b=false->(0<=(0:Int)/\(0:Int)<a.2.1.length)))<|
 bif b|| ((a.2.1.getD (0:Int).toNat Qf).1 !=a.1)then
  some ((0:Int),())
 else
  Ze (0<=(0:Int)/\(0:Int)<a.2.1.length)<|
  some (((a.2.1.getD (0:Int).toNat Qf).2.1.length:Int),())
abbrev Z5g:List PE:=[.box 1 63 (Z8) (.u false),.val 114 (.bool) (.u false)]
def Yh(a:Zu)(b:Bool):Option (Bool×Unit):=bif b then some (((a.2.2.1 !=(-1:Int))&& (a.2.2.2.1==a.2.2.1))&& ((a.2.1.2.1.length:Int)==(0:Int)),()) else some (false,())
def Xc(a:Zu):Option (Bool×Unit):=
 (Zek a.2.1).bind fun b=>
 (bif(!b.1)then some (false,())else(Qj a.2.2.2.1)).bind fun d=>
 (bif((!b.1)|| (!d.1))then some ((0:Int),())else(Zmo a.2.1)).bind fun f=>
 let e:Bool:=((!b.1)|| (!d.1))|| (decide (f.1>a.2.2.2.1))
 (bif e then some (false,())else(Qj a.2.2.2.2.1)).bind fun g=>
 bif(((e|| (!g.1))|| ((a.2.2.1 !=(-1:Int))&& (decide (a.2.2.1<a.2.2.2.1))))|| (decide (a.2.2.1>(4611686018427387903:Int))))|| (decide (a.2.2.1< (-1:Int)))then
  some (false,())
 else
  (bif(a.2.2.1 !=(-1:Int))then(Zbf a.2.1)else some ((0:Int),())).bind fun h=>
  let c:Bool:=(a.2.2.1 !=(-1:Int))&& ((IntKind.i64.wrap (a.2.1.1+h.1))==a.2.2.1)
  bif a.1==0 then
   some ((a.2.2.1==(-1:Int))&& (a.2.2.2.2.1==0),())
  else
   bif a.1==1 then
    some (((a.2.2.1 !=(-1:Int))&& (!c))&& (a.2.2.2.2.1==0),())
   else
    bif a.1==2 then
     some (c&& (a.2.2.2.2.1==0),())
    else
     bif a.1==3 then
      some ((c&& ((a.2.1.2.1.length:Int)==(0:Int)))&& (a.2.2.2.2.1==0),())
     else
      bif a.1==4 then
       Yh a (a.1==4)
      else
       Yh a (a.1==5)
def V8(a:Qw):Option (Bool×Unit):=
 (Z5 a.2.1 (1:Int) (4096:Int)).bind fun b=>
 (bif b.1 then(Z5 a.1 (1:Int) a.2.1)else some (false,())).bind fun c=>
 (bif(b.1&&c.1)then(Z5 a.2.2.1 (1:Int) (4611686018427387903:Int))else some (false,())).bind fun d=>
 (bif((b.1&&c.1)&&d.1)then(Z5 a.2.2.2.1 (0:Int) a.2.2.1)else some (false,())).bind fun g=>
 let e:Bool:=((b.1&&c.1)&&d.1)&&g.1
 (bif e then(Z5 a.2.2.2.2.1 (0:Int) a.2.2.2.1)else some (false,())).bind fun h=>
 let f:Bool:=(e&&h.1)&& (decide (a.2.2.1<=(IntKind.i64.wrap (a.2.2.2.2.1+a.1))))
 (bif f then(Z5 a.2.2.2.2.2.1 (0:Int) (1000000:Int))else some (false,())).bind fun i=>
 some (f&&i.1,())
def Zbe(a:Xl):Option (Bool×Unit):=(Z5 a.1 (0:Int) (7:Int)).bind fun b=>some (b.1,())
def Zcp(a:Zd):Option (Bool×Unit):=
 (Qj a.1).bind fun b=>
 (bif(!b.1)then some (false,())else(Yb a.2.1)).bind fun e=>
 (bif((!b.1)|| (!e.1))then some (false,())else(Yn a.2.2.1)).bind fun h=>
 let c:Bool:=((!b.1)|| (!e.1))|| (!h.1)
 (bif c then some (false,())else(Xc a.2.2.2.1)).bind fun f=>
 (bif(c|| (!f.1))then some (false,())else(V8 a.2.2.2.2.1)).bind fun i=>
 let d:Bool:=(c|| (!f.1))|| (!i.1)
 (bif d then some (false,())else(Zbe a.2.2.2.2.2.1)).bind fun g=>
 (bif(d|| (!g.1))then some (false,())else(Qj a.2.2.2.2.2.2.2.2.2.2.2.2.1)).bind fun j=>
 bif((d|| (!g.1))|| (!j.1))|| ((!a.2.2.2.2.2.2.1)&& (!a.2.2.2.2.2.2.2.1))then
  some (false,())
 else
  bif((((decide (a.2.1.2.2.2.2.2.2.2.1>a.2.2.1.2.1))|| (decide (a.2.2.2.1.2.2.2.1>a.2.2.2.2.1.2.2.2.1)))|| (a.2.2.2.2.2.2.2.2.1&& (a.2.1.1 !=4)))|| (a.2.2.2.2.2.2.2.2.2.1&& (!a.2.2.2.2.2.2.2.2.2.2.2.1)))|| ((a.2.2.2.2.2.2.2.2.2.2.2.2.1 !=0)&& (!a.2.2.2.2.2.2.2.2.2.2.2.1))then
   some (false,())
  else
   some ((a.2.2.2.2.2.2.1|| (((a.2.1.1==0)&& (a.2.1.2.1.2.2.1==0))&& (a.2.1.2.2.2.2.2.1==(-1:Int))))&& (a.2.2.2.2.2.2.2.1|| (((a.2.2.2.1.1==0)&& (a.2.2.2.1.2.2.2.1==0))&& (!a.2.2.2.2.2.2.2.2.2.2.2.1))),())
abbrev Z44:List PE:=[.val 0 (.slice 67 (Zw)) (.u false),.val 3 (.int .i64) (.u false)]
def W7(a:List Zd)(b:Int):Nat:=((a.length:Int)-b).toNat+1
def Yf:Nat->List Zd->Int->Option (Bool×Unit)|0,_,_=>none|N+1,b,a=>bif decide (a< (b.length:Int))then Ze (0<=a/\a<b.length)<|(Zcp (b.getD a.toNat Zj)).bind fun c=>Ze (((!c.1)=false->((decide (a>(0:Int)))=true->(0<=a/\a<b.length))))<|Ze (((!c.1)=false->((decide (a>(0:Int)))=true->(0<=(IntKind.i64.wrap (a-1))/\(IntKind.i64.wrap (a-1))<b.length))))<|bif(!c.1)|| ((decide (a>(0:Int)))&& (decide ((b.getD a.toNat Zj).1<=(b.getD (IntKind.i64.wrap (a-1)).toNat Zj).1)))then some (false,()) else Yf N b (IntKind.i64.wrap (a+1)) else some (decide ((b.length:Int)<=(24:Int)),())
def Kh(a:List Zd):Option (Bool×Unit):=Yf (W7 a (0:Int)) a (0:Int)
def Zco(a:Zdh):Option (Bool×Unit):=(Z5 a.1 (0:Int) (1152921504606846976:Int)).bind fun b=>(bif b.1 then(Z5 a.2.1 (0:Int) a.1)else some (false,())).bind fun c=>(bif(b.1&&c.1)then(Z5 a.2.2.1 (-1:Int) a.1)else some (false,())).bind fun d=>some ((b.1&&c.1)&&d.1,())
def Vp(a:Q8):Option (Bool×Unit):=(Z5 a.1 (0:Int) (1000:Int)).bind fun b=>(bif b.1 then(Z5 a.2.1 a.1 (1152921504606846976:Int))else some (false,())).bind fun c=>(bif(b.1&&c.1)then(Z5 a.2.2.1 (0:Int) a.2.1)else some (false,())).bind fun d=>(bif((b.1&&c.1)&&d.1)then(Z5 a.2.2.2.1 (0:Int) a.2.2.1)else some (false,())).bind fun e=>some ((((b.1&&c.1)&&d.1)&&e.1)&& (decide (a.2.1<=(IntKind.i64.wrap (a.2.2.2.1+a.1)))),())
def Zol(a:Int):Option (List UInt8×Unit):=bif a==4 then some (([114,101,115,101,116]:List UInt8),()) else bif a==5 then some (([115,116,111,112]:List UInt8),()) else bif a==8 then some (([115,116,114,101,97,109]:List UInt8),()) else bif a==16 then some (([109,97,120,100,97,116,97]:List UInt8),()) else bif a==17 then some (([109,97,120,115,116,114,101,97,109,100,97,116,97]:List UInt8),()) else bif a==18 then some (([109,97,120,115,116,114,101,97,109,115]:List UInt8),()) else bif a==20 then some (([100,97,116,97,98,108,111,99,107,101,100]:List UInt8),()) else bif a==21 then some (([115,116,114,101,97,109,100,97,116,97,98,108,111,99,107,101,100]:List UInt8),()) else bif a==22 then some (([115,116,114,101,97,109,115,98,108,111,99,107,101,100]:List UInt8),()) else some (([]:List UInt8),())
abbrev Zzm:List PE:=[.val 5 (.bool) (.u false)]
def Yj(a:Bool):Option (Bool×Unit):=bif a then some (true,()) else some (false,())
def Wr(a:Zi):Option (Bool×Unit):=bif a.1==4 then Yj (a.1==4) else bif a.1==5 then Yj (a.1==5) else bif a.1==8 then Yj (a.1==8) else bif a.1==17 then Yj (a.1==17) else Yj (a.1==21)
abbrev Qko:List PE:=[.box 1 50 (Zq) (.u false),.box 2 50 (Zq) (.u false),.box 3 50 (Zq) (.u false),.val 41 (.bool) (.u false)]
def Zjx(b d a:Zi)(c:Bool):Option (Zi×Unit):=bif c then some ((a.1,(a.2.1,(a.2.2.1,(a.2.2.2.1,(a.2.2.2.2.1,(a.2.2.2.2.2.1,(b.2.2.2.2.2.2.1,(a.2.2.2.2.2.2.2.1,(b.2.2.2.2.2.2.2.2.1,a.2.2.2.2.2.2.2.2.2))))))))),()) else some ((a.1,(a.2.1,(a.2.2.1,(a.2.2.2.1,(a.2.2.2.2.1,(a.2.2.2.2.2.1,(b.2.2.2.2.2.2.1,a.2.2.2.2.2.2.2))))))),())
abbrev Qkn:List PE:=[.box 1 50 (Zq) (.u false),.box 2 50 (Zq) (.u false),.box 3 50 (Zq) (.u false)]
def Zjw(b c a:Zi):Option (Zi×Unit):=bif b.1==4 then some ((a.1,(a.2.1,(a.2.2.1,(a.2.2.2.1,(a.2.2.2.2.1,(b.2.2.2.2.2.1,(a.2.2.2.2.2.2.1,(b.2.2.2.2.2.2.2.1,a.2.2.2.2.2.2.2.2)))))))),()) else bif b.1==5 then some ((a.1,(a.2.1,(a.2.2.1,(a.2.2.2.1,(a.2.2.2.2.1,(b.2.2.2.2.2.1,a.2.2.2.2.2.2)))))),()) else bif b.1==8 then some ((a.1,(a.2.1,(b.2.2.1,(b.2.2.2.1,(b.2.2.2.2.1,a.2.2.2.2.2))))),()) else bif b.1==18 then Zjx b c a (b.1==18) else Zjx b c a (b.1==22)
def Zhf(a:Zi):Option (Zi×Unit):=(Wr a).bind fun b=>bif b.1 then Zjw a Qr (a.1,(a.2.1,((0:Int),(([]:List UInt8),(false,((0:Int),((0:Int),((0:Int),(false,()))))))))) else Zjw a Qr (a.1,((0:Int),((0:Int),(([]:List UInt8),(false,((0:Int),((0:Int),((0:Int),(false,())))))))))
abbrev Qgo:List PE:=[.box 1 50 (Zq) (.u false),.val 60 (.bool) (.u false)]
def Zo4(a:Zi)(b:Bool):Option (Bool×Unit):=bif b then some (decide (a.2.2.2.2.2.2.1<=(1152921504606846976:Int)),()) else some (true,())
def Jt(a:Zi):Option (Bool×Unit):=
 (Zol a.1).bind fun d=>
 (bif(d.1==([]:List UInt8))then some (Qr,())else(Zhf a)).bind fun h=>
 let b:Bool:=(d.1==([]:List UInt8))|| (!(eqV (Zq) h.1 a))
 (bif b then some (false,())else(Qj a.2.1)).bind fun e=>
 (bif(b|| (!e.1))then some (false,())else(Qj a.2.2.1)).bind fun i=>
 let c:Bool:=(b|| (!e.1))|| (!i.1)
 (bif c then some (false,())else(Qj a.2.2.2.2.2.1)).bind fun f=>
 (bif(c|| (!f.1))then some (false,())else(Qj a.2.2.2.2.2.2.1)).bind fun j=>
 let g:Bool:=(c|| (!f.1))|| (!j.1)
 (bif g then some (false,())else(Qj a.2.2.2.2.2.2.2.1)).bind fun k=>
 bif(g|| (!k.1))|| (decide ((a.2.2.2.1.length:Int)>(400:Int)))then
  some (false,())
 else
  bif a.1==8 then
   some (decide (a.2.2.1<=(IntKind.i64.wrap ((4611686018427387903:Int)- (a.2.2.2.1.length:Int)))),())
  else
   bif a.1==18 then
    Zo4 a (a.1==18)
   else
    Zo4 a (a.1==22)
abbrev Z8n:List PE:=[.val 0 (.slice 50 (Zq)) (.u false),.val 3 (.int .i64) (.u false)]
def K8(a:List Zi)(b:Int):Nat:=((a.length:Int)-b).toNat+1
def Jv:Nat->List Zi->Int->Option (Bool×Unit)|0,_,_=>none|N+1,b,a=>bif decide (a< (b.length:Int))then Ze (0<=a/\a<b.length)<|(Jt (b.getD a.toNat Qr)).bind fun c=>bif !c.1 then some (false,()) else Jv N b (IntKind.i64.wrap (a+1)) else some (true,())
def Zc5(a:List Zi):Option (Bool×Unit):=Jv (K8 a (0:Int)) a (0:Int)
abbrev Z8l:List PE:=[.val 0 (.slice 67 (Zw)) (.u false),.val 3 (.int .i64) (.u false),.val 4 (.int .i64) (.u false)]
def Y1(a:List Zd)(c b:Int):Nat:=((a.length:Int)-b).toNat+1
def Kt:Nat->List Zd->Int->Int->Option (Int×Unit)|0,_,_,_=>none|N+1,a,c,b=>(bif(decide (b< (a.length:Int)))then(Kh a)else some (false,())).bind fun d=>bif(decide (b< (a.length:Int)))&&d.1 then Ze (0<=b/\b<a.length)<|Kt N a (min (IntKind.i64.wrap (c+ (a.getD b.toNat Zj).2.1.2.2.2.2.2.2.2.1)) (4611686018427387904:Int)) (IntKind.i64.wrap (b+1)) else some (c,())
def Zc4(a:List Zd):Option (Int×Unit):=Kt (Y1 a (0:Int) (0:Int)) a (0:Int) (0:Int)
abbrev Z8i:List PE:=[.val 0 (.slice 67 (Zw)) (.u false),.val 3 (.int .i64) (.u false),.val 4 (.int .i64) (.u false)]
def Y0(a:List Zd)(c b:Int):Nat:=((a.length:Int)-b).toNat+1
def Ks:Nat->List Zd->Int->Int->Option (Int×Unit)|0,_,_,_=>none|N+1,a,c,b=>(bif(decide (b< (a.length:Int)))then(Kh a)else some (false,())).bind fun d=>bif(decide (b< (a.length:Int)))&&d.1 then Ze (0<=b/\b<a.length)<|Ks N a (min (IntKind.i64.wrap (c+ (a.getD b.toNat Zj).2.2.2.1.2.2.2.1)) (4611686018427387904:Int)) (IntKind.i64.wrap (b+1)) else some (c,())
def Zc3(a:List Zd):Option (Int×Unit):=Ks (Y0 a (0:Int) (0:Int)) a (0:Int) (0:Int)
abbrev Qkb:List PE:=[.box 1 37 (Zo) (.u false),.val 3 (.int .i64) (.u false)]
def Jn(a:Zf)(b:Int):Nat:=((a.2.2.2.2.2.2.2.2.2.2.2.2.2.2.2.1.length:Int)-b).toNat+1
def Zau:Nat->Zf->Int->Option (Bool×Unit)
 |0,_,_=>none
 |N+1,a,b=>
  bif decide (b< (a.2.2.2.2.2.2.2.2.2.2.2.2.2.2.2.1.length:Int))then
   Ze (0<=b/\b<a.2.2.2.2.2.2.2.2.2.2.2.2.2.2.2.1.length)<|
   (Z5 (a.2.2.2.2.2.2.2.2.2.2.2.2.2.2.2.1.getD b.toNat Qk).1 (0:Int) (IntKind.i64.wrap (a.2.2.2.2.2.2.2.2.2.2.2.2.2.2.1-1))).bind fun d=>
   Ze (((!d.1)=false->((decide (b>(0:Int)))=true->(0<=b/\b<a.2.2.2.2.2.2.2.2.2.2.2.2.2.2.2.1.length))))<|
   Ze (((!d.1)=false->((decide (b>(0:Int)))=true->(0<=(IntKind.i64.wrap (b-1))/\(IntKind.i64.wrap (b-1))<a.2.2.2.2.2.2.2.2.2.2.2.2.2.2.2.1.length))))<|
   let e:Bool:=(!d.1)|| ((decide (b>(0:Int)))&& (decide ((a.2.2.2.2.2.2.2.2.2.2.2.2.2.2.2.1.getD b.toNat Qk).1<=(a.2.2.2.2.2.2.2.2.2.2.2.2.2.2.2.1.getD (IntKind.i64.wrap (b-1)).toNat Qk).1)))
   Ze ((e=false->(0<=b/\b<a.2.2.2.2.2.2.2.2.2.2.2.2.2.2.2.1.length)))<|
   (bif e then some (false,())else(Zc5 (a.2.2.2.2.2.2.2.2.2.2.2.2.2.2.2.1.getD b.toNat Qk).2.1)).bind fun j=>
   bif e|| (!j.1)then
    some (false,())
   else
    Zau N a (IntKind.i64.wrap (b+1))
  else
   (Z5 a.2.2.2.2.2.2.2.2.2.2.2.2.2.1 (-1:Int) (4611686018427387903:Int)).bind fun c=>
   (bif c.1 then(Z5 a.2.2.2.2.2.2.2.2.2.2.2.2.2.2.1 (0:Int) (1000000:Int))else some (false,())).bind fun f=>
   (bif(c.1&&f.1)then(Z5 a.2.2.2.2.2.2.2.2.2.2.2.2.2.2.2.2.1 (0:Int) (1000000:Int))else some (false,())).bind fun h=>
   (bif((c.1&&f.1)&&h.1)then(Z5 a.2.2.2.2.2.2.2.2.2.2.2.2.2.2.2.2.2.1 (0:Int) (255:Int))else some (false,())).bind fun k=>
   let g:Bool:=((c.1&&f.1)&&h.1)&&k.1
   (bif g then(Zc4 a.2.2.2.1)else some ((0:Int),())).bind fun i=>
   (bif(g&& (decide (i.1<=a.2.2.2.2.1.2.1)))then(Zc3 a.2.2.2.1)else some ((0:Int),())).bind fun l=>
   some ((g&& (decide (i.1<=a.2.2.2.2.1.2.1)))&& (decide (l.1<=a.2.2.2.2.2.1.2.2.2.1)),())
def Ya(a:Zf):Option (Bool×Unit):=
 (Vz a.2.1).bind fun b=>
 (bif(!b.1)then some (false,())else(Vz a.2.2.1)).bind fun f=>
 (bif((!b.1)|| (!f.1))then some (false,())else(Kh a.2.2.2.1)).bind fun j=>
 let c:Bool:=((!b.1)|| (!f.1))|| (!j.1)
 (bif c then some (false,())else(Yn a.2.2.2.2.1)).bind fun g=>
 (bif(c|| (!g.1))then some (false,())else(V8 a.2.2.2.2.2.1)).bind fun k=>
 let d:Bool:=(c|| (!g.1))|| (!k.1)
 (bif d then some (false,())else(Zco a.2.2.2.2.2.2.1)).bind fun h=>
 (bif(d|| (!h.1))then some (false,())else(Zco a.2.2.2.2.2.2.2.1)).bind fun l=>
 let e:Bool:=(d|| (!h.1))|| (!l.1)
 (bif e then some (false,())else(Vp a.2.2.2.2.2.2.2.2.1)).bind fun i=>
 (bif(e|| (!i.1))then some (false,())else(Vp a.2.2.2.2.2.2.2.2.2.1)).bind fun m=>
 bif(e|| (!i.1))|| (!m.1)then
  some (false,())
 else
  Zau (Jn a (0:Int)) a (0:Int)
def Zla(a:Zf):Option (Bool×Unit):=some (a.2.2.2.2.2.2.2.2.2.2.2.2.2.2.2.2.2.1 !=0,())
def Jx(a:Zf):Option (Bool×Unit):=(Ya a).bind fun b=>(bif b.1 then(Zla a)else some (false,())).bind fun c=>some (b.1&& (!c.1),())
def Zst(a:Zdh):Option (Int×Zdh×Bool×Unit):=(Zco a).bind fun b=>bif !b.1 then some ((-1:Int),a,false,()) else bif a.2.1==a.1 then some ((-1:Int),(a.1,(a.2.1,(a.1,a.2.2.2))),false,()) else some (a.2.1,(a.1,(IntKind.i64.wrap (a.2.1+1),a.2.2)),true,())
abbrev Qkd:List PE:=[.val 2 (.bool) (.u false),.val 7 (.int .i64) (.u false)]
def Zmq(b:Bool)(a:Int):Option (Int×Unit):=bif b then some (IntKind.i64.wrap (a+2),()) else some (a,())
def Zxa(a:Int)(d b:Bool):Option (Int×Unit):=
 (Z5 a (0:Int) (1152921504606846975:Int)).bind fun e=>
 bif !e.1 then
  some ((-1:Int),())
 else
  Ze (0<=(2:Int))<|
  let c:Int:=IntKind.i64.wrap (a*2^ (min (2:Int).toNat IntKind.i64.bits))
  bif d then
   Zmq b (IntKind.i64.wrap (c+1))
  else
   Zmq b c
def W9:Option (Xl×Unit):=some (((3:Int),(false,())),())
def Znk:Option (Zu×Unit):=some (((0:Int),(((0:Int),(([]:List Z1),())),((-1:Int),((0:Int),((0:Int),()))))),())
def Vq(a:Int):Option (Bool×Unit):=(Qj a).bind fun b=>some (b.1&& ((bits .and .i64 a (2:Int))==2),())
def Zk5(a:Int):Option (Bool×Unit):=(Qj a).bind fun b=>some (b.1&& ((bits .and .i64 a (1:Int))==1),())
def Zdk(c:Bool)(a:Int):Option (Bool×Unit):=(Qj a).bind fun b=>(bif b.1 then(Zk5 a)else some (false,())).bind fun d=>some (b.1&& (d.1==c),())
def Yx(d:Bool)(a:Int):Option (Bool×Unit):=(Qj a).bind fun b=>(bif b.1 then(Vq a)else some (false,())).bind fun c=>(bif(!c.1)then some (false,())else(bif b.1 then(Zdk d a)else some (false,()))).bind fun e=>some (b.1&& ((!c.1)||e.1),())
def Q4(d:Bool)(a:Int):Option (Bool×Unit):=(Qj a).bind fun b=>(bif b.1 then(Vq a)else some (false,())).bind fun c=>(bif(!c.1)then some (false,())else(bif b.1 then(Zdk d a)else some (false,()))).bind fun e=>some (b.1&& ((!c.1)|| (!e.1)),())
def Zrf(a:Int):Option (Yv×Bool×Unit):=(Vs a).bind fun b=>bif !b.1 then some (Qvg,false,()) else Ze (0<=a/\a<=a/\a<=Qo)<|some ((a,((0:Int),((0:Int),(List.replicate a.toNat (0:Int),())))),true,())
def Zc1(b:Int):Option (Zp×Bool×Unit):=(Zrf b).bind fun a=>bif !a.2.1 then some (Za1,false,()) else some (((0:Int),(a.1,(([]:List Zh),(([]:List Zh),(([]:List Zh),((-1:Int),Zpw)))))),true,())
def Je(d:Bool)(a:Int)(b e:Zgp):Option (Zd×Bool×Unit):=(Qj a).bind fun c=>(bif(!c.1)then some (false,())else(Vz b)).bind fun f=>(bif((!c.1)|| (!f.1))then some (false,())else(Vz e)).bind fun g=>bif((!c.1)|| (!f.1))|| (!g.1)then some (Zj,false,()) else Option.bind W9 fun h=>Option.bind Znk fun i=>(Yx d a).bind fun j=>(Q4 d a).bind fun k=>(Zc1 b.1).bind fun l=>(Zc0 e.2.1).bind fun m=>(Zc2 b.2.1 b.2.2.1).bind fun n=>some ((a,(l.1,(m.1,(i.1,(n.1,(h.1,(j.1,(k.1,(false,(false,(false,(false,((0:Int),(false,())))))))))))))),true,())
abbrev Z5b:List PE:=[.val 0 (.slice 67 (Zw)) (.u false),.val 1 (.int .i64) (.u false),.val 5 (.int .i64) (.u false)]
def Ym(a:List Zd)(c b:Int):Nat:=((a.length:Int)-b).toNat+1
def Xw:Nat->List Zd->Int->Int->Option (Int×Unit)|0,_,_,_=>none|N+1,b,c,a=>bif decide (a< (b.length:Int))then Ze (0<=a/\a<b.length)<|bif(b.getD a.toNat Zj).1==c then some (a,()) else Xw N b c (IntKind.i64.wrap (a+1)) else some ((-1:Int),())
def Xv(a:List Zd)(b:Int):Option (Int×Unit):=Xw (Ym a b (0:Int)) a b (0:Int)
abbrev Z8g:List PE:=[.val 0 (.slice 67 (Zw)) (.u false),.box 3 67 (Zw) (.u false),.val 5 (.slice 67 (Zw)) (.u true),.val 6 (.int .i64) (.u false),.val 7 (.bool) (.u false),.val 8 (.int .i64) (.u false),.box 9 67 (Zw) (.u true)]
def Xs(K1: (List Zd×Zd×List Zd×Int×Bool×Int×Unit)->Option (List Zd×Unit))(c:List Zd)(d:Zd)(a:List Zd)(e:Int)(f:Bool)(g:Int)(b:Zd):Option (List Zd×Unit):=Ze (a.length+ ([b]).length<=Qo)<|K1 (c,d,a++ ([b]),e,f,IntKind.i64.wrap (g+1),())
abbrev Z8h:List PE:=[.val 0 (.slice 67 (Zw)) (.u false),.box 3 67 (Zw) (.u false),.val 5 (.slice 67 (Zw)) (.u true),.val 6 (.int .i64) (.u false),.val 7 (.bool) (.u false),.val 8 (.int .i64) (.u false)]
def Vr(a:List Zd)(b:Zd)(c:List Zd)(d:Int)(e:Bool)(i8:Int):Nat:=((a.length:Int)-i8).toNat+1
def Q0:Nat->List Zd->Zd->List Zd->Int->Bool->Int->Option (List Zd×Unit)|0,_,_,_,_,_,_=>none|N+1,a,b,c,e,d,i8=>bif decide (i8< (a.length:Int))then Ze (0<=i8/\i8<a.length)<|(Zaw (a.getD i8.toNat Zj)).bind fun f=>bif i8==e then (Zaw b).bind fun i=>Xs (fun v=>Q0 N v.1 v.2.1 v.2.2.1 v.2.2.2.1 v.2.2.2.2.1 v.2.2.2.2.2.1) a b c e d i8 i.1 else Ze (((!d)=true->(0<=i8/\i8<a.length)))<|bif(!d)&& (decide ((a.getD i8.toNat Zj).1>b.1))then (Zaw b).bind fun g=>Ze (c.length+ ([g.1]).length<=Qo)<|Xs (fun v=>Q0 N v.1 v.2.1 v.2.2.1 v.2.2.2.1 v.2.2.2.2.1 v.2.2.2.2.2.1) a b (c++ ([g.1])) e true i8 f.1 else Xs (fun v=>Q0 N v.1 v.2.1 v.2.2.1 v.2.2.2.1 v.2.2.2.2.1 v.2.2.2.2.2.1) a b c e d i8 f.1 else bif !d then (Zaw b).bind fun h=>Ze (c.length+ ([h.1]).length<=Qo)<|some (c++ ([h.1]),()) else some (c,())
def Ql(b:List Zd)(c:Zd):Option (List Zd×Unit):=(Xv b c.1).bind fun a=>Q0 (Vr b c ([]:List Zd) a.1 (decide (a.1>=(0:Int))) (0:Int)) b c ([]:List Zd) a.1 (decide (a.1>=(0:Int))) (0:Int)
abbrev Z5p:List PE:=[.val 1 (.bool) (.u false),.box 2 37 (Zo) (.u false),.box 5 37 (Zo) (.u true),.box 7 37 (Zo) (.p (.u false) (.p (.u false) (.p (.u false) (.p (.u true) (.p (.u false) (.p (.u false) (.p (.u false) (.p (.u false) (.u true))))))))),.val 9 (.int .i64) (.u false),.val 11 (.bool) (.u false)]
def Wv(d:Bool)(b i a:Zf)(e:Int)(f:Bool):Option (Int×Zf×Bool×Unit):=bif !f then some ((-1:Int),a,false,()) else (Zxa e b.1 d).bind fun c=>(Je b.1 c.1 b.2.1 b.2.2.1).bind fun g=>(Ql a.2.2.2.1 g.1).bind fun h=>some (c.1,(a.1,(a.2.1,(a.2.2.1,(h.1,a.2.2.2.2)))),true,())
abbrev Z5o:List PE:=[.val 1 (.bool) (.u false),.box 2 37 (Zo) (.u false),.box 5 37 (Zo) (.u true),.box 7 37 (Zo) (.u true),.box 8 32 (Zdg) (.u false)]
def Wu(c:Bool)(d e a:Zf)(f:Zdh):Option (Int×Zf×Bool×Unit):=(Zst f).bind fun b=>bif c then Wv c d e (a.1,(a.2.1,(a.2.2.1,(a.2.2.2.1,(a.2.2.2.2.1,(a.2.2.2.2.2.1,(a.2.2.2.2.2.2.1,(b.2.1,a.2.2.2.2.2.2.2.2)))))))) b.1 b.2.2.1 else Wv c d e (a.1,(a.2.1,(a.2.2.1,(a.2.2.2.1,(a.2.2.2.2.1,(a.2.2.2.2.2.1,(b.2.1,a.2.2.2.2.2.2.2))))))) b.1 b.2.2.1
def Zgk(a:Zf)(b:Bool):Option (Int×Zf×Bool×Unit):=(Z4 a).bind fun c=>(Jx a).bind fun d=>bif(!d.1)|| (decide ((a.2.2.2.1.length:Int)>=(24:Int)))then some ((-1:Int),c.1,false,()) else bif b then Wu b a Vg c.1 a.2.2.2.2.2.2.2.1 else Wu b a Vg c.1 a.2.2.2.2.2.2.1
def Zp6(c:Qb)(b:List (List UInt8)):Option ((List UInt8×Unit)×(Qb×Unit)):=(Z7 c (b.length:Int)).bind fun a=>Ze (0<=a.1.1/\a.1.1<b.length)<|some ((b.getD a.1.1.toNat ([]:List UInt8),()),(a.2.1,()))
abbrev Qkl:List PE:=[.box 0 112 (V0) (.u false),.val 5 (.str) (.u false),.val 6 (.int .i64) (.u false)]
def Zif(b:Qb)(c:List UInt8)(a:Int):Nat:=(a-0).toNat+1
def Zju:Nat->Qb->List UInt8->Int->Option ((List UInt8×Unit)×(Qb×Unit))|0,_,_,_=>none|N+1,c,a,d=>bif decide (d>(0:Int))then (Zp6 c ([([97]:List UInt8),([98]:List UInt8),([99]:List UInt8),([100]:List UInt8)])).bind fun b=>Ze (a.length+b.1.1.length<=Ka)<|Zju N b.2.1 (a++b.1.1) (IntKind.i64.wrap (d-1)) else some ((a,()),(c,()))
def Zj5(b:Qb)(c:Int):Option ((List UInt8×Unit)×(Qb×Unit)):=(Z7 b (IntKind.i64.wrap (c+1))).bind fun a=>Zju (Zif a.2.1 ([]:List UInt8) a.1.1) a.2.1 ([]:List UInt8) a.1.1
def Qy(b:Zf)(c:Int):Option (Zd×Bool×Unit):=(Xv b.2.2.2.1 c).bind fun a=>bif decide (a.1< (0:Int))then some (Zj,false,()) else Ze (0<=a.1/\a.1<b.2.2.2.1.length)<|(Zaw (b.2.2.2.1.getD a.1.toNat Zj)).bind fun d=>some (d.1,true,())
def Z5r(a:Yv):Option (Int×Unit):=(Zad a).bind fun b=>bif !b.1 then some ((0:Int),()) else some (min (IntKind.i64.wrap (a.1- (IntKind.i64.wrap (a.2.2.1-a.2.1)))) (IntKind.i64.wrap ((4611686018427387903:Int)-a.2.2.1)),())
abbrev Z8m:List PE:=[.val 1 (.str) (.u false),.box 2 55 (Vx) (.u false),.box 4 55 (Vx) (.u true),.box 6 55 (Vx) (.u true),.val 7 (.int .i64) (.u false),.val 8 (.int .i64) (.u false)]
def Zed(b:List UInt8)(c d e:Yv)(a i8:Int):Nat:=(a-i8).toNat+1
def Zav:Nat->List UInt8->Yv->Yv->Yv->Int->Int->Option (Yv×Int×Unit)
 |0,_,_,_,_,_,_=>none
 |N+1,d,b,f,a,c,i8=>
  bif decide (i8<c)then
   Ze (b.1≠0)<|
   let e:Int:=Int.tmod (IntKind.i64.wrap (b.2.2.1+i8)) b.1
   Ze (0<=i8/\i8<d.length)<|
   Ze (0<=e/\e<a.2.2.2.1.length)<|
   Zav N d b f (a.1,(a.2.1,(a.2.2.1,(a.2.2.2.1.set e.toNat (IntKind.i64.wrap ((d.getD i8.toNat 0).toNat:Int)),a.2.2.2.2)))) c (IntKind.i64.wrap (i8+1))
  else
   some ((a.1,(a.2.1,(IntKind.i64.wrap (b.2.2.1+c),a.2.2.2))),c,())
def Zrj(a:Yv)(b:List UInt8):Option (Yv×Int×Unit):=(Zp8 a).bind fun c=>(Z5r a).bind fun d=>Zav (Zed b a Qvg c.1 (min d.1 (b.length:Int)) (0:Int)) b a Qvg c.1 (min d.1 (b.length:Int)) (0:Int)
abbrev Z24:List PE:=[.box 4 58 (Z6) (.u true),.box 6 58 (Z6) (.p (.u false) (.u true)),.box 7 55 (Vx) (.u true),.val 8 (.int .i64) (.u false)]
def Zid(d a:Zp)(b:Yv)(c:Int):Option (Zp×Int×Unit):=some ((a.1,(b,a.2.2)),c,())
def Znl(a:Zp)(d:List UInt8):Option (Zp×Int×Unit):=(Zc7 a).bind fun c=>(Yb a).bind fun e=>bif((!e.1)|| (decide (a.1>(1:Int))))|| (a.2.2.2.2.2.1 !=(-1:Int))then some (c.1,(0:Int),()) else (Zrj a.2.1 d).bind fun b=>bif decide (b.2.1>(0:Int))then (Zal a.2.2.1 (a.2.1.2.2.1,(b.1.2.2.1,()))).bind fun f=>Zid Za1 (c.1.1,(c.1.2.1,(f.1,c.1.2.2.2))) b.1 b.2.1 else Zid Za1 c.1 b.1 b.2.1
def Zey(c:Zf)(e:Int)(f:List UInt8):Option (Int×Zf×Unit):=(Z4 c).bind fun a=>(Qy c e).bind fun b=>(Jx c).bind fun g=>bif((!g.1)|| (!b.2.1))|| (!b.1.2.2.2.2.2.2.1)then some ((0:Int),a.1,()) else (Znl b.1.2.1 f).bind fun d=>(Ql a.1.2.2.2.1 (b.1.1,(d.1,b.1.2.2))).bind fun h=>some (d.2.1,(a.1.1,(a.1.2.1,(a.1.2.2.1,(h.1,a.1.2.2.2.2)))),())
def Zng(b:Zp):Option (Zp×Bool×Unit):=(Zc7 b).bind fun a=>(Yb b).bind fun c=>bif((!c.1)|| (decide (b.1>(1:Int))))|| (b.2.2.2.2.2.1 !=(-1:Int))then some (a.1,false,()) else some ((a.1.1,(a.1.2.1,(a.1.2.2.1,(a.1.2.2.2.1,(a.1.2.2.2.2.1,(b.2.1.2.2.1,((1:Int),a.1.2.2.2.2.2.2.2))))))),true,())
def Zdf(c:Zf)(e:Int):Option (Zf×Bool×Unit):=(Z4 c).bind fun a=>(Qy c e).bind fun b=>(Jx c).bind fun f=>bif((!f.1)|| (!b.2.1))|| (!b.1.2.2.2.2.2.2.1)then some (a.1,false,()) else (Zng b.1.2.1).bind fun d=>bif !d.2.1 then some (a.1,false,()) else (Ql a.1.2.2.2.1 (b.1.1,(d.1,b.1.2.2))).bind fun g=>some ((a.1.1,(a.1.2.1,(a.1.2.2.1,(g.1,a.1.2.2.2.2)))),true,())
def Zri(e:Zs)(b:Int):Option (List UInt8×Zs×Unit):=
 (Zbf e).bind fun c=>
 (Zj6 e).bind fun a=>
 bif(min c.1 (max b (0:Int)))==0 then
  some (([]:List UInt8),a.1,())
 else
  Ze (0<=(0:Int)/\(0:Int)<a.1.2.1.length)<|
  let d:Int:=IntKind.i64.wrap (a.1.1+ (min c.1 (max b (0:Int))))
  bif(min c.1 (max b (0:Int)))==((a.1.2.1.getD (0:Int).toNat Qf).2.1.length:Int)then
   Ze (0<=(1:Int)/\(1:Int)<=(a.1.2.1.length:Int)/\(a.1.2.1.length:Int)<=a.1.2.1.length)<|
   (Zj6 (d,((a.1.2.1.drop (1:Int).toNat).take ((a.1.2.1.length:Int).toNat- (1:Int).toNat),a.1.2.2))).bind fun f=>
   some ((a.1.2.1.getD (0:Int).toNat Qf).2.1,f.1,())
  else
   Ze (0<=(min c.1 (max b (0:Int)))/\(min c.1 (max b (0:Int)))<=((a.1.2.1.getD (0:Int).toNat Qf).2.1.length:Int)/\((a.1.2.1.getD (0:Int).toNat Qf).2.1.length:Int)<=(a.1.2.1.getD (0:Int).toNat Qf).2.1.length)<|
   Ze (0<=(0:Int)/\(0:Int)<a.1.2.1.length)<|
   Ze (0<=(0:Int)/\(0:Int)<=(min c.1 (max b (0:Int)))/\(min c.1 (max b (0:Int)))<=(a.1.2.1.getD (0:Int).toNat Qf).2.1.length)<|
   some (((a.1.2.1.getD (0:Int).toNat Qf).2.1.drop (0:Int).toNat).take ((min c.1 (max b (0:Int))).toNat- (0:Int).toNat),(d,(a.1.2.1.set (0:Int).toNat (d,(((a.1.2.1.getD (0:Int).toNat Qf).2.1.drop (min c.1 (max b (0:Int))).toNat).take (((a.1.2.1.getD (0:Int).toNat Qf).2.1.length:Int).toNat- (min c.1 (max b (0:Int))).toNat),())),a.1.2.2)),())
abbrev Z1d:List PE:=[.box 5 63 (Z8) (.u true),.box 6 63 (Z8) (.u false),.val 7 (.str) (.u false)]
def Zg7(c a:Zu)(b:List UInt8):Option ((List UInt8×Zu×Unit)×(Unit)):=some ((b,(a,())),())
def Zl1(a:Zu)(d:Int):Option ((List UInt8×Zu×Unit)×(Unit)):=(Zhg a).bind fun b=>(Xc a).bind fun e=>bif !e.1 then some ((([]:List UInt8),(b.1,())),()) else bif a.1==4 then some ((([]:List UInt8),(((5:Int),b.1.2),())),()) else (Zri a.2.1 d).bind fun c=>bif(a.1==2)&& (c.2.1.1==a.2.2.1)then Zg7 Znu ((3:Int),(c.2.1,b.1.2.2)) c.1 else Zg7 Znu (b.1.1,(c.2.1,b.1.2.2)) c.1
def Zfs(a:Qw)(b:Int):Option (Qw×Bool×Unit):=(V8 a).bind fun c=>bif((!c.1)|| (decide (b< (0:Int))))|| (decide (b>(IntKind.i64.wrap (a.2.2.2.1-a.2.2.2.2.1))))then some (a,false,()) else some ((a.1,(a.2.1,(a.2.2.1,(a.2.2.2.1,(IntKind.i64.wrap (a.2.2.2.2.1+b),a.2.2.2.2.2))))),true,())
def Zhb(a:Zf)(b:Zd)(d:Int):Option ((Unit)×(Zf×Zd×Unit)):=
 let c:Int:=max (0:Int) (IntKind.i64.wrap (d-b.2.2.2.2.1.2.2.2.2.1))
 (Zfs b.2.2.2.2.1 c).bind fun e=>
 (Zfs a.2.2.2.2.2.1 c).bind fun f=>
 some ((),((a.1,(a.2.1,(a.2.2.1,(a.2.2.2.1,(a.2.2.2.2.1,(f.1,a.2.2.2.2.2.2)))))),((b.1,(b.2.1,(b.2.2.1,(b.2.2.2.1,(e.1,b.2.2.2.2.2))))),())))
def Zo5(a:Zd):Option (Bool×Unit):=some (((!a.2.2.2.2.2.2.1)|| (a.2.1.1==3))|| (a.2.1.1==5),())
def Zk3(a:Zu):Option (Bool×Unit):=(Xc a).bind fun b=>some (b.1&& ((a.1==3)|| (a.1==5)),())
def Zk4(a:Zd):Option (Bool×Unit):=(bif(!a.2.2.2.2.2.2.2.1)then some (false,())else(Zk3 a.2.2.2.1)).bind fun b=>some ((!a.2.2.2.2.2.2.2.1)||b.1,())
def Zmp(a:Zd):Option (Bool×Unit):=(Zcp a).bind fun b=>(bif b.1 then(Zo5 a)else some (false,())).bind fun c=>(bif(b.1&&c.1)then(Zk4 a)else some (false,())).bind fun d=>some ((b.1&&c.1)&&d.1,())
def Zcn(a:Q8):Option (Q8×Bool×Unit):=(Vp a).bind fun b=>bif(!b.1)|| (a.2.2.2.1==a.2.2.1)then some (a,false,()) else some ((a.1,(a.2.1,(a.2.2.1,(IntKind.i64.wrap (a.2.2.2.1+1),a.2.2.2.2)))),true,())
def Zkk(b:Zf)(a:Zd):Option ((Unit)×(Zf×Zd×Unit)):=(bif a.2.2.2.2.2.2.2.2.2.2.2.2.2.1 then some (false,())else(Zdk b.1 a.1)).bind fun c=>(bif(a.2.2.2.2.2.2.2.2.2.2.2.2.2.1||c.1)then some (false,())else(Zmp a)).bind fun d=>bif(a.2.2.2.2.2.2.2.2.2.2.2.2.2.1||c.1)|| (!d.1)then some ((),(b,(a,()))) else (Vq a.1).bind fun e=>bif e.1 then (Zcn b.2.2.2.2.2.2.2.2.2.1).bind fun f=>some ((),((b.1,(b.2.1,(b.2.2.1,(b.2.2.2.1,(b.2.2.2.2.1,(b.2.2.2.2.2.1,(b.2.2.2.2.2.2.1,(b.2.2.2.2.2.2.2.1,(b.2.2.2.2.2.2.2.2.1,(f.1,b.2.2.2.2.2.2.2.2.2.2)))))))))),((a.1,(a.2.1,(a.2.2.1,(a.2.2.2.1,(a.2.2.2.2.1,(a.2.2.2.2.2.1,(a.2.2.2.2.2.2.1,(a.2.2.2.2.2.2.2.1,(a.2.2.2.2.2.2.2.2.1,(a.2.2.2.2.2.2.2.2.2.1,(a.2.2.2.2.2.2.2.2.2.2.1,(a.2.2.2.2.2.2.2.2.2.2.2.1,(a.2.2.2.2.2.2.2.2.2.2.2.2.1,(true,a.2.2.2.2.2.2.2.2.2.2.2.2.2.2)))))))))))))),()))) else (Zcn b.2.2.2.2.2.2.2.2.1).bind fun g=>some ((),((b.1,(b.2.1,(b.2.2.1,(b.2.2.2.1,(b.2.2.2.2.1,(b.2.2.2.2.2.1,(b.2.2.2.2.2.2.1,(b.2.2.2.2.2.2.2.1,(g.1,b.2.2.2.2.2.2.2.2.2))))))))),((a.1,(a.2.1,(a.2.2.1,(a.2.2.2.1,(a.2.2.2.2.1,(a.2.2.2.2.2.1,(a.2.2.2.2.2.2.1,(a.2.2.2.2.2.2.2.1,(a.2.2.2.2.2.2.2.2.1,(a.2.2.2.2.2.2.2.2.2.1,(a.2.2.2.2.2.2.2.2.2.2.1,(a.2.2.2.2.2.2.2.2.2.2.2.1,(a.2.2.2.2.2.2.2.2.2.2.2.2.1,(true,a.2.2.2.2.2.2.2.2.2.2.2.2.2.2)))))))))))))),())))
def Jw(b:Zf)(c:Zd):Option ((Unit)×(Zf×Unit)):=(Zkk b c).bind fun a=>(Ql a.2.1.2.2.2.1 a.2.2.1).bind fun d=>some ((),((a.2.1.1,(a.2.1.2.1,(a.2.1.2.2.1,(d.1,a.2.1.2.2.2.2)))),()))
abbrev Z5q:List PE:=[.box 8 37 (Zo) (.u true),.box 9 37 (Zo) (.p (.u true) (.p (.p (.u true) (.p (.u true) (.p (.u true) (.p (.u true) (.p (.u true) (.p (.u true) (.p (.u true) (.p (.u true) (.u true))))))))) (.p (.p (.u true) (.p (.u true) (.p (.u true) (.p (.u true) (.p (.u true) (.p (.u true) (.p (.u true) (.p (.u true) (.u true))))))))) (.p (.u false) (.p (.p (.u true) (.p (.u true) (.p (.u true) (.p (.u true) (.u true))))) (.p (.p (.u true) (.p (.u true) (.p (.u true) (.p (.u true) (.p (.u true) (.p (.u true) (.u true))))))) (.p (.p (.u true) (.p (.u true) (.p (.u true) (.u true)))) (.p (.p (.u true) (.p (.u true) (.p (.u true) (.u true)))) (.p (.p (.u true) (.p (.u true) (.p (.u true) (.p (.u true) (.u true))))) (.p (.p (.u true) (.p (.u true) (.p (.u true) (.p (.u true) (.u true))))) (.p (.u true) (.p (.u true) (.p (.u true) (.p (.u true) (.p (.u true) (.p (.u false) (.p (.u true) (.p (.u true) (.u true))))))))))))))))))),.box 10 67 (Zw) (.u false),.val 12 (.str) (.u false),.box 13 63 (Z8) (.u false)]
def Ww(f b:Zf)(c:Zd)(d:List UInt8)(a:Zu):Option ((List UInt8×Bool×Zf×Unit)×(Unit)):=(Jw b c).bind fun e=>some ((d,((a.1==3)|| (a.1==5),(e.2.1,()))),())
def Zgl(c:Zf)(f g:Int):Option ((List UInt8×Bool×Zf×Unit)×(Unit)):=(Z4 c).bind fun d=>(Qy c f).bind fun a=>(Jx c).bind fun h=>bif((!h.1)|| (!a.2.1))|| (!a.1.2.2.2.2.2.2.2.1)then some ((([]:List UInt8),(false,(d.1,()))),()) else (Zl1 a.1.2.2.2.1 g).bind fun b=>bif decide (b.1.2.1.1< (4:Int))then (Zhb d.1 (a.1.1,(a.1.2.1,(a.1.2.2.1,(b.1.2.1,a.1.2.2.2.2)))) b.1.2.1.2.1.1).bind fun e=>Ww Vg e.2.1 e.2.2.1 b.1.1 b.1.2.1 else Ww Vg d.1 (a.1.1,(a.1.2.1,(a.1.2.2.1,(b.1.2.1,a.1.2.2.2.2)))) b.1.1 b.1.2.1
abbrev Z23:List PE:=[.val 1 (.int .i64) (.u false),.box 2 58 (Z6) (.u false),.box 4 58 (Z6) (.u true),.box 6 55 (Vx) (.p (.u false) (.p (.u false) (.p (.u false) (.p (.u true) (.u false)))))]
def Zn5(b:Int)(a d:Zp)(c:Yv):Option (Zp×Bool×Unit):=some (((4:Int),(c,(([]:List Zh),(([]:List Zh),(([]:List Zh),(a.2.2.2.2.2.2.2.1,((0:Int),(a.2.2.2.2.2.2.2.1,(b,()))))))))),true,())
def Zae(a:Zp)(b:Int):Option (Zp×Bool×Unit):=
 (Yb a).bind fun d=>
 let c:Bool:=(!d.1)|| (decide (a.1>(2:Int)))
 (bif c then some (false,())else(Qj b)).bind fun e=>
 bif c|| (!e.1)then
  (Zc7 a).bind fun f=>
  some (f.1,false,())
 else
  Zeh (
   Ze (0<=a.2.1.1/\a.2.1.1<=a.2.1.1/\a.2.1.1<=Qo)<|
   Zkp 1 (
    Zn5 b a Za1 (a.2.1.1,(a.2.2.2.2.2.2.2.1,(a.2.2.2.2.2.2.2.1,(List.replicate a.2.1.1.toNat (0:Int),()))))
   )
  ) (
   Ze (0<=a.2.1.1/\a.2.1.1<=a.2.1.1/\a.2.1.1<=Qo)<|
   Zn5 b a Za1 (a.2.1.1,(a.2.2.2.2.2.2.2.1,(a.2.2.2.2.2.2.2.1,(List.replicate a.2.1.1.toNat (0:Int),()))))
  )
def Zew(b:Zf)(e f:Int):Option ((Zf×Bool×Unit)×(Unit)):=(Z4 b).bind fun c=>(Qy b e).bind fun a=>(Jx b).bind fun g=>bif((!g.1)|| (!a.2.1))|| (!a.1.2.2.2.2.2.2.1)then some ((c.1,(false,())),()) else (Zae a.1.2.1 f).bind fun d=>bif !d.2.1 then some ((c.1,(false,())),()) else Option.bind (Jw c.1 (a.1.1,(d.1,(a.1.2.2.1,(a.1.2.2.2.1,(a.1.2.2.2.2.1,(a.1.2.2.2.2.2.1,(a.1.2.2.2.2.2.2.1,(a.1.2.2.2.2.2.2.2.1,(true,a.1.2.2.2.2.2.2.2.2.2)))))))))) fun h=>some ((h.2.1,(true,())),())
abbrev Qke:List PE:=[.val 0 (.str) (.u false),.val 1 (.int .u8) (.u false),.val 5 (.slice 9 (.str)) (.u true),.val 6 (.str) (.u false),.val 7 (.int .i64) (.u false)]
def Zmt(K1: (List UInt8×Int×List (List UInt8)×List UInt8×Int×Unit)->Option (List (List UInt8)×Unit))(a:List UInt8)(b:Int)(c:List (List UInt8))(d:List UInt8)(e:Int):Option (List (List UInt8)×Unit):=K1 (a,b,c,d,IntKind.i64.wrap (e+1),())
abbrev Qkf:List PE:=[.val 0 (.str) (.u false),.val 1 (.int .u8) (.u false),.val 5 (.slice 9 (.str)) (.u true),.val 6 (.str) (.u false),.val 7 (.int .i64) (.u false)]
def Zn6(a:List UInt8)(c:Int)(d:List (List UInt8))(e:List UInt8)(b:Int):Nat:=((a.length:Int)-b).toNat+1
def Zjo:Nat->List UInt8->Int->List (List UInt8)->List UInt8->Int->Option (List (List UInt8)×Unit)
 |0,_,_,_,_,_=>none
 |N+1,b,e,d,c,a=>
  bif decide (a< (b.length:Int))then
   Ze (0<=a/\a<b.length)<|
   bif((b.getD a.toNat 0).toNat:Int)==e then
    Ze (d.length+ ([c]).length<=Qo)<|
    Zmt (fun v=>Zjo N v.1 v.2.1 v.2.2.1 v.2.2.2.1 v.2.2.2.2.1) b e (d++ ([c])) ([]:List UInt8) a
   else
    Ze (0<=a/\a<=(IntKind.i64.wrap (a+1))/\(IntKind.i64.wrap (a+1))<=b.length)<|
    let f:List UInt8:=(b.drop a.toNat).take ((IntKind.i64.wrap (a+1)).toNat-a.toNat)
    Ze (c.length+f.length<=Ka)<|
    Zmt (fun v=>Zjo N v.1 v.2.1 v.2.2.1 v.2.2.2.1 v.2.2.2.2.1) b e d (c++f) a
  else
   Ze (d.length+ ([c]).length<=Qo)<|
   some (d++ ([c]),())
def Zxb(a:List UInt8)(b:Int):Option (List (List UInt8)×Unit):=Zjo (Zn6 a b ([]:List (List UInt8)) ([]:List UInt8) (0:Int)) a b ([]:List (List UInt8)) ([]:List UInt8) (0:Int)
abbrev Qgq:List PE:=[.val 0 (.str) (.u false)]
def Zmv(a:List UInt8):Nat:=((a.length:Int)- (0:Int)).toNat+1
def Zk7:Nat->List UInt8->Option (List UInt8×Unit)
 |0,_=>none
 |N+1,a=>
  let b:Int:=IntKind.i64.wrap ((a.length:Int)- (1:Int))
  Ze (((decide ((a.length:Int)>(0:Int)))=true->(0<=b/\b<a.length)))<|
  bif(decide ((a.length:Int)>(0:Int)))&& (((a.getD b.toNat 0).toNat:Int)==(32:Int))then
   let c:Int:=IntKind.i64.wrap ((a.length:Int)- (1:Int))
   Ze (0<=(0:Int)/\(0:Int)<=c/\c<=a.length)<|
   Zk7 N ((a.drop (0:Int).toNat).take (c.toNat- (0:Int).toNat))
  else
   some (a,())
abbrev Qgp:List PE:=[.val 0 (.str) (.u false)]
def Zmu(a:List UInt8):Nat:=((a.length:Int)- (0:Int)).toNat+1
def Zk6:Nat->List UInt8->Option (List UInt8×Unit)|0,_=>none|N+1,a=>Ze (((decide ((a.length:Int)>(0:Int)))=true->(0<=(0:Int)/\(0:Int)<a.length)))<|bif(decide ((a.length:Int)>(0:Int)))&& (((a.getD (0:Int).toNat 0).toNat:Int)==(32:Int))then Ze (0<=(1:Int)/\(1:Int)<=(a.length:Int)/\(a.length:Int)<=a.length)<|Zk6 N ((a.drop (1:Int).toNat).take ((a.length:Int).toNat- (1:Int).toNat)) else Zk7 (Zmv a) a
def Zut(a:List UInt8):Option (List UInt8×Unit):=Zk6 (Zmu a) a
abbrev Zzo:List PE:=[.box 2 65 (Y5) (.u false),.box 4 65 (Y5) (.u false),.val 5 (.slice 9 (.str)) (.u true),.val 6 (.int .i64) (.u false)]
def Jr(K1: (Xl×Xl×List (List UInt8)×Int×Unit)->Option (Xl×Unit))(a b:Xl)(c:List (List UInt8))(d:Int):Option (Xl×Unit):=K1 (a,b,c,IntKind.i64.wrap (d+1),())
abbrev Zzp:List PE:=[.box 2 65 (Y5) (.u false),.box 4 65 (Y5) (.u false),.val 5 (.slice 9 (.str)) (.u true),.val 6 (.int .i64) (.u false)]
def Zfo(c d:Xl)(a:List (List UInt8))(b:Int):Nat:=((a.length:Int)-b).toNat+1
def Yk:Nat->Xl->Xl->List (List UInt8)->Int->Option (Xl×Unit)
 |0,_,_,_,_=>none
 |N+1,c,e,d,b=>
  bif decide (b< (d.length:Int))then
   Ze (0<=b/\b<d.length)<|
   (Zut (d.getD b.toNat ([]:List UInt8))).bind fun a=>
   bif(a.1==([105]:List UInt8))|| (a.1==([105,61,63,49]:List UInt8))then
    Jr (fun v=>Yk N v.1 v.2.1 v.2.2.1 v.2.2.2.1) (c.1,(true,c.2.2)) e d b
   else
    bif a.1==([105,61,63,48]:List UInt8)then
     Jr (fun v=>Yk N v.1 v.2.1 v.2.2.1 v.2.2.2.1) (c.1,(false,c.2.2)) e d b
    else
     Ze ((((a.1.length:Int)==(3:Int))=true->(0<=(0:Int)/\(0:Int)<=(2:Int)/\(2:Int)<=a.1.length)))<|
     let f:Bool:=((a.1.length:Int)==(3:Int))&& (((a.1.drop (0:Int).toNat).take ((2:Int).toNat- (0:Int).toNat))==([117,61]:List UInt8))
     Ze ((f=true->(0<=(2:Int)/\(2:Int)<a.1.length)))<|
     let g:Bool:=f&& (decide (((a.1.getD (2:Int).toNat 0).toNat:Int)>=(48:Int)))
     Ze ((g=true->(0<=(2:Int)/\(2:Int)<a.1.length)))<|
     bif g&& (decide (((a.1.getD (2:Int).toNat 0).toNat:Int)<=(55:Int)))then
      Ze (0<=(2:Int)/\(2:Int)<a.1.length)<|
      Jr (fun v=>Yk N v.1 v.2.1 v.2.2.1 v.2.2.2.1) (IntKind.i64.wrap (IntKind.u8.wrap (((a.1.getD (2:Int).toNat 0).toNat:Int)- (48:Int))),c.2) e d b
     else
      Jr (fun v=>Yk N v.1 v.2.1 v.2.2.1 v.2.2.2.1) c e d b
  else
   some (c,())
abbrev Zzn:List PE:=[.val 1 (.str) (.u false),.box 2 65 (Y5) (.u false),.box 4 65 (Y5) (.u false)]
def Zb3(d:List UInt8)(a b:Xl):Option (Xl×Unit):=(Zxb d (44:Int)).bind fun c=>Yk (Zfo a b c.1 (0:Int)) a b c.1 (0:Int)
def Zkj(a:Xl)(b:List UInt8):Option (Xl×Unit):=(Zbe a).bind fun c=>bif !c.1 then Option.bind W9 fun d=>Zb3 b d.1 ((0:Int),(false,())) else Zb3 b a ((0:Int),(false,()))
def Zex(c:Zf)(d:Int)(e:List UInt8):Option (Zf×Bool×Unit):=(Z4 c).bind fun b=>(Qy c d).bind fun a=>(Jx c).bind fun f=>bif((!f.1)|| (!a.2.1))|| (!a.1.2.2.2.2.2.2.1)then some (b.1,false,()) else (Zkj a.1.2.2.2.2.2.1 e).bind fun g=>Option.bind (Ql b.1.2.2.2.1 (a.1.1,(a.1.2.1,(a.1.2.2.1,(a.1.2.2.2.1,(a.1.2.2.2.2.1,(g.1,a.1.2.2.2.2.2.2))))))) fun h=>some ((b.1.1,(b.1.2.1,(b.1.2.2.1,(h.1,b.1.2.2.2.2)))),true,())
def Zjg(a:Qw):Option (Bool×Unit):=
 (V8 a).bind fun c=>
 let b:Bool:=c.1&& (decide (a.2.2.1< (4611686018427387903:Int)))
 Ze ((b=true->((2:Int)≠0)))<|
 some (b&& (decide ((IntKind.i64.wrap ((IntKind.i64.wrap (a.2.2.2.2.1+a.1))-a.2.2.1))>=(IntKind.i64.wrap (Int.tdiv (IntKind.i64.wrap (a.1+1)) (2:Int))))),())
abbrev Z2x:List PE:=[.val 1 (.int .i64) (.u false),.box 3 30 (Yo) (.u false),.box 6 30 (Yo) (.u false)]
def Zib(b:Int)(a c:Qw):Option (Qw×Bool×Unit):=some ((a.1,(a.2.1,(min (IntKind.i64.wrap (a.2.2.2.2.1+a.1)) (4611686018427387903:Int),(a.2.2.2.1,(a.2.2.2.2.1,(b,a.2.2.2.2.2.2)))))),true,())
def Zjn(a:Qw)(b d:Int):Option (Qw×Bool×Unit):=(Zjg a).bind fun c=>(bif(!c.1)then some (false,())else(Z5 b a.2.2.2.2.2.1 (1000000:Int))).bind fun e=>(bif((!c.1)|| (!e.1))then some (false,())else(Z5 d (1:Int) (1000:Int))).bind fun f=>bif((!c.1)|| (!e.1))|| (!f.1)then some (a,false,()) else bif decide ((IntKind.i64.wrap (b-a.2.2.2.2.2.1))< (IntKind.i64.wrap ((2:Int)*d)))then Zib b (min (IntKind.i64.wrap ((2:Int)*a.1)) a.2.1,a.2) Qop else Zib b a Qop
def Zoq(a:Zf):Option (Qw×Bool×Unit):=(Zjg a.2.2.2.2.2.1).bind fun c=>bif c.1 then (Zjn a.2.2.2.2.2.1 a.2.2.2.2.2.2.2.2.2.2.2.2.2.2.2.2.1 a.2.1.2.2.2.2.2.2.2.1).bind fun b=>some (b.1,b.2.1,()) else some (a.2.2.2.2.2.1,a.2.2.2.2.2.2.2.2.2.2.1,())
def Zmr(a:Q8):Option (Bool×Unit):=(Vp a).bind fun b=>Ze ((b.1=true->((2:Int)≠0)))<|some ((b.1&& (decide ((IntKind.i64.wrap ((IntKind.i64.wrap (a.2.2.2.1+a.1))-a.2.1))>=(IntKind.i64.wrap (Int.tdiv (IntKind.i64.wrap (a.1+1)) (2:Int))))))&& (decide (a.1>(0:Int))),())
def Zo8(a:Q8):Option (Q8×Bool×Unit):=(Zmr a).bind fun b=>bif(!b.1)|| (decide ((IntKind.i64.wrap (a.2.2.2.1+a.1))>1152921504606846976))then some (a,false,()) else some ((a.1,(IntKind.i64.wrap (a.2.2.2.1+a.1),a.2.2)),true,())
def Zhw(a:Q8)(c:Bool):Option (Q8×Bool×Unit):=(Zmr a).bind fun d=>bif d.1 then (Zo8 a).bind fun b=>some (b.1,b.2.1,()) else some (a,c,())
def Zm3(b:Zf)(a:Zd):Option (Qw×Bool×Unit):=bif((!a.2.2.2.2.2.2.2.1)|| (a.2.2.2.1.1 !=0))||a.2.2.2.2.2.2.2.2.2.2.2.1 then some (a.2.2.2.2.1,false,()) else (Zjg a.2.2.2.2.1).bind fun d=>bif d.1 then (Zjn a.2.2.2.2.1 b.2.2.2.2.2.2.2.2.2.2.2.2.2.2.2.2.1 b.2.1.2.2.2.2.2.2.2.1).bind fun c=>some (c.1,c.2.1,()) else some (a.2.2.2.2.1,a.2.2.2.2.2.2.2.2.2.2.1,())
def Zom(a:Q8):Option (Bool×Unit):=(Yn a).bind fun b=>some (b.1&& (a.2.2.1==a.1),())
abbrev Z8q:List PE:=[.box 3 67 (Zw) (.u false),.val 5 (.slice 50 (Zq)) (.u true)]
def Zhe(a:Zd)(b:List Zi):Option (List Zi×Unit):=
 (Zom a.2.2.1).bind fun d=>
 bif(d.1&&a.2.2.2.2.2.2.1)&& (decide ((a.2.1.2.2.1.length:Int)>(0:Int)))then
  let c:List Zi:=[((21:Int),(a.1,((0:Int),(([]:List UInt8),(false,((0:Int),(a.2.2.1.1,((0:Int),(false,())))))))))]
  Ze (b.length+c.length<=Qo)<|
  some (b++c,())
 else
  some (b,())
abbrev Z8p:List PE:=[.box 2 37 (Zo) (.u false),.box 3 67 (Zw) (.u false),.val 5 (.slice 50 (Zq)) (.u true)]
def Zhd(e:Zf)(a:Zd)(b:List Zi):Option (List Zi×Unit):=
 (Zm3 e a).bind fun c=>
 bif c.2.1 then
  let d:List Zi:=[((17:Int),(a.1,((0:Int),(([]:List UInt8),(false,((0:Int),(c.1.2.2.1,((0:Int),(false,())))))))))]
  Ze (b.length+d.length<=Qo)<|
  Zhe a (b++d)
 else
  Zhe a b
abbrev Z8o:List PE:=[.box 2 37 (Zo) (.u false),.box 3 67 (Zw) (.u false),.val 5 (.slice 50 (Zq)) (.u true)]
def Zhc(c:Zf)(a:Zd)(b:List Zi):Option (List Zi×Unit):=
 bif a.2.2.2.2.2.2.2.2.2.1&& (decide (a.2.2.2.1.1< (2:Int)))then
  let d:List Zi:=[((5:Int),(a.1,((0:Int),(([]:List UInt8),(false,(a.2.2.2.2.2.2.2.2.2.2.2.2.1,((0:Int),((0:Int),(false,())))))))))]
  Ze (b.length+d.length<=Qo)<|
  Zhd c a (b++d)
 else
  Zhd c a b
def Zrl(b:Zf)(a:Zd):Option (List Zi×Unit):=
 bif a.2.2.2.2.2.2.2.2.1 then
  let c:List Zi:=[((4:Int),(a.1,((0:Int),(([]:List UInt8),(false,(a.2.1.2.2.2.2.2.2.2.2.1,((0:Int),(a.2.1.2.2.2.2.2.2.2.1,(false,())))))))))]
  Ze (([]:List Zi).length+c.length<=Qo)<|
  Zhc b a (([]:List Zi)++c)
 else
  Zhc b a ([]:List Zi)
abbrev Zzg:List PE:=[.box 1 37 (Zo) (.u false),.val 3 (.slice 50 (Zq)) (.u true)]
def Zbx(a:Zf)(b:List Zi):Option (List Zi×Unit):=
 bif a.2.2.2.2.2.2.2.1.2.2.1==a.2.2.2.2.2.2.2.1.1 then
  let c:List Zi:=[((22:Int),((0:Int),((0:Int),(([]:List UInt8),(false,((0:Int),(a.2.2.2.2.2.2.2.1.1,((0:Int),(true,())))))))))]
  Ze (b.length+c.length<=Qo)<|
  some (b++c,())
 else
  some (b,())
abbrev Zzf:List PE:=[.box 1 37 (Zo) (.u false),.val 3 (.slice 50 (Zq)) (.u true)]
def Zbw(a:Zf)(b:List Zi):Option (List Zi×Unit):=
 bif a.2.2.2.2.2.2.1.2.2.1==a.2.2.2.2.2.2.1.1 then
  let c:List Zi:=[((22:Int),((0:Int),((0:Int),(([]:List UInt8),(false,((0:Int),(a.2.2.2.2.2.2.1.1,((0:Int),(false,())))))))))]
  Ze (b.length+c.length<=Qo)<|
  Zbx a (b++c)
 else
  Zbx a b
abbrev Zzh:List PE:=[.box 1 37 (Zo) (.u false),.val 3 (.slice 50 (Zq)) (.u true),.val 10 (.int .i64) (.u false)]
def Zfh(a:Zf)(c:List Zi)(b:Int):Nat:=((a.2.2.2.1.length:Int)-b).toNat+1
def Zby:Nat->Zf->List Zi->Int->Option (List Zi×Unit)
 |0,_,_,_=>none
 |N+1,a,b,c=>
  bif decide (c< (a.2.2.2.1.length:Int))then
   Ze (0<=c/\c<a.2.2.2.1.length)<|
   (Zrl a (a.2.2.2.1.getD c.toNat Zj)).bind fun d=>
   Ze (b.length+d.1.length<=Qo)<|
   Zby N a (b++d.1) (IntKind.i64.wrap (c+1))
  else
   (Zom a.2.2.2.2.1).bind fun f=>
   bif f.1 then
    let e:List Zi:=[((20:Int),((0:Int),((0:Int),(([]:List UInt8),(false,((0:Int),(a.2.2.2.2.1.1,((0:Int),(false,())))))))))]
    Ze (b.length+e.length<=Qo)<|
    Zbw a (b++e)
   else
    Zbw a b
abbrev Zze:List PE:=[.box 1 37 (Zo) (.u false),.val 3 (.slice 50 (Zq)) (.u true)]
def Zbv(a:Zf)(b:List Zi):Option (List Zi×Unit):=Zby (Zfh a b (0:Int)) a b (0:Int)
abbrev Zzd:List PE:=[.box 1 37 (Zo) (.u false),.val 3 (.slice 50 (Zq)) (.u true)]
def Zbu(a:Zf)(b:List Zi):Option (List Zi×Unit):=
 (Zhw a.2.2.2.2.2.2.2.2.2.1 a.2.2.2.2.2.2.2.2.2.2.2.2.1).bind fun c=>
 bif c.2.1 then
  let d:List Zi:=[((18:Int),((0:Int),((0:Int),(([]:List UInt8),(false,((0:Int),(c.1.2.1,((0:Int),(true,())))))))))]
  Ze (b.length+d.length<=Qo)<|
  Zbv a (b++d)
 else
  Zbv a b
abbrev Zzc:List PE:=[.box 1 37 (Zo) (.u false),.val 3 (.slice 50 (Zq)) (.u true)]
def Zbt(a:Zf)(b:List Zi):Option (List Zi×Unit):=
 (Zhw a.2.2.2.2.2.2.2.2.1 a.2.2.2.2.2.2.2.2.2.2.2.1).bind fun c=>
 bif c.2.1 then
  let d:List Zi:=[((18:Int),((0:Int),((0:Int),(([]:List UInt8),(false,((0:Int),(c.1.2.1,((0:Int),(false,())))))))))]
  Ze (b.length+d.length<=Qo)<|
  Zbu a (b++d)
 else
  Zbu a b
def Zkg(a:Zf):Option (List Zi×Unit):=
 (Jx a).bind fun d=>
 bif !d.1 then
  some (([]:List Zi),())
 else
  (Zoq a).bind fun b=>
  bif b.2.1 then
   let c:List Zi:=[((16:Int),((0:Int),((0:Int),(([]:List UInt8),(false,((0:Int),(b.1.2.2.1,((0:Int),(false,())))))))))]
   Ze (([]:List Zi).length+c.length<=Qo)<|
   Zbt a (([]:List Zi)++c)
  else
   Zbt a ([]:List Zi)
def Zoo(a:Int):Option (Int×Unit):=bif(decide (a< (0:Int)))|| (decide (a>(4611686018427387903:Int)))then some ((0:Int),()) else bif decide (a< (64:Int))then some ((1:Int),()) else bif decide (a< (16384:Int))then some ((2:Int),()) else bif decide (a< (1073741824:Int))then some ((4:Int),()) else some ((8:Int),())
abbrev Z2k:List PE:=[.val 0 (.int .i64) (.u false),.val 1 (.int .i64) (.u false),.val 5 (.str) (.u false),.val 6 (.int .i64) (.u false)]
def Zok(c a:Int)(d:List UInt8)(b:Int):Nat:=(a-b).toNat+1
def Kf:Nat->Int->Int->List UInt8->Int->Option (List UInt8×Unit)
 |0,_,_,_,_=>none
 |N+1,a,c,b,d=>
  bif decide (d<c)then
   Ze ((256:Int)≠0)<|
   let e:List UInt8:=Qq ([(IntKind.u8.wrap (Int.tmod a (256:Int)))])
   Ze (e.length+b.length<=Ka)<|
   Ze ((256:Int)≠0)<|
   Kf N (IntKind.i64.wrap (Int.tdiv a (256:Int))) c (e++b) (IntKind.i64.wrap (d+1))
  else
   bif decide (a>(0:Int))then
    some (([]:List UInt8),())
   else
    some (b,())
def Znh(a b:Int):Option (List UInt8×Unit):=(Z5 b (1:Int) (7:Int)).bind fun c=>bif(!c.1)|| (decide (a< (0:Int)))then some (([]:List UInt8),()) else Kf (Zok a b ([]:List UInt8) (0:Int)) a b ([]:List UInt8) (0:Int)
def Zj3(a:Int):Option (List UInt8×Unit):=(Znh (bits .and .i64 a (255:Int)) (1:Int)).bind fun b=>some (b.1,())
abbrev Z48:List PE:=[.val 0 (.int .i64) (.u false),.val 3 (.int .i64) (.u false),.val 4 (.str) (.u false),.val 5 (.int .i64) (.u false),.val 6 (.int .i64) (.u false)]
def Va(K1: (Int×Int×List UInt8×Int×Unit)->Option (List UInt8×Unit))(c d:Int)(a:List UInt8)(e f:Int):Option (List UInt8×Unit):=(Zj3 f).bind fun b=>Ze (a.length+b.1.length<=Ka)<|K1 (c,d,a++b.1,IntKind.i64.wrap (e-1),())
abbrev Z49:List PE:=[.val 0 (.int .i64) (.u false),.val 3 (.int .i64) (.u false),.val 4 (.str) (.u false),.val 5 (.int .i64) (.u false)]
def Zja(b c:Int)(d:List UInt8)(a:Int):Nat:=(a-0).toNat+2
def Yg:Nat->Int->Int->List UInt8->Int->Option (List UInt8×Unit)
 |0,_,_,_,_=>none
 |N+1,c,a,d,b=>
  bif decide (b>=(0:Int))then
   Ze (0<=(IntKind.i64.wrap ((8:Int)*b)))<|
   let e:Int:=bits .and .i64 (c.fdiv (2^ (min (IntKind.i64.wrap ((8:Int)*b)).toNat IntKind.i64.bits))) (255:Int)
   bif b==(IntKind.i64.wrap (a-1))then
    bif a==2 then
     Va (fun v=>Yg N v.1 v.2.1 v.2.2.1 v.2.2.2.1) c a d b (bits .or .i64 e (64:Int))
    else
     bif a==4 then
      Va (fun v=>Yg N v.1 v.2.1 v.2.2.1 v.2.2.2.1) c a d b (bits .or .i64 e (128:Int))
     else
      bif a==8 then
       Va (fun v=>Yg N v.1 v.2.1 v.2.2.1 v.2.2.2.1) c a d b (bits .or .i64 e (192:Int))
      else
       Va (fun v=>Yg N v.1 v.2.1 v.2.2.1 v.2.2.2.1) c a d b e
   else
    Va (fun v=>Yg N v.1 v.2.1 v.2.2.1 v.2.2.2.1) c a d b e
  else
   some (d,())
def Zo1(b:Int):Option (List UInt8×Unit):=(Zoo b).bind fun a=>Yg (Zja b a.1 ([]:List UInt8) (IntKind.i64.wrap (a.1-1))) b a.1 ([]:List UInt8) (IntKind.i64.wrap (a.1-1))
abbrev Z2p:List PE:=[.val 0 (.slice 3 (.int .i64)) (.u false),.val 3 (.str) (.u false),.val 4 (.int .i64) (.u false)]
def Zhp(a:List Int)(c:List UInt8)(b:Int):Nat:=((a.length:Int)-b).toNat+1
def Zd2:Nat->List Int->List UInt8->Int->Option (List UInt8×Unit)|0,_,_,_=>none|N+1,b,c,a=>bif decide (a< (b.length:Int))then Ze (0<=a/\a<b.length)<|(Zoo (b.getD a.toNat (0:Int))).bind fun e=>bif e.1==0 then some (([]:List UInt8),()) else Ze (0<=a/\a<b.length)<|(Zo1 (b.getD a.toNat (0:Int))).bind fun d=>Ze (c.length+d.1.length<=Ka)<|Zd2 N b (c++d.1) (IntKind.i64.wrap (a+1)) else some (c,())
def Yc(a:List Int):Option (List UInt8×Unit):=Zd2 (Zhp a ([]:List UInt8) (0:Int)) a ([]:List UInt8) (0:Int)
abbrev Z2l:List PE:=[.box 1 50 (Zq) (.u false),.val 3 (.int .i64) (.u false)]
def Zh6(a:Zi)(b:Int):Option (List UInt8×Unit):=bif a.2.2.1==0 then (Yc ([b,a.2.1,(a.2.2.2.1.length:Int)])).bind fun c=>Ze (c.1.length+a.2.2.2.1.length<=Ka)<|some (c.1++a.2.2.2.1,()) else (Yc ([(IntKind.i64.wrap (b+4)),a.2.1,a.2.2.1,(a.2.2.2.1.length:Int)])).bind fun d=>Ze (d.1.length+a.2.2.2.1.length<=Ka)<|some (d.1++a.2.2.2.1,())
abbrev Z2o:List PE:=[.box 1 50 (Zq) (.u false),.val 4 (.int .i64) (.u false)]
def Zh9(a:Zi)(b:Int):Option (List UInt8×Unit):=(Yc ([b,a.2.2.2.2.2.2.1])).bind fun c=>some (c.1,())
abbrev Z2n:List PE:=[.box 1 50 (Zq) (.u false),.val 71 (.bool) (.u false)]
def Zh8(a:Zi)(b:Bool):Option (List UInt8×Unit):=bif b then (Yc ([a.1,a.2.1,a.2.2.2.2.2.2.1])).bind fun c=>some (c.1,()) else bif a.2.2.2.2.2.2.2.2.1 then Zh9 a (IntKind.i64.wrap (a.1+1)) else Zh9 a a.1
abbrev Z2m:List PE:=[.box 1 50 (Zq) (.u false),.val 9 (.int .i64) (.u false),.val 62 (.bool) (.u false)]
def Zh7(a:Zi)(b:Int)(c:Bool):Option (List UInt8×Unit):=bif c then (Yc ([a.1,a.2.2.2.2.2.2.1])).bind fun d=>some (d.1,()) else bif b==17 then Zh8 a (b==17) else Zh8 a (b==21)
def Zi9(a:Zi):Option (List UInt8×Unit):=(Jt a).bind fun b=>bif !b.1 then some (([]:List UInt8),()) else bif a.1==4 then (Yc ([(4:Int),a.2.1,a.2.2.2.2.2.1,a.2.2.2.2.2.2.2.1])).bind fun c=>some (c.1,()) else bif a.1==5 then (Yc ([(5:Int),a.2.1,a.2.2.2.2.2.1])).bind fun d=>some (d.1,()) else bif a.1==8 then bif a.2.2.2.2.1 then Zh6 a (IntKind.i64.wrap ((10:Int)+ (1:Int))) else Zh6 a (10:Int) else bif a.1==16 then Zh7 a a.1 (a.1==16) else Zh7 a a.1 (a.1==20)
def Zfm(a:Zi):Option (Int×Unit):=(Zi9 a).bind fun b=>some ((b.1.length:Int),())
def Zg1(a:Q8):Option (Q8×Unit):=(Yn a).bind fun b=>bif b.1&& (a.2.2.1 !=(-1:Int))then some ((a.1,(a.2.1,((-1:Int),(a.2.2.1,a.2.2.2.2)))),()) else some (a,())
def Znp(d:Zf)(a:Zd)(b:Int):Option ((Zd×Unit)×(Unit)):=bif b==4 then some (((a.1,(a.2.1,(a.2.2.1,(a.2.2.2.1,(a.2.2.2.2.1,(a.2.2.2.2.2.1,(a.2.2.2.2.2.2.1,(a.2.2.2.2.2.2.2.1,(false,a.2.2.2.2.2.2.2.2.2))))))))),()),()) else bif b==5 then some (((a.1,(a.2.1,(a.2.2.1,(a.2.2.2.1,(a.2.2.2.2.1,(a.2.2.2.2.2.1,(a.2.2.2.2.2.2.1,(a.2.2.2.2.2.2.2.1,(a.2.2.2.2.2.2.2.2.1,(false,a.2.2.2.2.2.2.2.2.2.2)))))))))),()),()) else bif b==17 then (Zm3 d a).bind fun c=>bif c.2.1 then some (((a.1,(a.2.1,(a.2.2.1,(a.2.2.2.1,(c.1,(a.2.2.2.2.2.1,(a.2.2.2.2.2.2.1,(a.2.2.2.2.2.2.2.1,(a.2.2.2.2.2.2.2.2.1,(a.2.2.2.2.2.2.2.2.2.1,(false,a.2.2.2.2.2.2.2.2.2.2.2))))))))))),()),()) else some (((a.1,(a.2.1,(a.2.2.1,(a.2.2.2.1,(a.2.2.2.2.1,(a.2.2.2.2.2.1,(a.2.2.2.2.2.2.1,(a.2.2.2.2.2.2.2.1,(a.2.2.2.2.2.2.2.2.1,(a.2.2.2.2.2.2.2.2.2.1,(false,a.2.2.2.2.2.2.2.2.2.2.2))))))))))),()),()) else bif b==21 then (Zg1 a.2.2.1).bind fun e=>some (((a.1,(a.2.1,(e.1,a.2.2.2))),()),()) else some ((a,()),())
def Zeu(b:Zf)(c:Zi):Option (Zf×Unit):=(Z4 b).bind fun a=>(Ya b).bind fun e=>bif !e.1 then some (a.1,()) else bif c.1==16 then (Zoq b).bind fun f=>some ((a.1.1,(a.1.2.1,(a.1.2.2.1,(a.1.2.2.2.1,(a.1.2.2.2.2.1,(f.1,(a.1.2.2.2.2.2.2.1,(a.1.2.2.2.2.2.2.2.1,(a.1.2.2.2.2.2.2.2.2.1,(a.1.2.2.2.2.2.2.2.2.2.1,(false,a.1.2.2.2.2.2.2.2.2.2.2.2))))))))))),()) else bif c.1==18 then bif c.2.2.2.2.2.2.2.2.1 then (Zhw b.2.2.2.2.2.2.2.2.2.1 false).bind fun g=>some ((a.1.1,(a.1.2.1,(a.1.2.2.1,(a.1.2.2.2.1,(a.1.2.2.2.2.1,(a.1.2.2.2.2.2.1,(a.1.2.2.2.2.2.2.1,(a.1.2.2.2.2.2.2.2.1,(a.1.2.2.2.2.2.2.2.2.1,(g.1,(a.1.2.2.2.2.2.2.2.2.2.2.1,(a.1.2.2.2.2.2.2.2.2.2.2.2.1,(false,a.1.2.2.2.2.2.2.2.2.2.2.2.2.2))))))))))))),()) else (Zhw b.2.2.2.2.2.2.2.2.1 false).bind fun h=>some ((a.1.1,(a.1.2.1,(a.1.2.2.1,(a.1.2.2.2.1,(a.1.2.2.2.2.1,(a.1.2.2.2.2.2.1,(a.1.2.2.2.2.2.2.1,(a.1.2.2.2.2.2.2.2.1,(h.1,(a.1.2.2.2.2.2.2.2.2.2.1,(a.1.2.2.2.2.2.2.2.2.2.2.1,(false,a.1.2.2.2.2.2.2.2.2.2.2.2.2)))))))))))),()) else bif c.1==20 then (Zg1 b.2.2.2.2.1).bind fun i=>some ((a.1.1,(a.1.2.1,(a.1.2.2.1,(a.1.2.2.2.1,(i.1,a.1.2.2.2.2.2))))),()) else bif c.1==22 then bif c.2.2.2.2.2.2.2.2.1 then some ((a.1.1,(a.1.2.1,(a.1.2.2.1,(a.1.2.2.2.1,(a.1.2.2.2.2.1,(a.1.2.2.2.2.2.1,(a.1.2.2.2.2.2.2.1,((a.1.2.2.2.2.2.2.2.1.1,(a.1.2.2.2.2.2.2.2.1.2.1,((-1:Int),a.1.2.2.2.2.2.2.2.1.2.2.2))),a.1.2.2.2.2.2.2.2.2)))))))),()) else some ((a.1.1,(a.1.2.1,(a.1.2.2.1,(a.1.2.2.2.1,(a.1.2.2.2.2.1,(a.1.2.2.2.2.2.1,((a.1.2.2.2.2.2.2.1.1,(a.1.2.2.2.2.2.2.1.2.1,((-1:Int),a.1.2.2.2.2.2.2.1.2.2.2))),a.1.2.2.2.2.2.2.2))))))),()) else (Qy b c.2.1).bind fun d=>bif d.2.1 then (Znp b d.1 c.1).bind fun j=>(Ql a.1.2.2.2.1 j.1.1).bind fun k=>some ((a.1.1,(a.1.2.1,(a.1.2.2.1,(k.1,a.1.2.2.2.2)))),()) else some (a.1,())
abbrev Z5t:List PE:=[.box 1 37 (Zo) (.u false),.val 3 (.slice 303 (Xk)) (.u true),.val 4 (.int .i64) (.u false)]
def Zfu(K1: (Zf×List Z0×Int×Unit)->Option (List Z0×Unit))(a:Zf)(b:List Z0)(c:Int):Option (List Z0×Unit):=K1 (a,b,IntKind.i64.wrap (c+1),())
abbrev Z5u:List PE:=[.box 1 37 (Zo) (.u false),.val 3 (.slice 303 (Xk)) (.u true),.val 4 (.int .i64) (.u false)]
def Zjr(a:Zf)(c:List Z0)(b:Int):Nat:=((a.2.2.2.1.length:Int)-b).toNat+1
def Wx:Nat->Zf->List Z0->Int->Option (List Z0×Unit)
 |0,_,_,_=>none
 |N+1,b,c,a=>
  bif decide (a< (b.2.2.2.1.length:Int))then
   Ze (0<=a/\a<b.2.2.2.1.length)<|
   bif((b.2.2.2.1.getD a.toNat Zj).2.2.2.2.2.2.1&& (decide ((b.2.2.2.1.getD a.toNat Zj).2.1.1< (3:Int))))&& ((decide (((b.2.2.2.1.getD a.toNat Zj).2.1.2.2.1.length:Int)>(0:Int)))|| ((b.2.2.2.1.getD a.toNat Zj).2.1.2.2.2.2.2.2.1==1))then
    let d:List Z0:=[((b.2.2.2.1.getD a.toNat Zj).1,((b.2.2.2.1.getD a.toNat Zj).2.2.2.2.2.1,()))]
    Ze (c.length+d.length<=Qo)<|
    Zfu (fun v=>Wx N v.1 v.2.1 v.2.2.1) b (c++d) a
   else
    Zfu (fun v=>Wx N v.1 v.2.1 v.2.2.1) b c a
  else
   some (c,())
def Zpa(a:Zf):Option (List Z0×Unit):=Wx (Zjr a ([]:List Z0) (0:Int)) a ([]:List Z0) (0:Int)
abbrev Z5v:List PE:=[.val 0 (.slice 303 (Xk)) (.u false),.val 1 (.int .i64) (.u false),.val 5 (.slice 303 (Xk)) (.u true),.val 6 (.int .i64) (.u false)]
def Zfv(K1: (List Z0×Int×List Z0×Int×Unit)->Option (List Z0×Unit))(a:List Z0)(b:Int)(c:List Z0)(d:Int):Option (List Z0×Unit):=K1 (a,b,c,IntKind.i64.wrap (d+1),())
abbrev Z5w:List PE:=[.val 0 (.slice 303 (Xk)) (.u false),.val 1 (.int .i64) (.u false),.val 5 (.slice 303 (Xk)) (.u true),.val 6 (.int .i64) (.u false)]
def Zjs(a:List Z0)(c:Int)(d:List Z0)(b:Int):Nat:=((a.length:Int)-b).toNat+1
def Wy:Nat->List Z0->Int->List Z0->Int->Option (List Z0×Unit)|0,_,_,_,_=>none|N+1,b,d,c,a=>bif decide (a< (b.length:Int))then Ze (0<=a/\a<b.length)<|bif(b.getD a.toNat Js).1 !=d then Ze (0<=a/\a<b.length)<|Ze (c.length+ ([(b.getD a.toNat Js)]).length<=Qo)<|Zfv (fun v=>Wy N v.1 v.2.1 v.2.2.1 v.2.2.2.1) b d (c++ ([(b.getD a.toNat Js)])) a else Zfv (fun v=>Wy N v.1 v.2.1 v.2.2.1 v.2.2.2.1) b d c a else some (c,())
def Zpb(a:List Z0)(b:Int):Option (List Z0×Unit):=Wy (Zjs a b ([]:List Z0) (0:Int)) a b ([]:List Z0) (0:Int)
abbrev Zzb:List PE:=[.val 0 (.slice 303 (Xk)) (.u false),.val 3 (.int .i64) (.u false)]
def Zff(a:List Z0)(b:Int):Nat:=((a.length:Int)-b).toNat+1
def Zbs:Nat->List Z0->Int->Option (Bool×Unit)|0,_,_=>none|N+1,b,a=>bif decide (a< (b.length:Int))then Ze (0<=a/\a<b.length)<|(Qj (b.getD a.toNat Js).1).bind fun c=>Ze (((!c.1)=false->(0<=a/\a<b.length)))<|(bif(!c.1)then some (false,())else(Zbe (b.getD a.toNat Js).2.1)).bind fun d=>Ze ((((!c.1)|| (!d.1))=false->((decide (a>(0:Int)))=true->(0<=a/\a<b.length))))<|Ze ((((!c.1)|| (!d.1))=false->((decide (a>(0:Int)))=true->(0<=(IntKind.i64.wrap (a-1))/\(IntKind.i64.wrap (a-1))<b.length))))<|bif((!c.1)|| (!d.1))|| ((decide (a>(0:Int)))&& (decide ((b.getD a.toNat Js).1<=(b.getD (IntKind.i64.wrap (a-1)).toNat Js).1)))then some (false,()) else Zbs N b (IntKind.i64.wrap (a+1)) else some (true,())
def Zkf(a:List Z0):Option (Bool×Unit):=Zbs (Zff a (0:Int)) a (0:Int)
abbrev Z5i:List PE:=[.val 0 (.slice 303 (Xk)) (.u false),.val 3 (.slice 3 (.int .i64)) (.u true),.val 4 (.int .i64) (.u false),.val 5 (.int .i64) (.u false)]
def Zfp(K1: (List Z0×List Int×Int×Int×Unit)->Option (List Int×Unit))(a:List Z0)(b:List Int)(c d:Int):Option (List Int×Unit):=K1 (a,b,c,IntKind.i64.wrap (d+1),())
abbrev Z5j:List PE:=[.val 0 (.slice 303 (Xk)) (.u false),.val 3 (.slice 3 (.int .i64)) (.u true),.val 4 (.int .i64) (.u false),.val 5 (.int .i64) (.u false)]
def Zfq(K1: (List Z0×List Int×Int×Int×Unit)->Option (List Int×Unit))(b:List Z0)(c:List Int)(d a:Int):Option (List Int×Unit):=Ze (0<=a/\a<b.length)<|bif(b.getD a.toNat Js).2.1.1==d then Ze (0<=a/\a<b.length)<|Ze (c.length+ ([(b.getD a.toNat Js).1]).length<=Qo)<|Zfp K1 b (c++ ([(b.getD a.toNat Js).1])) d a else Zfp K1 b c d a
abbrev Z5k:List PE:=[.val 0 (.slice 303 (Xk)) (.u false),.val 3 (.slice 3 (.int .i64)) (.u true),.val 4 (.int .i64) (.u false),.val 5 (.int .i64) (.u false)]
def Zjf(a:List Z0)(c:List Int)(d b:Int):Nat:=((a.length:Int)-b).toNat+1
def Vd:Nat->List Z0->List Int->Int->Int->Option (List Int×Unit)|0,_,_,_,_=>none|N+1,b,c,d,a=>(bif(decide (a< (b.length:Int)))then(Zkf b)else some (false,())).bind fun e=>bif(decide (a< (b.length:Int)))&&e.1 then Ze (0<=a/\a<b.length)<|bif decide ((b.getD a.toNat Js).2.1.1<d)then Ze (0<=a/\a<b.length)<|Zfq (fun v=>Vd N v.1 v.2.1 v.2.2.1 v.2.2.2.1) b ([]:List Int) (b.getD a.toNat Js).2.1.1 a else Zfq (fun v=>Vd N v.1 v.2.1 v.2.2.1 v.2.2.2.1) b c d a else some (c,())
def Zo6(a:List Z0):Option (List Int×Unit):=Vd (Zjf a ([]:List Int) (8:Int) (0:Int)) a ([]:List Int) (8:Int) (0:Int)
abbrev Qcr:List PE:=[.val 0 (.slice 3 (.int .i64)) (.u false),.val 1 (.int .i64) (.u false),.val 5 (.int .i64) (.u false)]
def Zln(a:List Int)(c b:Int):Nat:=((a.length:Int)-b).toNat+1
def Zjp:Nat->List Int->Int->Int->Option (Int×Unit)|0,_,_,_=>none|N+1,a,c,b=>bif decide (b< (a.length:Int))then Ze (0<=b/\b<a.length)<|bif decide ((a.getD b.toNat (0:Int))>c)then Ze (0<=b/\b<a.length)<|some (a.getD b.toNat (0:Int),()) else Zjp N a c (IntKind.i64.wrap (b+1)) else bif(a.length:Int)==(0:Int)then some ((-1:Int),()) else Ze (0<=(0:Int)/\(0:Int)<a.length)<|some (a.getD (0:Int).toNat (0:Int),())
def Zsw(a:List Int)(b:Int):Option (Int×Unit):=Zjp (Zln a b (0:Int)) a b (0:Int)
abbrev Z5l:List PE:=[.val 0 (.slice 303 (Xk)) (.u false),.val 1 (.int .i64) (.u false),.val 5 (.slice 3 (.int .i64)) (.u true),.val 6 (.slice 3 (.int .i64)) (.u true),.val 7 (.int .i64) (.u false),.val 8 (.int .i64) (.u false)]
def Zfr(K1: (List Z0×Int×List Int×List Int×Int×Unit)->Option (Int×Unit))(K2: (List Z0×Int×List Int×List Int×Int×Int×Unit)->Option (Int×Unit))(a:List Z0)(b:Int)(c d:List Int)(e f:Int):Option (Int×Unit):=K2 (a,b,c,d,e,IntKind.i64.wrap (f+1),())
abbrev Z5n:List PE:=[.val 0 (.slice 303 (Xk)) (.u false),.val 1 (.int .i64) (.u false),.val 5 (.slice 3 (.int .i64)) (.u true),.val 6 (.slice 3 (.int .i64)) (.u true),.val 7 (.int .i64) (.u false),.val 8 (.int .i64) (.u false)]
def Zji(c:List Z0)(d:Int)(a e:List Int)(f b:Int):Nat:=((a.length:Int)-b).toNat+1
def Wt(K1: (List Z0×Int×List Int×List Int×Int×Unit)->Option (Int×Unit)):Nat->List Z0->Int->List Int->List Int->Int->Int->Option (Int×Unit)
 |0,_,_,_,_,_,_=>none
 |N+1,b,f,d,e,a,c=>
  bif decide (c< (d.length:Int))then
   Ze (0<=c/\c<d.length)<|
   Ze (0<=a/\a<b.length)<|
   let g:Bool:=(d.getD c.toNat (0:Int))==(b.getD a.toNat Js).1
   Ze ((g=true->(0<=a/\a<b.length)))<|
   bif g&& (!(b.getD a.toNat Js).2.1.2.1)then
    Ze (0<=a/\a<b.length)<|
    some ((b.getD a.toNat Js).1,())
   else
    Ze (0<=c/\c<d.length)<|
    Ze (0<=a/\a<b.length)<|
    bif(d.getD c.toNat (0:Int))==(b.getD a.toNat Js).1 then
     Ze (0<=a/\a<b.length)<|
     Ze (e.length+ ([(b.getD a.toNat Js).1]).length<=Qo)<|
     Zfr K1 (fun v=>Wt K1 N v.1 v.2.1 v.2.2.1 v.2.2.2.1 v.2.2.2.2.1 v.2.2.2.2.2.1) b f d (e++ ([(b.getD a.toNat Js).1])) a c
    else
     Zfr K1 (fun v=>Wt K1 N v.1 v.2.1 v.2.2.1 v.2.2.2.1 v.2.2.2.2.1 v.2.2.2.2.2.1) b f d e a c
  else
   K1 (b,f,d,e,IntKind.i64.wrap (a+1),())
abbrev Z5m:List PE:=[.val 0 (.slice 303 (Xk)) (.u false),.val 1 (.int .i64) (.u false),.val 5 (.slice 3 (.int .i64)) (.u true),.val 6 (.slice 3 (.int .i64)) (.u true),.val 7 (.int .i64) (.u false)]
def Zjh(a:List Z0)(c:Int)(d e:List Int)(b:Int):Nat:=((a.length:Int)-b).toNat+1
def Ve:Nat->List Z0->Int->List Int->List Int->Int->Option (Int×Unit)|0,_,_,_,_,_=>none|N+1,a,b,e,c,d=>bif decide (d< (a.length:Int))then Wt (fun v=>Ve N v.1 v.2.1 v.2.2.1 v.2.2.2.1 v.2.2.2.2.1) (Zji a b e c d (0:Int)) a b e c d (0:Int) else (Zsw c b).bind fun f=>some (f.1,())
def Zo7(a:List Z0)(b:Int):Option (Int×Unit):=(Zo6 a).bind fun c=>Ve (Zjh a b c.1 ([]:List Int) (0:Int)) a b c.1 ([]:List Int) (0:Int)
def Zo0(a:Q8):Option (Int×Unit):=(Yn a).bind fun b=>bif !b.1 then some ((0:Int),()) else some (IntKind.i64.wrap (a.1-a.2.1),())
abbrev Qcp:List PE:=[.val 1 (.int .i64) (.u false),.val 2 (.int .i64) (.u false),.box 3 55 (Vx) (.u false),.val 8 (.str) (.u false),.val 9 (.int .i64) (.u false)]
def Zf3(c a:Int)(d:Yv)(e:List UInt8)(b:Int):Nat:=(a-b).toNat+1
def Zjl:Nat->Int->Int->Yv->List UInt8->Int->Option (List UInt8×Bool×Unit)
 |0,_,_,_,_,_=>none
 |N+1,e,f,a,b,c=>
  bif decide (c<f)then
   Ze (a.1≠0)<|
   let d:Int:=Int.tmod (IntKind.i64.wrap (e+c)) a.1
   Ze (0<=d/\d<a.2.2.2.1.length)<|
   (Zj3 (a.2.2.2.1.getD d.toNat (0:Int))).bind fun g=>
   Ze (b.length+g.1.length<=Ka)<|
   Zjl N e f a (b++g.1) (IntKind.i64.wrap (c+1))
  else
   some (b,true,())
def Zsu(a:Yv)(b c:Int):Option (List UInt8×Bool×Unit):=(Zad a).bind fun d=>bif((((!d.1)|| (decide (b<a.2.1)))|| (decide (c< (0:Int))))|| (decide (b>a.2.2.1)))|| (decide (c>(IntKind.i64.wrap (a.2.2.1-b))))then some (([]:List UInt8),false,()) else Zjl (Zf3 b c a ([]:List UInt8) (0:Int)) b c a ([]:List UInt8) (0:Int)
abbrev Z8f:List PE:=[.box 3 58 (Z6) (.u false),.box 6 286 (Zcr) (.u false),.box 8 286 (Zcr) (.u false),.box 9 222 (Zx) (.u false),.val 10 (.int .i64) (.u false)]
def Zg6(c:Zp)(f d:Ja)(a:Zh)(b:Int):Option (Ja×Bool×Unit):=bif decide (b<=a.1)then some (Zrn,false,()) else (Zsu c.2.1 a.1 (IntKind.i64.wrap (b-a.1))).bind fun e=>some ((a.1,(e.1,(d.2.2.1&& (b==c.2.2.2.2.2.1),()))),true,())
def Zrg(a:Zp)(c d:Int):Option (Ja×Bool×Unit):=
 (Yb a).bind fun e=>
 bif(!e.1)|| (decide (a.1>(2:Int)))then
  some (Zrn,false,())
 else
  bif decide ((a.2.2.1.length:Int)>(0:Int))then
   Ze (0<=(0:Int)/\(0:Int)<a.2.2.1.length)<|
   let b:Int:=min (a.2.2.1.getD (0:Int).toNat Zz).2.1 d
   bif decide (b<=(a.2.2.1.getD (0:Int).toNat Zz).1)then
    some (Zrn,false,())
   else
    bif decide (c< (IntKind.i64.wrap (b- (a.2.2.1.getD (0:Int).toNat Zz).1)))then
     Zg6 a Zrn (a.2.2.2.2.2.1,(([]:List UInt8),(a.2.2.2.2.2.2.1==1,()))) (a.2.2.1.getD (0:Int).toNat Zz) (IntKind.i64.wrap ((a.2.2.1.getD (0:Int).toNat Zz).1+ (max c (0:Int))))
    else
     Zg6 a Zrn (a.2.2.2.2.2.1,(([]:List UInt8),(a.2.2.2.2.2.2.1==1,()))) (a.2.2.1.getD (0:Int).toNat Zz) b
  else
   bif !(a.2.2.2.2.2.2.1==1)then
    some (Zrn,false,())
   else
    some ((a.2.2.2.2.2.1,(([]:List UInt8),(a.2.2.2.2.2.2.1==1,()))),true,())
def Zt9(b:Int)(a:Ja):Option (Zi×Unit):=some (((8:Int),(b,(a.1,(a.2.1,(a.2.2.1,((0:Int),((0:Int),((0:Int),(false,()))))))))),())
abbrev Qcq:List PE:=[.val 1 (.int .i64) (.u false),.val 2 (.int .i64) (.u false),.box 6 286 (Zcr) (.u false),.box 8 67 (Zw) (.u true),.val 10 (.int .i64) (.u false),.val 11 (.int .i64) (.u false)]
def Zlm(b c:Int)(d:Ja)(e:Zd)(f a:Int):Nat:=(a-0).toNat+1
def Zjm:Nat->Int->Int->Ja->Zd->Int->Int->Option (Ja×Bool×Unit)|0,_,_,_,_,_,_=>none|N+1,c,d,g,e,f,a=>bif decide (a>(0:Int))then (Zrg e.2.1 a f).bind fun b=>bif !b.2.1 then some (Zrn,false,()) else (Zt9 c b.1).bind fun h=>(Zfm h.1).bind fun i=>bif decide (i.1<=d)then some (b.1,true,()) else Zjm N c d g e f (IntKind.i64.wrap (a-1)) else some (Zrn,false,())
def Zsv(c:Zf)(d b:Int):Option (Ja×Bool×Unit):=
 (Qy c d).bind fun a=>
 (Ya c).bind fun f=>
 bif(((!f.1)|| (!a.2.1))|| (!a.1.2.2.2.2.2.2.1))|| (decide (b< (3:Int)))then
  some (Zrn,false,())
 else
  (Zo0 c.2.2.2.2.1).bind fun g=>
  let e:Int:=min a.1.2.2.1.1 (IntKind.i64.wrap (a.1.2.1.2.2.2.2.2.2.2.1+g.1))
  Zjm (Zlm d b Zrn a.1 e (min b (60:Int))) d b Zrn a.1 e (min b (60:Int))
def Zjj(a:Q8):Option (Q8×Unit):=(Yn a).bind fun b=>bif((b.1&& (a.2.1==a.1))&& (a.2.2.1==(-1:Int)))&& (a.2.2.2.1 !=a.1)then some ((a.1,(a.2.1,(a.1,a.2.2.2))),()) else some (a,())
def Zlc(a:Zf)(c:Int):Option ((Unit)×(Zf×Unit)):=(Qy a c).bind fun b=>(Zjj b.1.2.2.1).bind fun d=>(Zjj a.2.2.2.2.1).bind fun e=>(Ql a.2.2.2.1 (b.1.1,(b.1.2.1,(d.1,b.1.2.2.2)))).bind fun f=>some ((),((a.1,(a.2.1,(a.2.2.1,(f.1,(e.1,a.2.2.2.2.2))))),()))
def Zrm(b:Zp)(a:Ja):Option (Bool×Unit):=some ((((decide (a.1>=(0:Int)))&& (decide (a.1<=b.2.1.2.2.1)))&& (decide ((a.2.1.length:Int)<=(IntKind.i64.wrap (b.2.1.2.2.1-a.1)))))&& ((!a.2.2.1)|| ((b.2.2.2.2.2.1 !=(-1:Int))&& ((IntKind.i64.wrap (a.1+ (a.2.1.length:Int)))==b.2.2.2.2.2.1))),())
def Znt(a:Ja):Option (Zh×Unit):=some ((a.1,(IntKind.i64.wrap (a.1+ (a.2.1.length:Int)),())),())
abbrev Z04:List PE:=[.val 0 (.slice 222 (Zx)) (.u false),.val 1 (.slice 222 (Zx)) (.u false),.val 5 (.slice 222 (Zx)) (.u true),.val 6 (.int .i64) (.u false),.val 7 (.int .i64) (.u false)]
def Zg2(K1: (List Zh×List Zh×List Zh×Int×Unit)->Option (List Zh×Unit))(K2: (List Zh×List Zh×List Zh×Int×Int×Unit)->Option (List Zh×Unit))(a b c:List Zh)(d e:Int):Option (List Zh×Unit):=K2 (a,b,c,d,IntKind.i64.wrap (e+1),())
abbrev Z05:List PE:=[.val 0 (.slice 222 (Zx)) (.u false),.val 1 (.slice 222 (Zx)) (.u false),.val 5 (.slice 222 (Zx)) (.u true),.val 6 (.int .i64) (.u false),.val 7 (.int .i64) (.u false),.box 8 222 (Zx) (.u false)]
def Zmn(K1: (List Zh×List Zh×List Zh×Int×Unit)->Option (List Zh×Unit))(K2: (List Zh×List Zh×List Zh×Int×Int×Unit)->Option (List Zh×Unit))(c d b:List Zh)(e f:Int)(a:Zh):Option (List Zh×Unit):=bif decide (a.1<a.2.1)then Ze (b.length+ ([a]).length<=Qo)<|Zg2 K1 K2 c d (b++ ([a])) e f else Zg2 K1 K2 c d b e f
abbrev Z07:List PE:=[.val 0 (.slice 222 (Zx)) (.u false),.val 1 (.slice 222 (Zx)) (.u false),.val 5 (.slice 222 (Zx)) (.u true),.val 6 (.int .i64) (.u false),.val 7 (.int .i64) (.u false)]
def Zbm(c a d:List Zh)(e b:Int):Nat:=((a.length:Int)-b).toNat+1
def W8(K1: (List Zh×List Zh×List Zh×Int×Unit)->Option (List Zh×Unit)):Nat->List Zh->List Zh->List Zh->Int->Int->Option (List Zh×Unit)
 |0,_,_,_,_,_=>none
 |N+1,d,c,e,a,b=>
  bif decide (b< (c.length:Int))then
   Ze (0<=a/\a<d.length)<|
   Ze (0<=b/\b<c.length)<|
   let f:Int:=max (d.getD a.toNat Zz).1 (c.getD b.toNat Zz).1
   Ze (0<=a/\a<d.length)<|
   Ze (0<=b/\b<c.length)<|
   let g:Int:=min (d.getD a.toNat Zz).2.1 (c.getD b.toNat Zz).2.1
   Zkp 1 (
    Zmn K1 (fun v=>W8 K1 N v.1 v.2.1 v.2.2.1 v.2.2.2.1 v.2.2.2.2.1) d c e a b (f,(g,()))
   )
  else
   K1 (d,c,e,IntKind.i64.wrap (a+1),())
abbrev Z06:List PE:=[.val 0 (.slice 222 (Zx)) (.u false),.val 1 (.slice 222 (Zx)) (.u false),.val 5 (.slice 222 (Zx)) (.u true),.val 6 (.int .i64) (.u false)]
def Zbl(a c d:List Zh)(b:Int):Nat:=((a.length:Int)-b).toNat+1
def J9:Nat->List Zh->List Zh->List Zh->Int->Option (List Zh×Unit)
 |0,_,_,_,_=>none
 |N+1,a,c,d,b=>
  (bif(decide (b< (a.length:Int)))then(Jh a)else some (false,())).bind fun f=>
  let e:Bool:=(decide (b< (a.length:Int)))&&f.1
  (bif e then(Jh c)else some (false,())).bind fun g=>
  bif e&&g.1 then
   W8 (fun v=>J9 N v.1 v.2.1 v.2.2.1 v.2.2.2.1) (Zbm a c d b (0:Int)) a c d b (0:Int)
  else
   some (d,())
def Zde(a b:List Zh):Option (List Zh×Unit):=J9 (Zbl a b ([]:List Zh) (0:Int)) a b ([]:List Zh) (0:Int)
abbrev Z20:List PE:=[.val 0 (.slice 222 (Zx)) (.u false),.box 3 222 (Zx) (.u false),.val 5 (.slice 222 (Zx)) (.u true),.val 6 (.int .i64) (.u false)]
def Zic(K1: (List Zh×Zh×List Zh×Int×Unit)->Option (List Zh×Unit))(a:List Zh)(b:Zh)(c:List Zh)(d:Int):Option (List Zh×Unit):=K1 (a,b,c,IntKind.i64.wrap (d+1),())
abbrev Z21:List PE:=[.val 0 (.slice 222 (Zx)) (.u false),.box 3 222 (Zx) (.u false),.val 5 (.slice 222 (Zx)) (.u true),.val 6 (.int .i64) (.u false)]
def Zd6(K1: (List Zh×Zh×List Zh×Int×Unit)->Option (List Zh×Unit))(b:List Zh)(c:Zh)(d:List Zh)(a:Int):Option (List Zh×Unit):=
 Ze (0<=a/\a<b.length)<|
 Ze (0<=a/\a<b.length)<|
 bif decide ((max (b.getD a.toNat Zz).1 c.2.1)< (b.getD a.toNat Zz).2.1)then
  Ze (0<=a/\a<b.length)<|
  Ze (0<=a/\a<b.length)<|
  let e:List Zh:=[(max (b.getD a.toNat Zz).1 c.2.1,((b.getD a.toNat Zz).2.1,()))]
  Ze (d.length+e.length<=Qo)<|
  Zic K1 b c (d++e) a
 else
  Zic K1 b c d a
abbrev Z22:List PE:=[.val 0 (.slice 222 (Zx)) (.u false),.box 3 222 (Zx) (.u false),.val 5 (.slice 222 (Zx)) (.u true),.val 6 (.int .i64) (.u false)]
def Zcq(a:List Zh)(c:Zh)(d:List Zh)(b:Int):Nat:=((a.length:Int)-b).toNat+1
def Jo:Nat->List Zh->Zh->List Zh->Int->Option (List Zh×Unit)
 |0,_,_,_,_=>none
 |N+1,b,c,d,a=>
  bif decide (a< (b.length:Int))then
   Ze (0<=a/\a<b.length)<|
   Ze (0<=a/\a<b.length)<|
   bif decide ((b.getD a.toNat Zz).1< (min (b.getD a.toNat Zz).2.1 c.1))then
    Ze (0<=a/\a<b.length)<|
    Ze (0<=a/\a<b.length)<|
    let e:List Zh:=[((b.getD a.toNat Zz).1,(min (b.getD a.toNat Zz).2.1 c.1,()))]
    Ze (d.length+e.length<=Qo)<|
    Zd6 (fun v=>Jo N v.1 v.2.1 v.2.2.1 v.2.2.2.1) b c (d++e) a
   else
    Zd6 (fun v=>Jo N v.1 v.2.1 v.2.2.1 v.2.2.2.1) b c d a
  else
   some (d,())
def Zev(a:List Zh)(b:Zh):Option (List Zh×Unit):=(Jh a).bind fun c=>(bif(!c.1)then some (false,())else(Zti b)).bind fun d=>bif(!c.1)|| (!d.1)then (Zj4 a).bind fun e=>some (e.1,()) else Jo (Zcq a b ([]:List Zh) (0:Int)) a b ([]:List Zh) (0:Int)
abbrev Z8k:List PE:=[.box 4 58 (Z6) (.u true),.box 6 58 (Z6) (.p (.u false) (.p (.u true) (.p (.u true) (.p (.u true) (.p (.u true) (.u false))))))]
def Zg9(c a:Zp):Option (Zp×Bool×Unit):=(Za0 a).bind fun b=>some ((b.1,a.2),true,())
abbrev Z8j:List PE:=[.box 3 286 (Zcr) (.u false),.box 4 58 (Z6) (.u true),.box 6 58 (Z6) (.p (.u false) (.p (.u true) (.p (.u true) (.p (.u true) (.p (.u true) (.u false))))))]
def Zg8(c:Ja)(b a:Zp):Option (Zp×Bool×Unit):=bif c.2.2.1 then Zg9 b (a.1,(a.2.1,(a.2.2.1,(a.2.2.2.1,(a.2.2.2.2.1,(a.2.2.2.2.2.1,((2:Int),a.2.2.2.2.2.2.2))))))) else Zg9 b a
def Zrh(a:Zp)(c:Ja):Option (Zp×Bool×Unit):=
 (Zc7 a).bind fun b=>
 (Yb a).bind fun g=>
 let f:Bool:=(!g.1)|| (decide (a.1>(2:Int)))
 (bif f then some (false,())else(Zrm a c)).bind fun h=>
 bif((f|| (!h.1))|| ((c.2.1==([]:List UInt8))&& (!c.2.2.1)))|| (c.2.2.1&& (a.2.2.2.2.2.2.1 !=1))then
  some (b.1,false,())
 else
  bif !(c.2.1==([]:List UInt8))then
   (Znt c).bind fun d=>
   (Zde a.2.2.1 ([d.1])).bind fun e=>
   Ze ((((e.1.length:Int) !=(1:Int))=false->(0<=(0:Int)/\(0:Int)<e.1.length)))<|
   bif((e.1.length:Int) !=(1:Int))|| (!(eqV (Zx) (e.1.getD (0:Int).toNat Zz) d.1))then
    some (b.1,false,())
   else
    (Zev a.2.2.1 d.1).bind fun i=>
    (Zal a.2.2.2.1 d.1).bind fun j=>
    Zg8 c Za1 (b.1.1,(b.1.2.1,(i.1,(j.1,(b.1.2.2.2.2.1,(b.1.2.2.2.2.2.1,(b.1.2.2.2.2.2.2.1,(max a.2.2.2.2.2.2.2.1 d.1.2.1,b.1.2.2.2.2.2.2.2.2))))))))
  else
   Zg8 c Za1 b.1
def Zms(a:Q8)(b:Int):Option (Q8×Bool×Unit):=(Yn a).bind fun c=>bif((!c.1)|| (decide (b< (0:Int))))|| (decide (b>(IntKind.i64.wrap (a.1-a.2.1))))then some (a,false,()) else some ((a.1,(IntKind.i64.wrap (a.2.1+b),a.2.2)),true,())
def Zje(c:Zf)(e:Int)(h:Ja):Option (Zf×Bool×Unit):=(Z4 c).bind fun a=>(Qy c e).bind fun b=>(Ya c).bind fun i=>bif((!i.1)|| (!b.2.1))|| (!b.1.2.2.2.2.2.2.1)then some (a.1,false,()) else (Zrh b.1.2.1 h).bind fun d=>(Zms b.1.2.2.1 (IntKind.i64.wrap (d.1.2.2.2.2.2.2.2.1-b.1.2.1.2.2.2.2.2.2.2.1))).bind fun f=>(Zms c.2.2.2.2.1 (IntKind.i64.wrap (d.1.2.2.2.2.2.2.2.1-b.1.2.1.2.2.2.2.2.2.2.1))).bind fun g=>bif((!d.2.1)|| (!f.2.1))|| (!g.2.1)then some (a.1,false,()) else (Ql a.1.2.2.2.1 (b.1.1,(d.1,(f.1,b.1.2.2.2)))).bind fun j=>some ((a.1.1,(a.1.2.1,(a.1.2.2.1,(j.1,(g.1,(a.1.2.2.2.2.2.1,(a.1.2.2.2.2.2.2.1,(a.1.2.2.2.2.2.2.2.1,(a.1.2.2.2.2.2.2.2.2.1,(a.1.2.2.2.2.2.2.2.2.2.1,(a.1.2.2.2.2.2.2.2.2.2.2.1,(a.1.2.2.2.2.2.2.2.2.2.2.2.1,(a.1.2.2.2.2.2.2.2.2.2.2.2.2.1,(e,a.1.2.2.2.2.2.2.2.2.2.2.2.2.2.2)))))))))))))),true,())
abbrev Qgw:List PE:=[.box 0 37 (Zo) (.u true),.val 1 (.slice 50 (Zq)) (.u true),.val 2 (.int .i64) (.u false),.val 7 (.slice 3 (.int .i64)) (.u true),.val 8 (.int .i64) (.u false)]
def Zdp(K1: (Zf×List Zi×Int×List Int×Int×Unit)->Option ((List Zi×Unit)×(Zf×Unit)))(a:Zf)(b:List Zi)(c:Int)(d:List Int)(e:Int):Option ((List Zi×Unit)×(Zf×Unit)):=K1 (a,b,c,d,IntKind.i64.wrap (e+1),())
abbrev Qgx:List PE:=[.box 0 37 (Zo) (.u true),.val 1 (.slice 50 (Zq)) (.u true),.val 2 (.int .i64) (.u false),.val 7 (.slice 3 (.int .i64)) (.u true),.val 8 (.int .i64) (.u false),.val 11 (.int .i64) (.u false),.box 12 286 (Zcr) (.u false),.box 14 37 (Zo) (.u true),.val 15 (.bool) (.u false)]
def Zgn(K1: (Zf×List Zi×Int×List Int×Int×Unit)->Option ((List Zi×Unit)×(Zf×Unit)))(c:Zf)(a:List Zi)(d:Int)(e:List Int)(f g:Int)(h:Ja)(i:Zf)(j:Bool):Option ((List Zi×Unit)×(Zf×Unit)):=bif !j then some ((a,()),(c,())) else (Zt9 g h).bind fun b=>Ze (a.length+ ([b.1]).length<=Qo)<|(Zfm b.1).bind fun k=>Zdp K1 i (a++ ([b.1])) (IntKind.i64.wrap (d-k.1)) e f
abbrev Qgz:List PE:=[.box 0 37 (Zo) (.u true),.val 1 (.slice 50 (Zq)) (.u true),.val 2 (.int .i64) (.u false),.val 7 (.slice 3 (.int .i64)) (.u true),.val 8 (.int .i64) (.u false),.val 9 (.slice 303 (Xk)) (.u true),.val 10 (.int .i64) (.u false)]
def Zm2(c:Zf)(d:List Zi)(e:Int)(a:List Int)(f:Int)(g:List Z0)(b:Int):Nat:=((a.length:Int)-b).toNat+1
def Zdq(K1: (Zf×List Zi×Int×List Int×Int×Unit)->Option ((List Zi×Unit)×(Zf×Unit))):Nat->Zf->List Zi->Int->List Int->Int->List Z0->Int->Option ((List Zi×Unit)×(Zf×Unit))|0,_,_,_,_,_,_,_=>none|N+1,a,e,f,b,g,i,d=>bif decide (d< (b.length:Int))then Ze (0<=d/\d<b.length)<|(Zpb i (b.getD d.toNat (0:Int))).bind fun k=>Zdq K1 N a e f b g k.1 (IntKind.i64.wrap (d+1)) else (Zo7 i a.2.2.2.2.2.2.2.2.2.2.2.2.2.1).bind fun c=>bif decide (c.1< (0:Int))then some ((e,()),(a,())) else (Zsv a c.1 f).bind fun h=>bif !h.2.1 then (Zlc a c.1).bind fun l=>Ze (b.length+ ([c.1]).length<=Qo)<|Zdp K1 l.2.1 e f (b++ ([c.1])) g else Zkp 1 ((Zje a c.1 h.1).bind fun j=>Zgn K1 a e f b g c.1 h.1 j.1 j.2.1)
abbrev Qgy:List PE:=[.box 0 37 (Zo) (.u true),.val 1 (.slice 50 (Zq)) (.u true),.val 2 (.int .i64) (.u false),.val 7 (.slice 3 (.int .i64)) (.u true),.val 8 (.int .i64) (.u false)]
def Zm1(b:Zf)(a:List Zi)(c:Int)(d:List Int)(i8:Int):Nat:=((200:Int)-i8).toNat+1+0*a.length
def Vj:Nat->Zf->List Zi->Int->List Int->Int->Option ((List Zi×Unit)×(Zf×Unit))|0,_,_,_,_,_=>none|N+1,a,b,c,d,i8=>bif decide (i8< (200:Int))then (Zpa a).bind fun e=>Zdq (fun v=>Vj N v.1 v.2.1 v.2.2.1 v.2.2.2.1 v.2.2.2.2.1) (Zm2 a b c d i8 e.1 (0:Int)) a b c d i8 e.1 (0:Int) else some ((b,()),(a,()))
def Zrk(a:Zf)(b:List Zi)(c:Int):Option ((List Zi×Unit)×(Zf×Unit)):=Vj (Zm1 a b c ([]:List Int) (0:Int)) a b c ([]:List Int) (0:Int)
abbrev Zzj:List PE:=[.val 0 (.slice 50 (Zq)) (.u false),.val 3 (.str) (.u false),.val 4 (.int .i64) (.u false)]
def Zfk(a:List Zi)(c:List UInt8)(b:Int):Nat:=((a.length:Int)-b).toNat+1
def Zbz:Nat->List Zi->List UInt8->Int->Option (List UInt8×Unit)|0,_,_,_=>none|N+1,b,c,a=>bif decide (a< (b.length:Int))then Ze (0<=a/\a<b.length)<|(Zi9 (b.getD a.toNat Qr)).bind fun d=>bif d.1==([]:List UInt8)then some (([]:List UInt8),()) else Ze (c.length+d.1.length<=Ka)<|Zbz N b (c++d.1) (IntKind.i64.wrap (a+1)) else bif decide ((c.length:Int)>(400:Int))then some (([]:List UInt8),()) else some (c,())
def Zfj(a:List Zi):Option (List UInt8×Unit):=Zbz (Zfk a ([]:List UInt8) (0:Int)) a ([]:List UInt8) (0:Int)
abbrev Z46:List PE:=[.box 2 37 (Zo) (.u false),.box 6 37 (Zo) (.u true),.box 7 37 (Zo) (.u true),.val 8 (.slice 50 (Zq)) (.u true),.val 9 (.int .i64) (.u false),.val 10 (.slice 50 (Zq)) (.u true),.val 11 (.int .i64) (.u false)]
def Wp(K1: (Zf×Zf×Zf×List Zi×Int×List Zi×Int×Unit)->Option ((List UInt8×Int×Zf×Unit)×(Unit)))(a b c:Zf)(d:List Zi)(e:Int)(f:List Zi)(g:Int):Option ((List UInt8×Int×Zf×Unit)×(Unit)):=K1 (a,b,c,d,e,f,IntKind.i64.wrap (g+1),())
abbrev Z47:List PE:=[.box 2 37 (Zo) (.u false),.box 6 37 (Zo) (.u true),.box 7 37 (Zo) (.u true),.val 8 (.slice 50 (Zq)) (.u true),.val 9 (.int .i64) (.u false),.val 10 (.slice 50 (Zq)) (.u true),.val 11 (.int .i64) (.u false)]
def Zi8(c d e:Zf)(f:List Zi)(g:Int)(a:List Zi)(b:Int):Nat:=((a.length:Int)-b).toNat+1
def Y4:Nat->Zf->Zf->Zf->List Zi->Int->List Zi->Int->Option ((List UInt8×Int×Zf×Unit)×(Unit))|0,_,_,_,_,_,_,_=>none|N+1,d,h,g,e,f,c,b=>bif decide (b< (c.length:Int))then Ze (0<=b/\b<c.length)<|(Zfm (c.getD b.toNat Qr)).bind fun i=>bif decide (i.1<=f)then Ze (0<=b/\b<c.length)<|(Zfm (c.getD b.toNat Qr)).bind fun j=>Ze (0<=b/\b<c.length)<|(Zeu g (c.getD b.toNat Qr)).bind fun k=>Ze (0<=b/\b<c.length)<|Ze (e.length+ ([(c.getD b.toNat Qr)]).length<=Qo)<|Wp (fun v=>Y4 N v.1 v.2.1 v.2.2.1 v.2.2.2.1 v.2.2.2.2.1 v.2.2.2.2.2.1 v.2.2.2.2.2.2.1) d h k.1 (e++ ([(c.getD b.toNat Qr)])) (IntKind.i64.wrap (f-j.1)) c b else Wp (fun v=>Y4 N v.1 v.2.1 v.2.2.1 v.2.2.2.1 v.2.2.2.2.1 v.2.2.2.2.2.1 v.2.2.2.2.2.2.1) d h g e f c b else (Zrk g e f).bind fun a=>bif(a.1.1.length:Int)==(0:Int)then some ((([]:List UInt8),((-1:Int),(a.2.1,()))),()) else Ze (a.2.1.2.2.2.2.2.2.2.2.2.2.2.2.2.2.2.1.length+ ([(d.2.2.2.2.2.2.2.2.2.2.2.2.2.2.1,(a.1.1,()))]).length<=Qo)<|(Zfj a.1.1).bind fun l=>some ((l.1,(d.2.2.2.2.2.2.2.2.2.2.2.2.2.2.1,((a.2.1.1,(a.2.1.2.1,(a.2.1.2.2.1,(a.2.1.2.2.2.1,(a.2.1.2.2.2.2.1,(a.2.1.2.2.2.2.2.1,(a.2.1.2.2.2.2.2.2.1,(a.2.1.2.2.2.2.2.2.2.1,(a.2.1.2.2.2.2.2.2.2.2.1,(a.2.1.2.2.2.2.2.2.2.2.2.1,(a.2.1.2.2.2.2.2.2.2.2.2.2.1,(a.2.1.2.2.2.2.2.2.2.2.2.2.2.1,(a.2.1.2.2.2.2.2.2.2.2.2.2.2.2.1,(a.2.1.2.2.2.2.2.2.2.2.2.2.2.2.2.1,(IntKind.i64.wrap (d.2.2.2.2.2.2.2.2.2.2.2.2.2.2.1+1),(a.2.1.2.2.2.2.2.2.2.2.2.2.2.2.2.2.2.1++ ([(d.2.2.2.2.2.2.2.2.2.2.2.2.2.2.1,(a.1.1,()))]),a.2.1.2.2.2.2.2.2.2.2.2.2.2.2.2.2.2.2)))))))))))))))),()))),())
def Zgh(a:Zf)(b:Int):Option ((List UInt8×Int×Zf×Unit)×(Unit)):=(Z4 a).bind fun c=>(Jx a).bind fun d=>(bif(!d.1)then some (false,())else(Z5 b (1:Int) (400:Int))).bind fun f=>bif((!d.1)|| (!f.1))|| (decide (a.2.2.2.2.2.2.2.2.2.2.2.2.2.2.1>=(1000000:Int)))then some ((([]:List UInt8),((-1:Int),(c.1,()))),()) else (Zkg a).bind fun e=>Y4 (Zi8 a Vg c.1 ([]:List Zi) b e.1 (0:Int)) a Vg c.1 ([]:List Zi) b e.1 (0:Int)
def V9(c:Qb)(b:List Int):Option ((Int×Unit)×(Qb×Unit)):=(Z7 c (b.length:Int)).bind fun a=>Ze (0<=a.1.1/\a.1.1<b.length)<|some ((b.getD a.1.1.toNat (0:Int),()),(a.2.1,()))
def Zns(j:Qb):Option ((Zi×Unit)×(Qb×Unit)):=(V9 j ([(4:Int),(5:Int),(8:Int),(8:Int),(8:Int),(8:Int),(16:Int),(17:Int),(18:Int),(20:Int),(21:Int),(22:Int)])).bind fun a=>(Z7 a.2.1 (8:Int)).bind fun b=>(Z7 b.2.1 (12:Int)).bind fun c=>(Zj5 c.2.1 (6:Int)).bind fun d=>(Zag d.2.1 (4:Int)).bind fun e=>(Z7 e.2.1 (5:Int)).bind fun f=>(Z7 f.2.1 (40:Int)).bind fun g=>(Z7 g.2.1 (14:Int)).bind fun h=>(Zag h.2.1 (2:Int)).bind fun i=>Option.bind (Zhf (a.1.1,(b.1.1,(c.1.1,(d.1.1,(e.1.1,(f.1.1,(g.1.1,(h.1.1,(i.1.1,())))))))))) fun k=>some ((k.1,()),(i.2.1,()))
def Zkh(a:Int):Option (Int×Unit):=(Qj a).bind fun b=>bif !b.1 then some ((-1:Int),()) else Ze (0<=(2:Int))<|some (a.fdiv (2^ (min (2:Int).toNat IntKind.i64.bits)),())
def Zhu(a:Q8)(b:Int):Option (Q8×Int×Bool×Unit):=
 (Vp a).bind fun d=>
 bif((!d.1)|| (decide (b< (0:Int))))|| (decide (b>=a.2.1))then
  some (a,(0:Int),false,())
 else
  let c:Int:=max (0:Int) (IntKind.i64.wrap ((IntKind.i64.wrap (b+1))-a.2.2.1))
  some ((a.1,(a.2.1,(IntKind.i64.wrap (a.2.2.1+c),a.2.2.2))),c,true,())
abbrev Qgs:List PE:=[.box 0 37 (Zo) (.u true),.val 1 (.int .i64) (.u false),.val 6 (.int .i64) (.u false),.box 7 67 (Zw) (.u true)]
def Zgm(K1: (Zf×Int×Int×Unit)->Option ((Unit)×(Zf×Unit)))(a:Zf)(b c:Int)(d:Zd):Option ((Unit)×(Zf×Unit)):=(Ql a.2.2.2.1 d).bind fun e=>K1 ((a.1,(a.2.1,(a.2.2.1,(e.1,a.2.2.2.2)))),b,IntKind.i64.wrap (c-1),())
abbrev Qgt:List PE:=[.box 0 37 (Zo) (.u true),.val 1 (.int .i64) (.u false),.val 6 (.int .i64) (.u false)]
def Zha(b:Zf)(c a:Int):Nat:=(a-0).toNat+2
def Ki:Nat->Zf->Int->Int->Option ((Unit)×(Zf×Unit))
 |0,_,_,_=>none
 |N+1,a,c,b=>
  bif decide (b>=(0:Int))then
   let d:Int:=IntKind.i64.wrap (c- (IntKind.i64.wrap ((4:Int)*b)))
   Zkp 1 (
    (Je a.1 d a.2.1 a.2.2.1).bind fun e=>
    Zgm (fun v=>Ki N v.1 v.2.1 v.2.2.1) a c b e.1
   )
  else
   some ((),(a,()))
def Znn(a:Zf)(b c:Int):Option ((Unit)×(Zf×Unit)):=Ki (Zha a b (IntKind.i64.wrap (c-1))) a b (IntKind.i64.wrap (c-1))
abbrev Z1b:List PE:=[.val 1 (.int .i64) (.u false),.box 4 37 (Zo) (.u true),.box 6 37 (Zo) (.p (.u false) (.p (.u false) (.p (.u false) (.p (.u true) (.p (.u false) (.p (.u false) (.p (.u false) (.p (.u false) (.p (.u false) (.p (.u false) (.u true))))))))))),.val 9 (.int .i64) (.u false)]
def Yz(a:Int)(e b:Zf)(c:Int):Option (Zf×Int×Unit):=(Znn b a c).bind fun d=>some (d.2.1,(0:Int),())
abbrev Z1a:List PE:=[.val 1 (.int .i64) (.u false),.box 2 37 (Zo) (.u false),.box 4 37 (Zo) (.u true),.box 6 37 (Zo) (.u true),.box 8 34 (Q1) (.u false),.val 9 (.int .i64) (.u false),.val 10 (.bool) (.u false)]
def Kw(c:Int)(f d a:Zf)(e:Q8)(b:Int)(g:Bool):Option (Zf×Int×Unit):=bif((!g)|| (b==0))|| (decide ((IntKind.i64.wrap ((f.2.2.2.1.length:Int)+b))>24))then some (a,(4:Int),()) else (Vq c).bind fun h=>bif h.1 then Yz c d (a.1,(a.2.1,(a.2.2.1,(a.2.2.2.1,(a.2.2.2.2.1,(a.2.2.2.2.2.1,(a.2.2.2.2.2.2.1,(a.2.2.2.2.2.2.2.1,(a.2.2.2.2.2.2.2.2.1,(e,a.2.2.2.2.2.2.2.2.2.2)))))))))) b else Yz c d (a.1,(a.2.1,(a.2.2.1,(a.2.2.2.1,(a.2.2.2.2.1,(a.2.2.2.2.2.1,(a.2.2.2.2.2.2.1,(a.2.2.2.2.2.2.2.1,(e,a.2.2.2.2.2.2.2.2.2))))))))) b
abbrev Z09:List PE:=[.val 1 (.int .i64) (.u false),.box 2 37 (Zo) (.u false),.box 4 37 (Zo) (.u true),.box 6 37 (Zo) (.u true),.box 7 34 (Q1) (.u false)]
def Xg(b:Int)(d e f:Zf)(g:Q8):Option (Zf×Int×Unit):=Zeh ((Zkh b).bind fun c=>Zkp 1 ((Zhu g c.1).bind fun a=>Kw b d e f a.1 a.2.1 a.2.2.1)) ((Zkh b).bind fun c=>(Zhu g c.1).bind fun a=>Kw b d e f a.1 a.2.1 a.2.2.1)
def Yy(a:Zf)(b:Int):Option (Zf×Int×Unit):=(Z4 a).bind fun c=>(Ya a).bind fun d=>(bif(!d.1)then some (false,())else(Qj b)).bind fun e=>bif(!d.1)|| (!e.1)then some (c.1,(7:Int),()) else (Xv a.2.2.2.1 b).bind fun f=>bif decide (f.1>=(0:Int))then some (c.1,(0:Int),()) else (Zdk a.1 b).bind fun g=>bif g.1 then some (c.1,(5:Int),()) else (Vq b).bind fun h=>bif h.1 then Xg b a Vg c.1 a.2.2.2.2.2.2.2.2.2.1 else Xg b a Vg c.1 a.2.2.2.2.2.2.2.2.1
def Zkm(a:Zu)(b:Int)(c:Bool):Option (Int×Unit):=bif((a.2.2.1 !=(-1:Int))&& ((decide (b>a.2.2.1))|| (c&& (b !=a.2.2.1))))|| (c&& (decide (b<a.2.2.2.1)))then some ((6:Int),()) else some ((0:Int),())
abbrev Z03:List PE:=[.box 1 61 (Q2) (.u false),.val 3 (.slice 222 (Zx)) (.u true),.val 4 (.int .i64) (.u false)]
def Zbk(a:Zs)(c:List Zh)(b:Int):Nat:=((a.2.1.length:Int)-b).toNat+1
def Ku:Nat->Zs->List Zh->Int->Option (List Zh×Unit)
 |0,_,_,_=>none
 |N+1,b,c,a=>
  (bif(decide (a< (b.2.1.length:Int)))then(Zek b)else some (false,())).bind fun e=>
  bif(decide (a< (b.2.1.length:Int)))&&e.1 then
   Ze (0<=a/\a<b.2.1.length)<|
   Ze (0<=a/\a<b.2.1.length)<|
   Ze (0<=a/\a<b.2.1.length)<|
   let d:List Zh:=[((b.2.1.getD a.toNat Qf).1,(IntKind.i64.wrap ((b.2.1.getD a.toNat Qf).1+ ((b.2.1.getD a.toNat Qf).2.1.length:Int)),()))]
   Ze (c.length+d.length<=Qo)<|
   Ku N b (c++d) (IntKind.i64.wrap (a+1))
  else
   some (c,())
def Zlx(a:Zs):Option (List Zh×Unit):=Ku (Zbk a ([]:List Zh) (0:Int)) a ([]:List Zh) (0:Int)
abbrev Qka:List PE:=[.val 1 (.int .i64) (.u false),.box 2 61 (Q2) (.u false),.val 5 (.int .i64) (.u false)]
def Zh4(c:Int)(a:Zs)(b:Int):Nat:=((a.2.1.length:Int)-b).toNat+1
def Zcy:Nat->Int->Zs->Int->Option (Int×Unit)
 |0,_,_,_=>none
 |N+1,d,b,a=>
  bif decide (a< (b.2.1.length:Int))then
   Ze (0<=a/\a<b.2.1.length)<|
   let c:Int:=IntKind.i64.wrap (d- (b.2.1.getD a.toNat Qf).1)
   Ze (((decide (d>=(0:Int)))=true->(0<=a/\a<b.2.1.length)))<|
   let e:Bool:=((decide (d>=(0:Int)))&& (decide ((b.2.1.getD a.toNat Qf).1>=(0:Int))))&& (decide (c>=(0:Int)))
   Ze ((e=true->(0<=a/\a<b.2.1.length)))<|
   bif e&& (decide (c< ((b.2.1.getD a.toNat Qf).2.1.length:Int)))then
    Ze (0<=a/\a<b.2.1.length)<|
    Ze (0<=c/\c< (b.2.1.getD a.toNat Qf).2.1.length)<|
    some (IntKind.i64.wrap (((b.2.1.getD a.toNat Qf).2.1.getD c.toNat 0).toNat:Int),())
   else
    Zcy N d b (IntKind.i64.wrap (a+1))
  else
   some ((-1:Int),())
def Zp5(a:Zs)(b:Int):Option (Int×Unit):=Zcy (Zh4 b a (0:Int)) b a (0:Int)
abbrev Z5d:List PE:=[.val 1 (.int .i64) (.u false),.val 2 (.str) (.u false),.box 3 61 (Q2) (.u false),.box 6 61 (Q2) (.u true),.box 9 61 (Q2) (.p (.u false) (.u true)),.val 10 (.slice 222 (Zx)) (.u true),.val 11 (.int .i64) (.u false),.val 12 (.str) (.u false),.val 13 (.int .i64) (.u false),.val 14 (.int .i64) (.u false)]
def Wq(K1: (Int×List UInt8×Zs×Zs×Zs×List Zh×Int×Unit)->Option (Zs×Unit))(K2: (Int×List UInt8×Zs×Zs×Zs×List Zh×Int×List UInt8×Int×Unit)->Option (Zs×Unit))(c:Int)(d:List UInt8)(e f g:Zs)(h:List Zh)(i:Int)(a:List UInt8)(j k:Int):Option (Zs×Unit):=(Zj3 k).bind fun b=>Ze (a.length+b.1.length<=Ka)<|K2 (c,d,e,f,g,h,i,a++b.1,IntKind.i64.wrap (j+1),())
abbrev Z5f:List PE:=[.val 1 (.int .i64) (.u false),.val 2 (.str) (.u false),.box 3 61 (Q2) (.u false),.box 6 61 (Q2) (.u true),.box 9 61 (Q2) (.p (.u false) (.u true)),.val 10 (.slice 222 (Zx)) (.u true),.val 11 (.int .i64) (.u false),.val 12 (.str) (.u false),.val 13 (.int .i64) (.u false)]
def J0(d:Int)(e:List UInt8)(f g h:Zs)(a:List Zh)(b:Int)(i:List UInt8)(c:Int):Nat:=((a.getD b.toNat Zz).2.1-c).toNat+1
def Xx(K1: (Int×List UInt8×Zs×Zs×Zs×List Zh×Int×Unit)->Option (Zs×Unit)):Nat->Int->List UInt8->Zs->Zs->Zs->List Zh->Int->List UInt8->Int->Option (Zs×Unit)
 |0,_,_,_,_,_,_,_,_,_=>none
 |N+1,d,f,g,h,e,b,a,i,c=>
  Ze (0<=a/\a<b.length)<|
  bif decide (c< (b.getD a.toNat Zz).2.1)then
   (Zp5 g c).bind fun j=>
   bif decide (j.1< (0:Int))then
    Ze (0<=(IntKind.i64.wrap (c-d))/\(IntKind.i64.wrap (c-d))<f.length)<|
    Wq K1 (fun v=>Xx K1 N v.1 v.2.1 v.2.2.1 v.2.2.2.1 v.2.2.2.2.1 v.2.2.2.2.2.1 v.2.2.2.2.2.2.1 v.2.2.2.2.2.2.2.1 v.2.2.2.2.2.2.2.2.1) d f g h e b a i c (IntKind.i64.wrap ((f.getD (IntKind.i64.wrap (c-d)).toNat 0).toNat:Int))
   else
    Wq K1 (fun v=>Xx K1 N v.1 v.2.1 v.2.2.1 v.2.2.2.1 v.2.2.2.2.1 v.2.2.2.2.2.1 v.2.2.2.2.2.2.1 v.2.2.2.2.2.2.2.1 v.2.2.2.2.2.2.2.2.1) d f g h e b a i c j.1
  else
   Ze (0<=a/\a<b.length)<|
   let k:List Z1:=[((b.getD a.toNat Zz).1,(i,()))]
   Ze (e.2.1.length+k.length<=Qo)<|
   K1 (d,f,g,h,(e.1,(e.2.1++k,e.2.2)),b,IntKind.i64.wrap (a+1),())
abbrev Z5e:List PE:=[.val 1 (.int .i64) (.u false),.val 2 (.str) (.u false),.box 3 61 (Q2) (.u false),.box 6 61 (Q2) (.u true),.box 9 61 (Q2) (.p (.u false) (.u true)),.val 10 (.slice 222 (Zx)) (.u true),.val 11 (.int .i64) (.u false)]
def Jz(c:Int)(d:List UInt8)(e f g:Zs)(a:List Zh)(b:Int):Nat:=((a.length:Int)-b).toNat+1
def K7:Nat->Int->List UInt8->Zs->Zs->Zs->List Zh->Int->Option (Zs×Unit)|0,_,_,_,_,_,_,_=>none|N+1,d,e,f,g,c,b,a=>bif decide (a< (b.length:Int))then Ze (0<=a/\a<b.length)<|Xx (fun v=>K7 N v.1 v.2.1 v.2.2.1 v.2.2.2.1 v.2.2.2.2.1 v.2.2.2.2.2.1 v.2.2.2.2.2.2.1) (J0 d e f g c b a ([]:List UInt8) (b.getD a.toNat Zz).1) d e f g c b a ([]:List UInt8) (b.getD a.toNat Zz).1 else some (c,())
def Zgi(a:Zs)(b:Int)(c:List UInt8):Option (Zs×Unit):=
 (Zek a).bind fun f=>
 bif(((!f.1)|| (c==([]:List UInt8)))|| (decide (b< (0:Int))))|| (decide (b>(IntKind.i64.wrap ((4611686018427387903:Int)- (c.length:Int)))))then
  (Zj6 a).bind fun g=>
  some (g.1,())
 else
  let d:Int:=IntKind.i64.wrap (b+ (c.length:Int))
  bif decide ((max b a.1)>=d)then
   (Zj6 a).bind fun h=>
   some (h.1,())
  else
   (Zlx a).bind fun i=>
   (Zal i.1 (max b a.1,(d,()))).bind fun e=>
   K7 (Jz b c a ((0:Int),(([]:List Z1),())) (a.1,(([]:List Z1),())) e.1 (0:Int)) b c a ((0:Int),(([]:List Z1),())) (a.1,(([]:List Z1),())) e.1 (0:Int)
abbrev Z2z:List PE:=[.box 8 63 (Z8) (.u true),.box 10 63 (Z8) (.p (.u false) (.p (.u true) (.u false)))]
def Zd5(b a:Zu):Option (Zu×Int×Unit):=some (a,(0:Int),())
abbrev Z2y:List PE:=[.val 1 (.int .i64) (.u false),.val 2 (.str) (.u false),.box 4 63 (Z8) (.u false),.box 8 63 (Z8) (.u true),.box 10 63 (Z8) (.p (.u false) (.p (.u true) (.u false)))]
def Kg(d:Int)(e:List UInt8)(f c a:Zu):Option (Zu×Int×Unit):=(Zgi f.2.1 d e).bind fun b=>(bif(a.2.2.1 !=(-1:Int))then(Zbf b.1)else some ((0:Int),())).bind fun g=>bif(a.2.2.1 !=(-1:Int))&& ((IntKind.i64.wrap (b.1.1+g.1))==a.2.2.1)then Zd5 c ((2:Int),(b.1,a.2.2)) else Zd5 c (a.1,(b.1,a.2.2))
def Yu(a:Zu)(c:Int)(d:List UInt8)(f:Bool):Option (Zu×Int×Unit):=
 (Zhg a).bind fun b=>
 (Xc a).bind fun h=>
 bif((!h.1)|| (decide (c< (0:Int))))|| (decide (c>(IntKind.i64.wrap ((4611686018427387903:Int)- (d.length:Int)))))then
  some (b.1,(7:Int),())
 else
  let e:Int:=IntKind.i64.wrap (c+ (d.length:Int))
  (Zkm a e f).bind fun g=>
  bif(g.1 !=0)|| (decide (a.1>(1:Int)))then
   some (b.1,g.1,())
  else
   bif f then
    Kg c d a Znu ((1:Int),(b.1.2.1,(e,(max a.2.2.2.1 e,b.1.2.2.2.2))))
   else
    Kg c d a Znu (b.1.1,(b.1.2.1,(b.1.2.2.1,(max a.2.2.2.1 e,b.1.2.2.2.2))))
def Zlb(a:Zu)(b:Int):Option (Int×Unit):=(Xc a).bind fun c=>(bif(!c.1)then some (false,())else(Qj b)).bind fun d=>bif(!c.1)|| (!d.1)then some ((0:Int),()) else some (max (0:Int) (IntKind.i64.wrap (b-a.2.2.2.1)),())
def Zht(a:Qw)(b:Int):Option (Qw×Bool×Unit):=(V8 a).bind fun c=>bif((!c.1)|| (decide (b< (0:Int))))|| (decide (b>(IntKind.i64.wrap (a.2.2.1-a.2.2.2.1))))then some (a,false,()) else some ((a.1,(a.2.1,(a.2.2.1,(IntKind.i64.wrap (a.2.2.2.1+b),a.2.2.2.2)))),true,())
def Zef(a:Zf)(b:Zd)(f:Int):Option ((Int×Unit)×(Zf×Zd×Unit)):=(Zlb b.2.2.2.1 f).bind fun c=>bif c.1==0 then some (((0:Int),()),(a,(b,()))) else (Zht b.2.2.2.2.1 c.1).bind fun d=>(Zht a.2.2.2.2.2.1 c.1).bind fun e=>bif(!d.2.1)|| (!e.2.1)then some (((3:Int),()),(a,(b,()))) else some (((0:Int),()),((a.1,(a.2.1,(a.2.2.1,(a.2.2.2.1,(a.2.2.2.2.1,(e.1,a.2.2.2.2.2.2)))))),((b.1,(b.2.1,(b.2.2.1,(b.2.2.2.1,(d.1,b.2.2.2.2.2))))),())))
def Zbc(b:Zf)(a:Zi):Option ((Zf×Int×Unit)×(Unit)):=(Ya b).bind fun f=>(bif(!f.1)then some (false,())else(Jt a)).bind fun h=>bif((!f.1)|| (!h.1))|| (a.1 !=8)then (Z4 b).bind fun i=>some ((i.1,((7:Int),())),()) else (Q4 b.1 a.2.1).bind fun j=>bif !j.1 then (Z4 b).bind fun k=>some ((k.1,((5:Int),())),()) else (Yy b a.2.1).bind fun d=>bif d.2.1 !=0 then (Z4 b).bind fun l=>some ((l.1,(d.2.1,())),()) else (Qy d.1 a.2.1).bind fun g=>(Yu g.1.2.2.2.1 a.2.2.1 a.2.2.2.1 a.2.2.2.2.1).bind fun e=>(Zef d.1 g.1 (IntKind.i64.wrap (a.2.2.1+ (a.2.2.2.1.length:Int)))).bind fun c=>bif c.1.1 !=0 then (Z4 b).bind fun m=>some ((m.1,(c.1.1,())),()) else bif e.2.1 !=0 then (Z4 b).bind fun n=>some ((n.1,(e.2.1,())),()) else (Jw c.2.1 (c.2.2.1.1,(c.2.2.1.2.1,(c.2.2.1.2.2.1,(e.1,c.2.2.1.2.2.2.2))))).bind fun o=>some ((o.2.1,((0:Int),())),())
def Ju(a:Zu)(d b:Int):Option (Zu×Int×Unit):=(Zhg a).bind fun e=>(Xc a).bind fun c=>(bif(!c.1)then some (false,())else(Qj d)).bind fun f=>(bif((!c.1)|| (!f.1))then some (false,())else(Qj b)).bind fun h=>bif((!c.1)|| (!f.1))|| (!h.1)then some (e.1,(7:Int),()) else (Zkm a b true).bind fun g=>bif(g.1 !=0)|| (decide (a.1>(1:Int)))then some (e.1,g.1,()) else some (((4:Int),((a.2.1.1,(([]:List Z1),())),(b,(b,(d,()))))),(0:Int),())
abbrev Z2w:List PE:=[.box 4 37 (Zo) (.u true),.box 6 37 (Zo) (.u false),.box 8 67 (Zw) (.u false),.box 10 63 (Z8) (.u true)]
def Jm(e b:Zf)(a:Zd)(c:Zu):Option ((Zf×Int×Unit)×(Unit)):=(Jw b (a.1,(a.2.1,(a.2.2.1,(c,a.2.2.2.2))))).bind fun d=>some ((d.2.1,((0:Int),())),())
def Zab(b:Zf)(a:Zi):Option ((Zf×Int×Unit)×(Unit)):=(Ya b).bind fun f=>(bif(!f.1)then some (false,())else(Jt a)).bind fun i=>bif((!f.1)|| (!i.1))|| (a.1 !=4)then (Z4 b).bind fun j=>some ((j.1,((7:Int),())),()) else (Q4 b.1 a.2.1).bind fun k=>bif !k.1 then (Z4 b).bind fun l=>some ((l.1,((5:Int),())),()) else (Yy b a.2.1).bind fun e=>bif e.2.1 !=0 then (Z4 b).bind fun m=>some ((m.1,(e.2.1,())),()) else (Qy e.1 a.2.1).bind fun g=>(Ju g.1.2.2.2.1 a.2.2.2.2.2.1 a.2.2.2.2.2.2.2.1).bind fun d=>(Zef e.1 g.1 a.2.2.2.2.2.2.2.1).bind fun c=>bif c.1.1 !=0 then (Z4 b).bind fun n=>some ((n.1,(c.1.1,())),()) else bif d.2.1 !=0 then (Z4 b).bind fun o=>some ((o.1,(d.2.1,())),()) else bif(d.1.1==4)&& (c.2.2.1.2.2.2.1.1 !=4)then (Zhb c.2.1 c.2.2.1 a.2.2.2.2.2.2.2.1).bind fun h=>Jm Vg h.2.1 h.2.2.1 d.1 else Jm Vg c.2.1 c.2.2.1 d.1
abbrev Z5c:List PE:=[.box 4 37 (Zo) (.u true),.box 6 37 (Zo) (.u true),.box 8 67 (Zw) (.p (.u false) (.p (.u true) (.p (.u false) (.p (.u true) (.u false)))))]
def Vc(d a:Zf)(b:Zd):Option ((Zf×Int×Unit)×(Unit)):=(Jw a b).bind fun c=>some ((c.2.1,((0:Int),())),())
def Zbd(b:Zf)(c:Zi):Option ((Zf×Int×Unit)×(Unit)):=(Ya b).bind fun e=>(bif(!e.1)then some (false,())else(Jt c)).bind fun g=>bif((!e.1)|| (!g.1))|| (c.1 !=5)then (Z4 b).bind fun h=>some ((h.1,((7:Int),())),()) else (Yx b.1 c.2.1).bind fun i=>bif !i.1 then (Z4 b).bind fun j=>some ((j.1,((5:Int),())),()) else (Yy b c.2.1).bind fun d=>bif d.2.1 !=0 then (Z4 b).bind fun k=>some ((k.1,(d.2.1,())),()) else (Qy d.1 c.2.1).bind fun a=>(Zae a.1.2.1 c.2.2.2.2.2.1).bind fun f=>bif f.2.1 then Vc Vg d.1 (a.1.1,(f.1,(a.1.2.2.1,(a.1.2.2.2.1,(a.1.2.2.2.2.1,(a.1.2.2.2.2.2.1,(a.1.2.2.2.2.2.2.1,(a.1.2.2.2.2.2.2.2.1,(true,a.1.2.2.2.2.2.2.2.2.2))))))))) else Vc Vg d.1 a.1
def Zdm(a:Q8)(b:Int):Option (Q8×Unit):=(Yn a).bind fun c=>(bif(!c.1)then some (false,())else(Qj b)).bind fun d=>bif((!c.1)|| (!d.1))|| (decide (b<=a.1))then some (a,()) else some ((b,(a.2.1,((-1:Int),a.2.2.2))),())
def Zdl(a:Zdh)(b:Int):Option (Zdh×Unit):=(Zco a).bind fun c=>bif((!c.1)|| (decide (b<=a.1)))|| (decide (b>(1152921504606846976:Int)))then some (a,()) else some ((b,(a.2.1,((-1:Int),a.2.2.2))),())
abbrev Qct:List PE:=[.box 4 37 (Zo) (.u true),.box 7 37 (Zo) (.p (.u false) (.p (.u false) (.p (.u false) (.u true))))]
def Zez(b a:Zf):Option (Zf×Int×Unit):=some (a,(0:Int),())
abbrev Qcs:List PE:=[.box 2 37 (Zo) (.u false),.box 3 50 (Zq) (.u false),.box 4 37 (Zo) (.u true),.val 6 (.bool) (.u false)]
def Zaf(d:Zf)(b:Zi)(e:Zf)(f:Bool):Option (Zf×Int×Unit):=bif !f then (Z4 d).bind fun g=>some (g.1,(5:Int),()) else (Yy d b.2.1).bind fun a=>bif a.2.1 !=0 then (Z4 d).bind fun h=>some (h.1,a.2.1,()) else bif b.1==17 then (Qy a.1 b.2.1).bind fun c=>(Zdm c.1.2.2.1 b.2.2.2.2.2.2.1).bind fun i=>(Ql a.1.2.2.2.1 (c.1.1,(c.1.2.1,(i.1,c.1.2.2.2)))).bind fun j=>Zez e (a.1.1,(a.1.2.1,(a.1.2.2.1,(j.1,a.1.2.2.2.2)))) else Zez e a.1
def Zhv(b:Zf)(a:Zi):Option (Zf×Int×Unit):=(Yx b.1 a.2.1).bind fun c=>bif a.1==21 then (Q4 b.1 a.2.1).bind fun d=>Zaf b a Vg d.1 else Zaf b a Vg c.1
abbrev Z2t:List PE:=[.box 4 37 (Zo) (.u true),.box 6 37 (Zo) (.p (.u false) (.p (.u false) (.p (.u false) (.p (.u true) (.p (.u false) (.p (.u false) (.p (.u false) (.p (.u false) (.u true)))))))))]
def Za5(b a:Zf):Option (Zf×Int×Unit):=some (a,(0:Int),())
abbrev Z2v:List PE:=[.box 2 37 (Zo) (.u false),.box 3 50 (Zq) (.u false),.box 4 37 (Zo) (.u true),.box 6 37 (Zo) (.u true),.val 52 (.bool) (.u false)]
def Jl(b:Zf)(c:Zi)(f d:Zf)(e:Bool):Option (Zf×Int×Unit):=bif e then (Zhv b c).bind fun a=>some (a.1,a.2.1,()) else some (d,(7:Int),())
abbrev Z2u:List PE:=[.box 2 37 (Zo) (.u false),.box 3 50 (Zq) (.u false),.box 4 37 (Zo) (.u true),.box 6 37 (Zo) (.u true),.val 21 (.int .i64) (.u false),.val 48 (.bool) (.u false)]
def Jk(c:Zf)(d:Zi)(e a:Zf)(b:Int)(f:Bool):Option (Zf×Int×Unit):=bif f then some (a,(0:Int),()) else bif b==17 then Jl c d e a (b==17) else Jl c d e a (b==21)
def Zaa(c:Zf)(b:Zi):Option (Zf×Int×Unit):=(Z4 c).bind fun a=>(Ya c).bind fun d=>(bif(!d.1)then some (false,())else(Jt b)).bind fun e=>bif(!d.1)|| (!e.1)then some (a.1,(7:Int),()) else bif b.1==16 then (Zdm c.2.2.2.2.1 b.2.2.2.2.2.2.1).bind fun f=>some ((a.1.1,(a.1.2.1,(a.1.2.2.1,(a.1.2.2.2.1,(f.1,a.1.2.2.2.2.2))))),(0:Int),()) else bif b.1==18 then bif b.2.2.2.2.2.2.2.2.1 then (Zdl c.2.2.2.2.2.2.2.1 b.2.2.2.2.2.2.1).bind fun g=>Za5 Vg (a.1.1,(a.1.2.1,(a.1.2.2.1,(a.1.2.2.2.1,(a.1.2.2.2.2.1,(a.1.2.2.2.2.2.1,(a.1.2.2.2.2.2.2.1,(g.1,a.1.2.2.2.2.2.2.2.2)))))))) else (Zdl c.2.2.2.2.2.2.1 b.2.2.2.2.2.2.1).bind fun h=>Za5 Vg (a.1.1,(a.1.2.1,(a.1.2.2.1,(a.1.2.2.2.1,(a.1.2.2.2.2.1,(a.1.2.2.2.2.2.1,(h.1,a.1.2.2.2.2.2.2.2))))))) else bif b.1==20 then Jk c b Vg a.1 b.1 (b.1==20) else Jk c b Vg a.1 b.1 (b.1==22)
abbrev Z2s:List PE:=[.box 4 37 (Zo) (.u true),.box 6 37 (Zo) (.p (.u true) (.p (.p (.u true) (.p (.u true) (.p (.u true) (.p (.u true) (.p (.u true) (.p (.u true) (.p (.u true) (.p (.u true) (.u true))))))))) (.p (.p (.u true) (.p (.u true) (.p (.u true) (.p (.u true) (.p (.u true) (.p (.u true) (.p (.u true) (.p (.u true) (.u true))))))))) (.p (.u false) (.p (.p (.u true) (.p (.u true) (.p (.u true) (.p (.u true) (.u true))))) (.p (.p (.u true) (.p (.u true) (.p (.u true) (.p (.u true) (.p (.u true) (.p (.u true) (.u true))))))) (.p (.p (.u true) (.p (.u true) (.p (.u true) (.u true)))) (.p (.p (.u true) (.p (.u true) (.p (.u true) (.u true)))) (.p (.p (.u true) (.p (.u true) (.p (.u true) (.p (.u true) (.u true))))) (.p (.p (.u true) (.p (.u true) (.p (.u true) (.p (.u true) (.u true))))) (.p (.u true) (.p (.u true) (.p (.u true) (.p (.u true) (.p (.u true) (.p (.u false) (.p (.u true) (.p (.u true) (.u true))))))))))))))))))),.val 7 (.int .i64) (.u false)]
def Jj(c a:Zf)(b:Int):Option ((Zf×Int×Unit)×(Unit)):=some ((a,(b,())),())
def Jg(b:Zf)(a:Zi):Option ((Zf×Int×Unit)×(Unit)):=(Z4 b).bind fun g=>bif a.1==8 then (Zbc b a).bind fun c=>Jj Vg c.1.1 c.1.2.1 else bif a.1==4 then (Zab b a).bind fun d=>Jj Vg d.1.1 d.1.2.1 else bif a.1==5 then (Zbd b a).bind fun e=>Jj Vg e.1.1 e.1.2.1 else (Zaa b a).bind fun f=>Jj Vg f.1 f.2.1
abbrev Qco:List PE:=[.val 1 (.int .i64) (.u false),.box 2 37 (Zo) (.u false),.box 4 88 (Y9) (.u true),.val 6 (.int .i64) (.u false)]
def Zll(c:Int)(a:Zf)(d:Z9)(b:Int):Nat:=((a.2.2.2.2.2.2.2.2.2.2.2.2.2.2.2.1.length:Int)-b).toNat+1
def Zjk:Nat->Int->Zf->Z9->Int->Option (Z9×Bool×Unit)|0,_,_,_,_=>none|N+1,c,b,d,a=>bif decide (a< (b.2.2.2.2.2.2.2.2.2.2.2.2.2.2.2.1.length:Int))then Ze (0<=a/\a<b.2.2.2.2.2.2.2.2.2.2.2.2.2.2.2.1.length)<|bif(b.2.2.2.2.2.2.2.2.2.2.2.2.2.2.2.1.getD a.toNat Qk).1==c then Ze (0<=a/\a<b.2.2.2.2.2.2.2.2.2.2.2.2.2.2.2.1.length)<|Ze (([]:List Zi).length+ (b.2.2.2.2.2.2.2.2.2.2.2.2.2.2.2.1.getD a.toNat Qk).2.1.length<=Qo)<|some ((c,(([]:List Zi)++ (b.2.2.2.2.2.2.2.2.2.2.2.2.2.2.2.1.getD a.toNat Qk).2.1,())),true,()) else Zjk N c b d (IntKind.i64.wrap (a+1)) else some (((0:Int),(([]:List Zi),())),false,())
def Zon(a:Zf)(b:Int):Option (Z9×Bool×Unit):=Zjk (Zll b a ((0:Int),(([]:List Zi),())) (0:Int)) b a ((0:Int),(([]:List Zi),())) (0:Int)
abbrev Qg3:List PE:=[.box 0 37 (Zo) (.u false),.val 1 (.int .i64) (.u false),.val 4 (.slice 88 (Y9)) (.p (.u true) (.u false)),.val 5 (.int .i64) (.u false)]
def Zdu(K1: (Zf×Int×List Z9×Int×Unit)->Option ((Unit)×(Zf×Unit)))(a:Zf)(b:Int)(c:List Z9)(d:Int):Option ((Unit)×(Zf×Unit)):=K1 (a,b,c,IntKind.i64.wrap (d+1),())
abbrev Qg4:List PE:=[.box 0 37 (Zo) (.u false),.val 1 (.int .i64) (.u false),.val 4 (.slice 88 (Y9)) (.p (.u true) (.u false)),.val 5 (.int .i64) (.u false)]
def Zm4(a:Zf)(c:Int)(d:List Z9)(b:Int):Nat:=((a.2.2.2.2.2.2.2.2.2.2.2.2.2.2.2.1.length:Int)-b).toNat+1
def Vk:Nat->Zf->Int->List Z9->Int->Option ((Unit)×(Zf×Unit))|0,_,_,_,_=>none|N+1,a,d,c,b=>bif decide (b< (a.2.2.2.2.2.2.2.2.2.2.2.2.2.2.2.1.length:Int))then Ze (0<=b/\b<a.2.2.2.2.2.2.2.2.2.2.2.2.2.2.2.1.length)<|bif(a.2.2.2.2.2.2.2.2.2.2.2.2.2.2.2.1.getD b.toNat Qk).1 !=d then Ze (0<=b/\b<a.2.2.2.2.2.2.2.2.2.2.2.2.2.2.2.1.length)<|Ze (c.length+ ([(a.2.2.2.2.2.2.2.2.2.2.2.2.2.2.2.1.getD b.toNat Qk)]).length<=Qo)<|Zdu (fun v=>Vk N v.1 v.2.1 v.2.2.1 v.2.2.2.1) a d (c++ ([(a.2.2.2.2.2.2.2.2.2.2.2.2.2.2.2.1.getD b.toNat Qk)])) b else Zdu (fun v=>Vk N v.1 v.2.1 v.2.2.1 v.2.2.2.1) a d c b else some ((),((a.1,(a.2.1,(a.2.2.1,(a.2.2.2.1,(a.2.2.2.2.1,(a.2.2.2.2.2.1,(a.2.2.2.2.2.2.1,(a.2.2.2.2.2.2.2.1,(a.2.2.2.2.2.2.2.2.1,(a.2.2.2.2.2.2.2.2.2.1,(a.2.2.2.2.2.2.2.2.2.2.1,(a.2.2.2.2.2.2.2.2.2.2.2.1,(a.2.2.2.2.2.2.2.2.2.2.2.2.1,(a.2.2.2.2.2.2.2.2.2.2.2.2.2.1,(a.2.2.2.2.2.2.2.2.2.2.2.2.2.2.1,(c,a.2.2.2.2.2.2.2.2.2.2.2.2.2.2.2.2)))))))))))))))),()))
def Zkl(a:Zf)(b:Int):Option ((Unit)×(Zf×Unit)):=Vk (Zm4 a b ([]:List Z9) (0:Int)) a b ([]:List Z9) (0:Int)
def Zx0(a:Zi):Option (Ja×Unit):=some ((a.2.2.1,(a.2.2.2.1,(a.2.2.2.2.1,()))),())
abbrev Z8d:List PE:=[.box 4 58 (Z6) (.u true),.box 5 58 (Z6) (.p (.u false) (.p (.u true) (.p (.u true) (.p (.u true) (.p (.u true) (.u false))))))]
def Zg4(c a:Zp):Option (Zp×Unit):=(Za0 a).bind fun b=>some ((b.1,a.2),())
abbrev Z8c:List PE:=[.box 2 58 (Z6) (.u false),.box 3 286 (Zcr) (.u false),.box 4 58 (Z6) (.u true),.box 5 58 (Z6) (.u true)]
def Zg3(c:Zp)(d:Ja)(b a:Zp):Option (Zp×Unit):=bif d.2.2.1&& (c.2.2.2.2.2.2.1==2)then Zg4 b (a.1,(a.2.1,(a.2.2.1,(a.2.2.2.1,(a.2.2.2.2.1,(a.2.2.2.2.2.1,((1:Int),a.2.2.2.2.2.2.2))))))) else Zg4 b a
abbrev Z8e:List PE:=[.box 2 58 (Z6) (.u false),.box 3 286 (Zcr) (.u false),.box 4 58 (Z6) (.u true),.box 5 58 (Z6) (.u true),.val 6 (.slice 222 (Zx)) (.u true),.val 7 (.int .i64) (.u false)]
def Zki(c:Zp)(d:Ja)(e f:Zp)(a:List Zh)(b:Int):Nat:=((a.length:Int)-b).toNat+1
def Zg5:Nat->Zp->Ja->Zp->Zp->List Zh->Int->Option (Zp×Unit)|0,_,_,_,_,_,_=>none|N+1,d,e,f,b,c,a=>bif decide (a< (c.length:Int))then Ze (0<=a/\a<c.length)<|(Zev b.2.2.2.1 (c.getD a.toNat Zz)).bind fun g=>Ze (0<=a/\a<c.length)<|(Zal b.2.2.1 (c.getD a.toNat Zz)).bind fun h=>Zg5 N d e f (b.1,(b.2.1,(h.1,(g.1,b.2.2.2.2)))) c (IntKind.i64.wrap (a+1)) else Zg3 d e f b
def Zre(a:Zp)(b:Ja):Option (Zp×Unit):=
 (Zc7 a).bind fun c=>
 (Yb a).bind fun f=>
 let d:Bool:=(!f.1)|| (decide (a.1>(2:Int)))
 (bif d then some (false,())else(Zrm a b)).bind fun g=>
 bif d|| (!g.1)then
  some (c.1,())
 else
  bif !(b.2.1==([]:List UInt8))then
   (Znt b).bind fun h=>
   (Zde a.2.2.2.1 ([h.1])).bind fun e=>
   Zg5 (Zki a b Za1 c.1 e.1 (0:Int)) a b Za1 c.1 e.1 (0:Int)
  else
   Zg3 a b Za1 c.1
abbrev Qg6:List PE:=[.box 0 37 (Zo) (.u false),.box 4 67 (Zw) (.p (.u false) (.p (.u true) (.p (.u false) (.p (.u true) (.u false)))))]
def Vl(a:Zf)(b:Zd):Option ((Unit)×(Zf×Unit)):=(Ql a.2.2.2.1 b).bind fun c=>some ((),((a.1,(a.2.1,(a.2.2.1,(c.1,a.2.2.2.2)))),()))
abbrev Qg5:List PE:=[.box 0 37 (Zo) (.u false),.box 3 50 (Zq) (.u false),.box 4 67 (Zw) (.u true),.val 5 (.bool) (.u false)]
def Zgo(b:Zf)(c:Zi)(a:Zd)(d:Bool):Option ((Unit)×(Zf×Unit)):=(bif(!d)then some (false,())else(Wr c)).bind fun e=>bif(!d)|| (!e.1)then some ((),(b,())) else bif c.1==8 then (Zx0 c).bind fun f=>(Zre a.2.1 f.1).bind fun g=>Vl b (a.1,(g.1,a.2.2)) else bif c.1==4 then Vl b (a.1,(a.2.1,(a.2.2.1,(a.2.2.2.1,(a.2.2.2.2.1,(a.2.2.2.2.2.1,(a.2.2.2.2.2.2.1,(a.2.2.2.2.2.2.2.1,(a.2.1.1==4,a.2.2.2.2.2.2.2.2.2))))))))) else bif c.1==5 then Vl b (a.1,(a.2.1,(a.2.2.1,(a.2.2.2.1,(a.2.2.2.2.1,(a.2.2.2.2.2.1,(a.2.2.2.2.2.2.1,(a.2.2.2.2.2.2.2.1,(a.2.2.2.2.2.2.2.2.1,(decide (a.2.2.2.1.1< (2:Int)),a.2.2.2.2.2.2.2.2.2.2)))))))))) else bif c.1==17 then Vl b (a.1,(a.2.1,(a.2.2.1,(a.2.2.2.1,(a.2.2.2.2.1,(a.2.2.2.2.2.1,(a.2.2.2.2.2.2.1,(a.2.2.2.2.2.2.2.1,(a.2.2.2.2.2.2.2.2.1,(a.2.2.2.2.2.2.2.2.2.1,(true,a.2.2.2.2.2.2.2.2.2.2.2))))))))))) else Vl b a
def Znr(a:Zf)(b:Zi):Option ((Unit)×(Zf×Unit)):=bif b.1==16 then some ((),((a.1,(a.2.1,(a.2.2.1,(a.2.2.2.1,(a.2.2.2.2.1,(a.2.2.2.2.2.1,(a.2.2.2.2.2.2.1,(a.2.2.2.2.2.2.2.1,(a.2.2.2.2.2.2.2.2.1,(a.2.2.2.2.2.2.2.2.2.1,(true,a.2.2.2.2.2.2.2.2.2.2.2))))))))))),())) else bif b.1==18 then bif b.2.2.2.2.2.2.2.2.1 then some ((),((a.1,(a.2.1,(a.2.2.1,(a.2.2.2.1,(a.2.2.2.2.1,(a.2.2.2.2.2.1,(a.2.2.2.2.2.2.1,(a.2.2.2.2.2.2.2.1,(a.2.2.2.2.2.2.2.2.1,(a.2.2.2.2.2.2.2.2.2.1,(a.2.2.2.2.2.2.2.2.2.2.1,(a.2.2.2.2.2.2.2.2.2.2.2.1,(true,a.2.2.2.2.2.2.2.2.2.2.2.2.2))))))))))))),())) else some ((),((a.1,(a.2.1,(a.2.2.1,(a.2.2.2.1,(a.2.2.2.2.1,(a.2.2.2.2.2.1,(a.2.2.2.2.2.2.1,(a.2.2.2.2.2.2.2.1,(a.2.2.2.2.2.2.2.2.1,(a.2.2.2.2.2.2.2.2.2.1,(a.2.2.2.2.2.2.2.2.2.2.1,(true,a.2.2.2.2.2.2.2.2.2.2.2.2)))))))))))),())) else Zkp 1 ((Qy a b.2.1).bind fun c=>Zgo a b c.1 c.2.1)
abbrev Z5h:List PE:=[.box 4 37 (Zo) (.u true),.box 6 37 (Zo) (.u false),.box 7 88 (Y9) (.u true),.val 9 (.int .i64) (.u false)]
def Zjd(c d:Zf)(a:Z9)(b:Int):Nat:=((a.2.1.length:Int)-b).toNat+1
def Ws:Nat->Zf->Zf->Z9->Int->Option ((Zf×Bool×Unit)×(Unit))|0,_,_,_,_=>none|N+1,d,c,b,a=>bif decide (a< (b.2.1.length:Int))then Ze (0<=a/\a<b.2.1.length)<|(Znr c (b.2.1.getD a.toNat Qr)).bind fun e=>Ws N d e.2.1 b (IntKind.i64.wrap (a+1)) else some ((c,(true,())),())
def Zgj(a:Zf)(c:Int):Option ((Zf×Bool×Unit)×(Unit)):=(Z4 a).bind fun d=>(Zon a c).bind fun b=>(Jx a).bind fun f=>bif(!f.1)|| (!b.2.1)then some ((d.1,(false,())),()) else (Zkl d.1 c).bind fun e=>Ws (Zjd Vg e.2.1 b.1 (0:Int)) Vg e.2.1 b.1 (0:Int)
abbrev Qcf:List PE:=[.val 1 (.int .i64) (.u false),.box 2 55 (Vx) (.u false),.box 4 55 (Vx) (.u true),.box 6 55 (Vx) (.u true),.val 7 (.int .i64) (.u false)]
def Zf0(a:Int)(c d e:Yv)(b:Int):Nat:=(a-b).toNat+1
def Zi7:Nat->Int->Yv->Yv->Yv->Int->Option (Yv×Bool×Unit)|0,_,_,_,_,_=>none|N+1,d,b,e,a,c=>bif decide (c<d)then Ze (b.1≠0)<|Ze (0<=(Int.tmod c b.1)/\(Int.tmod c b.1)<a.2.2.2.1.length)<|Zi7 N d b e (a.1,(a.2.1,(a.2.2.1,(a.2.2.2.1.set (Int.tmod c b.1).toNat (0:Int),a.2.2.2.2)))) (IntKind.i64.wrap (c+1)) else some ((a.1,(d,a.2.2)),true,())
def Zoj(a:Yv)(b:Int):Option (Yv×Bool×Unit):=(Zp8 a).bind fun c=>(Zad a).bind fun d=>bif((!d.1)|| (decide (b<a.2.1)))|| (decide (b>a.2.2.1))then some (c.1,false,()) else Zi7 (Zf0 b a Qvg c.1 a.2.1) b a Qvg c.1 a.2.1
abbrev Qca:List PE:=[.box 4 58 (Z6) (.u true),.box 5 58 (Z6) (.p (.u false) (.p (.u true) (.p (.u true) (.p (.u true) (.p (.u true) (.u false)))))),.box 8 55 (Vx) (.u true)]
def Znf(d a:Zp)(b:Yv):Option (Zp×Unit):=(Za0 (a.1,(b,a.2.2))).bind fun c=>some ((c.1,(b,a.2.2)),())
abbrev Qb9:List PE:=[.box 2 58 (Z6) (.u false),.box 4 58 (Z6) (.u true),.box 5 58 (Z6) (.p (.u false) (.p (.u true) (.p (.u true) (.p (.u true) (.p (.u true) (.u false))))))]
def Zi3(d e a:Zp):Option (Zp×Unit):=Zeh ((Zhs a.2.2.2.2.1 (0:Int)).bind fun b=>Zkp 1 ((Zoj d.2.1 b.1).bind fun c=>Znf e a c.1)) ((Zhs a.2.2.2.2.1 (0:Int)).bind fun b=>(Zoj d.2.1 b.1).bind fun c=>Znf e a c.1)
abbrev Qb8:List PE:=[.box 2 58 (Z6) (.u false),.box 3 286 (Zcr) (.u false),.box 4 58 (Z6) (.u true),.box 5 58 (Z6) (.u true)]
def Zi2(b:Zp)(d:Ja)(c a:Zp):Option (Zp×Unit):=bif d.2.2.1&& (b.2.2.2.2.2.2.1==2)then Zi3 b c (a.1,(a.2.1,(a.2.2.1,(a.2.2.2.1,(a.2.2.2.2.1,(a.2.2.2.2.2.1,((3:Int),a.2.2.2.2.2.2.2))))))) else Zi3 b c a
abbrev Qcb:List PE:=[.box 2 58 (Z6) (.u false),.box 3 286 (Zcr) (.u false),.box 4 58 (Z6) (.u true),.box 5 58 (Z6) (.u true),.val 6 (.slice 222 (Zx)) (.u true),.val 7 (.int .i64) (.u false)]
def Zli(c:Zp)(d:Ja)(e f:Zp)(a:List Zh)(b:Int):Nat:=((a.length:Int)-b).toNat+1
def Zi4:Nat->Zp->Ja->Zp->Zp->List Zh->Int->Option (Zp×Unit)|0,_,_,_,_,_,_=>none|N+1,d,e,f,b,c,a=>bif decide (a< (c.length:Int))then Ze (0<=a/\a<c.length)<|(Zev b.2.2.2.1 (c.getD a.toNat Zz)).bind fun g=>Ze (0<=a/\a<c.length)<|(Zal b.2.2.2.2.1 (c.getD a.toNat Zz)).bind fun h=>Zi4 N d e f (b.1,(b.2.1,(b.2.2.1,(g.1,(h.1,b.2.2.2.2.2))))) c (IntKind.i64.wrap (a+1)) else Zi2 d e f b
def Zsp(a:Zp)(b:Ja):Option (Zp×Unit):=
 (Zc7 a).bind fun c=>
 (Yb a).bind fun f=>
 let d:Bool:=(!f.1)|| (decide (a.1>(2:Int)))
 (bif d then some (false,())else(Zrm a b)).bind fun g=>
 bif d|| (!g.1)then
  some (c.1,())
 else
  bif !(b.2.1==([]:List UInt8))then
   (Znt b).bind fun h=>
   (Zde a.2.2.2.1 ([h.1])).bind fun e=>
   Zi4 (Zli a b Za1 c.1 e.1 (0:Int)) a b Za1 c.1 e.1 (0:Int)
  else
   Zi2 a b Za1 c.1
def Zsq(a:Zp):Option (Zp×Bool×Unit):=(Zc7 a).bind fun b=>(Yb a).bind fun c=>bif(!c.1)|| (a.1 !=4)then some (b.1,false,()) else some (((5:Int),b.1.2),true,())
abbrev Qkk:List PE:=[.box 0 37 (Zo) (.u false),.box 4 67 (Zw) (.p (.u false) (.p (.u true) (.p (.u false) (.p (.u true) (.u false)))))]
def Wa(a:Zf)(b:Zd):Option ((Unit)×(Zf×Unit)):=(Jw a b).bind fun c=>some ((),(c.2.1,()))
abbrev Qkj:List PE:=[.box 0 37 (Zo) (.u false),.box 3 50 (Zq) (.u false),.box 4 67 (Zw) (.u true),.val 5 (.bool) (.u false)]
def Zjt(b:Zf)(c:Zi)(a:Zd)(e:Bool):Option ((Unit)×(Zf×Unit)):=(bif(!e)then some (false,())else(Wr c)).bind fun f=>bif(!e)|| (!f.1)then some ((),(b,())) else bif c.1==8 then (Zx0 c).bind fun g=>(Zsp a.2.1 g.1).bind fun h=>Wa b (a.1,(h.1,a.2.2)) else bif c.1==4 then (Zsq a.2.1).bind fun d=>bif d.2.1 then Wa b (a.1,(d.1,(a.2.2.1,(a.2.2.2.1,(a.2.2.2.2.1,(a.2.2.2.2.2.1,(a.2.2.2.2.2.2.1,(a.2.2.2.2.2.2.2.1,(false,a.2.2.2.2.2.2.2.2.2))))))))) else Wa b (a.1,(d.1,a.2.2)) else bif c.1==5 then Wa b (a.1,(a.2.1,(a.2.2.1,(a.2.2.2.1,(a.2.2.2.2.1,(a.2.2.2.2.2.1,(a.2.2.2.2.2.2.1,(a.2.2.2.2.2.2.2.1,(a.2.2.2.2.2.2.2.2.1,(false,a.2.2.2.2.2.2.2.2.2.2)))))))))) else Wa b a
def Zp7(a:Zf)(b:Zi):Option ((Unit)×(Zf×Unit)):=Zkp 1 ((Qy a b.2.1).bind fun c=>Zjt a b c.1 c.2.1)
abbrev Z8b:List PE:=[.box 4 37 (Zo) (.u true),.box 6 37 (Zo) (.u false),.box 7 88 (Y9) (.u true),.val 9 (.int .i64) (.u false)]
def Zke(c d:Zf)(a:Z9)(b:Int):Nat:=((a.2.1.length:Int)-b).toNat+1
def Zat:Nat->Zf->Zf->Z9->Int->Option ((Zf×Bool×Unit)×(Unit))|0,_,_,_,_=>none|N+1,d,c,b,a=>bif decide (a< (b.2.1.length:Int))then Ze (0<=a/\a<b.2.1.length)<|(Zp7 c (b.2.1.getD a.toNat Qr)).bind fun e=>Zat N d e.2.1 b (IntKind.i64.wrap (a+1)) else some ((c,(true,())),())
def Zi1(a:Zf)(c:Int):Option ((Zf×Bool×Unit)×(Unit)):=(Z4 a).bind fun d=>(Zon a c).bind fun b=>(Jx a).bind fun f=>bif(!f.1)|| (!b.2.1)then some ((d.1,(false,())),()) else (Zkl d.1 c).bind fun e=>Zat (Zke Vg e.2.1 b.1 (0:Int)) Vg e.2.1 b.1 (0:Int)
abbrev Qg2:List PE:=[.box 0 112 (V0) (.u false),.box 3 37 (Zo) (.u false),.box 4 37 (Zo) (.u true),.box 6 37 (Zo) (.u false),.val 27 (.int .i64) (.u false),.val 91 (.bool) (.u false)]
def Zdt(b:Qb)(a n d:Zf)(g:Int)(j:Bool):Option ((Zf×Unit)×(Qb×Unit)):=bif j then (Z7 b (20:Int)).bind fun h=>(Zgh a (IntKind.i64.wrap ((8:Int)+h.1.1))).bind fun k=>some ((k.1.2.2.1,()),(h.2.1,())) else bif g==8 then (Zns b).bind fun e=>(Jg a e.1.1).bind fun i=>bif i.1.2.1==0 then some ((i.1.1,()),(e.2.1,())) else some ((d,()),(e.2.1,())) else bif g==9 then bif decide ((a.2.2.2.2.2.2.2.2.2.2.2.2.2.2.2.1.length:Int)>(0:Int))then (Z7 b (a.2.2.2.2.2.2.2.2.2.2.2.2.2.2.2.1.length:Int)).bind fun c=>Ze (0<=c.1.1/\c.1.1<a.2.2.2.2.2.2.2.2.2.2.2.2.2.2.2.1.length)<|(Zag c.2.1 (3:Int)).bind fun f=>bif f.1.1 then (Zgj a (a.2.2.2.2.2.2.2.2.2.2.2.2.2.2.2.1.getD c.1.1.toNat Qk).1).bind fun l=>some ((l.1.1,()),(f.2.1,())) else (Zi1 a (a.2.2.2.2.2.2.2.2.2.2.2.2.2.2.2.1.getD c.1.1.toNat Qk).1).bind fun m=>some ((m.1.1,()),(f.2.1,())) else some ((d,()),(b,())) else some ((d,()),(b,()))
abbrev Qg1:List PE:=[.box 0 112 (V0) (.u false),.box 3 37 (Zo) (.u false),.box 4 37 (Zo) (.u true),.val 5 (.int .i64) (.u false),.box 6 37 (Zo) (.u false),.val 27 (.int .i64) (.u false),.val 38 (.bool) (.u false)]
def Zds(c:Qb)(b h:Zf)(d:Int)(e:Zf)(a:Int)(m:Bool):Option ((Zf×Unit)×(Qb×Unit)):=bif m then (Zj5 c (8:Int)).bind fun i=>(Zey b d i.1.1).bind fun n=>some ((n.2.1,()),(i.2.1,())) else bif a==3 then (Zag c (2:Int)).bind fun f=>bif f.1.1 then (Zdf b d).bind fun o=>some ((o.1,()),(f.2.1,())) else some ((e,()),(f.2.1,())) else bif a==4 then (Z7 c (6:Int)).bind fun j=>(Zgl b d j.1.1).bind fun p=>some ((p.1.2.2.1,()),(j.2.1,())) else bif a==5 then (Zag c (3:Int)).bind fun g=>bif g.1.1 then (Z7 g.2.1 (3:Int)).bind fun k=>(Zew b d k.1.1).bind fun q=>some ((q.1.1,()),(k.2.1,())) else (Zp6 g.2.1 ([([117,61,49]:List UInt8),([105]:List UInt8),([117,61,53,44,32,105]:List UInt8)])).bind fun l=>(Zex b d l.1.1).bind fun r=>some ((r.1,()),(l.2.1,())) else bif a==6 then Zdt c b h e a (a==6) else Zdt c b h e a (a==7)
abbrev Qg0:List PE:=[.box 0 112 (V0) (.u false),.box 3 37 (Zo) (.u false),.box 4 37 (Zo) (.u true),.val 5 (.int .i64) (.u false)]
def Zdr(f:Qb)(b c:Zf)(d:Int):Option ((Zf×Unit)×(Qb×Unit)):=(Z7 f (10:Int)).bind fun a=>bif a.1.1==0 then (Zag a.2.1 (2:Int)).bind fun e=>(Zgk b e.1.1).bind fun g=>some ((g.2.1,()),(e.2.1,())) else bif a.1.1==1 then Zds a.2.1 b c d b a.1.1 (a.1.1==1) else Zds a.2.1 b c d b a.1.1 (a.1.1==2)
def Znq(c:Qb)(a:Zf):Option ((Zf×Unit)×(Qb×Unit)):=bif decide ((a.2.2.2.1.length:Int)>(0:Int))then (Z7 c (a.2.2.2.1.length:Int)).bind fun b=>Ze (0<=b.1.1/\b.1.1<a.2.2.2.1.length)<|Zdr b.2.1 a Vg (a.2.2.2.1.getD b.1.1.toNat Zj).1 else Zdr c a Vg (0:Int)
abbrev Qgv:List PE:=[.box 0 112 (V0) (.u false),.box 2 37 (Zo) (.u true),.box 3 37 (Zo) (.u false),.val 5 (.int .i64) (.u false)]
def Zm0(b:Qb)(c d:Zf)(a:Int):Nat:=(a-0).toNat+1
def Zdo:Nat->Qb->Zf->Zf->Int->Option ((Zf×Unit)×(Qb×Unit))|0,_,_,_,_=>none|N+1,a,e,b,c=>bif decide (c>(0:Int))then (Znq a b).bind fun d=>Zdo N d.2.1 e d.1.1 (IntKind.i64.wrap (c-1)) else some ((b,()),(a,()))
def Zno(f:Qb):Option ((Zf×Unit)×(Qb×Unit)):=(Zag f (2:Int)).bind fun b=>(Znm b.2.1).bind fun c=>(Znm c.2.1).bind fun d=>(Znj b.1.1 c.1.1 d.1.1).bind fun e=>(Z7 d.2.1 (12:Int)).bind fun a=>Zdo (Zm0 a.2.1 Vg e.1 (IntKind.i64.wrap ((2:Int)+a.1.1))) a.2.1 Vg e.1 (IntKind.i64.wrap ((2:Int)+a.1.1))
def Zmz(g:Qb):Option ((Zf×Unit)×(Qb×Unit)):=(Zno g).bind fun a=>(Z7 a.2.1 (20:Int)).bind fun b=>bif b.1.1==0 then (V9 b.2.1 ([(-1:Int),(3:Int),(7:Int),(256:Int)])).bind fun c=>some (((a.1.1.1,(a.1.1.2.1,(a.1.1.2.2.1,(a.1.1.2.2.2.1,(a.1.1.2.2.2.2.1,(a.1.1.2.2.2.2.2.1,(a.1.1.2.2.2.2.2.2.1,(a.1.1.2.2.2.2.2.2.2.1,(a.1.1.2.2.2.2.2.2.2.2.1,(a.1.1.2.2.2.2.2.2.2.2.2.1,(a.1.1.2.2.2.2.2.2.2.2.2.2.1,(a.1.1.2.2.2.2.2.2.2.2.2.2.2.1,(a.1.1.2.2.2.2.2.2.2.2.2.2.2.2.1,(a.1.1.2.2.2.2.2.2.2.2.2.2.2.2.2.1,(a.1.1.2.2.2.2.2.2.2.2.2.2.2.2.2.2.1,(a.1.1.2.2.2.2.2.2.2.2.2.2.2.2.2.2.2.1,(a.1.1.2.2.2.2.2.2.2.2.2.2.2.2.2.2.2.2.1,(c.1.1,a.1.1.2.2.2.2.2.2.2.2.2.2.2.2.2.2.2.2.2.2)))))))))))))))))),()),(c.2.1,())) else bif b.1.1==1 then (V9 b.2.1 ([(-1:Int),(1000000:Int),(1000001:Int)])).bind fun d=>some (((a.1.1.1,(a.1.1.2.1,(a.1.1.2.2.1,(a.1.1.2.2.2.1,(a.1.1.2.2.2.2.1,(a.1.1.2.2.2.2.2.1,(a.1.1.2.2.2.2.2.2.1,(a.1.1.2.2.2.2.2.2.2.1,(a.1.1.2.2.2.2.2.2.2.2.1,(a.1.1.2.2.2.2.2.2.2.2.2.1,(a.1.1.2.2.2.2.2.2.2.2.2.2.1,(a.1.1.2.2.2.2.2.2.2.2.2.2.2.1,(a.1.1.2.2.2.2.2.2.2.2.2.2.2.2.1,(a.1.1.2.2.2.2.2.2.2.2.2.2.2.2.2.1,(a.1.1.2.2.2.2.2.2.2.2.2.2.2.2.2.2.1,(a.1.1.2.2.2.2.2.2.2.2.2.2.2.2.2.2.2.1,(d.1.1,a.1.1.2.2.2.2.2.2.2.2.2.2.2.2.2.2.2.2.2))))))))))))))))),()),(d.2.1,())) else bif b.1.1==2 then (V9 b.2.1 ([(-1:Int),(0:Int)])).bind fun e=>some (((a.1.1.1,(a.1.1.2.1,(a.1.1.2.2.1,(a.1.1.2.2.2.1,((a.1.1.2.2.2.2.1.1,(e.1.1,a.1.1.2.2.2.2.1.2.2)),a.1.1.2.2.2.2.2))))),()),(e.2.1,())) else bif b.1.1==3 then (V9 b.2.1 ([(0:Int),(1000000:Int),(1000001:Int)])).bind fun f=>some (((a.1.1.1,(a.1.1.2.1,(a.1.1.2.2.1,(a.1.1.2.2.2.1,(a.1.1.2.2.2.2.1,(a.1.1.2.2.2.2.2.1,(a.1.1.2.2.2.2.2.2.1,(a.1.1.2.2.2.2.2.2.2.1,(a.1.1.2.2.2.2.2.2.2.2.1,(a.1.1.2.2.2.2.2.2.2.2.2.1,(a.1.1.2.2.2.2.2.2.2.2.2.2.1,(a.1.1.2.2.2.2.2.2.2.2.2.2.2.1,(a.1.1.2.2.2.2.2.2.2.2.2.2.2.2.1,(a.1.1.2.2.2.2.2.2.2.2.2.2.2.2.2.1,(f.1.1,a.1.1.2.2.2.2.2.2.2.2.2.2.2.2.2.2.2))))))))))))))),()),(f.2.1,())) else some ((a.1.1,()),(b.2.1,()))
abbrev Qcu:List PE:=[.box 0 112 (V0) (.u false),.val 3 (.slice 50 (Zq)) (.u true),.val 4 (.int .i64) (.u false)]
def Zlo(b:Qb)(c:List Zi)(a:Int):Nat:=(a-0).toNat+1
def Zjv:Nat->Qb->List Zi->Int->Option ((List Zi×Unit)×(Qb×Unit))|0,_,_,_=>none|N+1,c,a,d=>bif decide (d>(0:Int))then (Zns c).bind fun b=>Ze (a.length+ ([b.1.1]).length<=Qo)<|Zjv N b.2.1 (a++ ([b.1.1])) (IntKind.i64.wrap (d-1)) else some ((a,()),(c,()))
def Zsx(b:Qb):Option ((List Zi×Unit)×(Qb×Unit)):=(Z7 b (5:Int)).bind fun a=>Zjv (Zlo a.2.1 ([]:List Zi) a.1.1) a.2.1 ([]:List Zi) a.1.1
abbrev Qkh:List PE:=[.box 0 112 (V0) (.u false),.val 5 (.slice 5 (.int .u8)) (.u true),.val 6 (.int .i64) (.u false),.val 7 (.int .i64) (.u false),.val 8 (.int .i64) (.u false)]
def Zmy(K1: (Qb×List Int×Int×Int×Unit)->Option ((List UInt8×Unit)×(Qb×Unit)))(c:Qb)(a:List Int)(d e b:Int):Option ((List UInt8×Unit)×(Qb×Unit)):=Ze (a.length+ ([(IntKind.u8.wrap b)]).length<=Qo)<|K1 (c,a++ ([(IntKind.u8.wrap b)]),d,IntKind.i64.wrap (e-1),())
abbrev Qkg:List PE:=[.box 0 112 (V0) (.u false),.val 5 (.slice 5 (.int .u8)) (.u true),.val 6 (.int .i64) (.u false),.val 7 (.int .i64) (.u false),.val 8 (.int .i64) (.u false)]
def Zmx(K1: (Qb×List Int×Int×Int×Unit)->Option ((List UInt8×Unit)×(Qb×Unit)))(b:Qb)(c:List Int)(a d e:Int):Option ((List UInt8×Unit)×(Qb×Unit)):=bif a==2 then Ze ((4:Int)≠0)<|Zmy K1 b c a d (IntKind.i64.wrap ((97:Int)+ (Int.tmod e (4:Int)))) else Zmy K1 b c a d e
abbrev Qki:List PE:=[.box 0 112 (V0) (.u false),.val 5 (.slice 5 (.int .u8)) (.u true),.val 6 (.int .i64) (.u false),.val 7 (.int .i64) (.u false)]
def Zn7(b:Qb)(c:List Int)(d a:Int):Nat:=(a-0).toNat+1
def Zc6:Nat->Qb->List Int->Int->Int->Option ((List UInt8×Unit)×(Qb×Unit))|0,_,_,_,_=>none|N+1,e,b,c,d=>bif decide (d>(0:Int))then (Vf e).bind fun a=>bif c==1 then Ze ((2:Int)≠0)<|Zmx (fun v=>Zc6 N v.1 v.2.1 v.2.2.1 v.2.2.2.1) a.2.1 b c d (Int.tmod a.1.1 (2:Int)) else Zmx (fun v=>Zc6 N v.1 v.2.1 v.2.2.1 v.2.2.2.1) a.2.1 b c d a.1.1 else some ((Qq b,()),(e,()))
def Zxc(c:Qb)(d:Int):Option ((List UInt8×Unit)×(Qb×Unit)):=(Z7 c (4:Int)).bind fun b=>(Z7 b.2.1 (IntKind.i64.wrap (d+1))).bind fun a=>Zc6 (Zn7 a.2.1 ([]:List Int) b.1.1 a.1.1) a.2.1 ([]:List Int) b.1.1 a.1.1
def Zuv(p:Qb)(a:List UInt8):Option ((List UInt8×Unit)×(Qb×Unit)):=
 bif(a.length:Int)==(0:Int)then
  (Zxc p (3:Int)).bind fun q=>
  some ((q.1.1,()),(q.2.1,()))
 else
  (Z7 p (a.length:Int)).bind fun b=>
  (Z7 b.2.1 (4:Int)).bind fun l=>
  bif l.1.1==0 then
   Zeh (
    Ze (0<=(0:Int)/\(0:Int)<=b.1.1/\b.1.1<=a.length)<|
    let m:List UInt8:=(a.drop (0:Int).toNat).take (b.1.1.toNat- (0:Int).toNat)
    Ze (0<=(IntKind.i64.wrap (b.1.1+1))/\(IntKind.i64.wrap (b.1.1+1))<=(a.length:Int)/\(a.length:Int)<=a.length)<|
    let n:List UInt8:=(a.drop (IntKind.i64.wrap (b.1.1+1)).toNat).take ((a.length:Int).toNat- (IntKind.i64.wrap (b.1.1+1)).toNat)
    Ze (m.length+n.length<=Ka)<|
    some ((m++n,()),(l.2.1,()))
   ) (
    Ze (0<=(IntKind.i64.wrap (b.1.1+1))/\(IntKind.i64.wrap (b.1.1+1))<=(a.length:Int)/\(a.length:Int)<=a.length)<|
    let n:List UInt8:=(a.drop (IntKind.i64.wrap (b.1.1+1)).toNat).take ((a.length:Int).toNat- (IntKind.i64.wrap (b.1.1+1)).toNat)
    Ze (0<=(0:Int)/\(0:Int)<=b.1.1/\b.1.1<=a.length)<|
    let m:List UInt8:=(a.drop (0:Int).toNat).take (b.1.1.toNat- (0:Int).toNat)
    Ze (m.length+n.length<=Ka)<|
    some ((m++n,()),(l.2.1,()))
   )
  else
   bif l.1.1==1 then
    Zeh (
     Ze (0<=(0:Int)/\(0:Int)<=b.1.1/\b.1.1<=a.length)<|
     let h:List UInt8:=(a.drop (0:Int).toNat).take (b.1.1.toNat- (0:Int).toNat)
     Zeh (
      (Vf l.2.1).bind fun c=>
      Zeh (
       Ze (h.length+ (Qq ([(IntKind.u8.wrap c.1.1)])).length<=Ka)<|
       let d:List UInt8:=h++ (Qq ([(IntKind.u8.wrap c.1.1)]))
       Ze (0<=b.1.1/\b.1.1<=(a.length:Int)/\(a.length:Int)<=a.length)<|
       let f:List UInt8:=(a.drop b.1.1.toNat).take ((a.length:Int).toNat-b.1.1.toNat)
       Ze (d.length+f.length<=Ka)<|
       some ((d++f,()),(c.2.1,()))
      ) (
       Ze (0<=b.1.1/\b.1.1<=(a.length:Int)/\(a.length:Int)<=a.length)<|
       let f:List UInt8:=(a.drop b.1.1.toNat).take ((a.length:Int).toNat-b.1.1.toNat)
       Ze (h.length+ (Qq ([(IntKind.u8.wrap c.1.1)])).length<=Ka)<|
       let d:List UInt8:=h++ (Qq ([(IntKind.u8.wrap c.1.1)]))
       Ze (d.length+f.length<=Ka)<|
       some ((d++f,()),(c.2.1,()))
      )
     ) (
      Ze (0<=b.1.1/\b.1.1<=(a.length:Int)/\(a.length:Int)<=a.length)<|
      let f:List UInt8:=(a.drop b.1.1.toNat).take ((a.length:Int).toNat-b.1.1.toNat)
      (Vf l.2.1).bind fun c=>
      Ze (h.length+ (Qq ([(IntKind.u8.wrap c.1.1)])).length<=Ka)<|
      let d:List UInt8:=h++ (Qq ([(IntKind.u8.wrap c.1.1)]))
      Ze (d.length+f.length<=Ka)<|
      some ((d++f,()),(c.2.1,()))
     )
    ) (
    Zeh (
     (Vf l.2.1).bind fun c=>
     Zeh (
      Ze (0<=(0:Int)/\(0:Int)<=b.1.1/\b.1.1<=a.length)<|
      let h:List UInt8:=(a.drop (0:Int).toNat).take (b.1.1.toNat- (0:Int).toNat)
      Zeh (
       Ze (h.length+ (Qq ([(IntKind.u8.wrap c.1.1)])).length<=Ka)<|
       let d:List UInt8:=h++ (Qq ([(IntKind.u8.wrap c.1.1)]))
       Ze (0<=b.1.1/\b.1.1<=(a.length:Int)/\(a.length:Int)<=a.length)<|
       let f:List UInt8:=(a.drop b.1.1.toNat).take ((a.length:Int).toNat-b.1.1.toNat)
       Ze (d.length+f.length<=Ka)<|
       some ((d++f,()),(c.2.1,()))
      ) (
       Ze (0<=b.1.1/\b.1.1<=(a.length:Int)/\(a.length:Int)<=a.length)<|
       let f:List UInt8:=(a.drop b.1.1.toNat).take ((a.length:Int).toNat-b.1.1.toNat)
       Ze (h.length+ (Qq ([(IntKind.u8.wrap c.1.1)])).length<=Ka)<|
       let d:List UInt8:=h++ (Qq ([(IntKind.u8.wrap c.1.1)]))
       Ze (d.length+f.length<=Ka)<|
       some ((d++f,()),(c.2.1,()))
      )
     ) (
     Zeh (
      Zeh (
       Ze (0<=(0:Int)/\(0:Int)<=b.1.1/\b.1.1<=a.length)<|
       let h:List UInt8:=(a.drop (0:Int).toNat).take (b.1.1.toNat- (0:Int).toNat)
       Ze (h.length+ (Qq ([(IntKind.u8.wrap c.1.1)])).length<=Ka)<|
       let d:List UInt8:=h++ (Qq ([(IntKind.u8.wrap c.1.1)]))
       Ze (0<=b.1.1/\b.1.1<=(a.length:Int)/\(a.length:Int)<=a.length)<|
       let f:List UInt8:=(a.drop b.1.1.toNat).take ((a.length:Int).toNat-b.1.1.toNat)
       Ze (d.length+f.length<=Ka)<|
       some ((d++f,()),(c.2.1,()))
      ) (
       Ze (0<=b.1.1/\b.1.1<=(a.length:Int)/\(a.length:Int)<=a.length)<|
       let f:List UInt8:=(a.drop b.1.1.toNat).take ((a.length:Int).toNat-b.1.1.toNat)
       Ze (0<=(0:Int)/\(0:Int)<=b.1.1/\b.1.1<=a.length)<|
       let h:List UInt8:=(a.drop (0:Int).toNat).take (b.1.1.toNat- (0:Int).toNat)
       Ze (h.length+ (Qq ([(IntKind.u8.wrap c.1.1)])).length<=Ka)<|
       let d:List UInt8:=h++ (Qq ([(IntKind.u8.wrap c.1.1)]))
       Ze (d.length+f.length<=Ka)<|
       some ((d++f,()),(c.2.1,()))
      )
     ) (
      Ze (0<=b.1.1/\b.1.1<=(a.length:Int)/\(a.length:Int)<=a.length)<|
      let f:List UInt8:=(a.drop b.1.1.toNat).take ((a.length:Int).toNat-b.1.1.toNat)
      Zkp 1 (
       Ze (0<=(0:Int)/\(0:Int)<=b.1.1/\b.1.1<=a.length)<|
       let h:List UInt8:=(a.drop (0:Int).toNat).take (b.1.1.toNat- (0:Int).toNat)
       Ze (h.length+ (Qq ([(IntKind.u8.wrap c.1.1)])).length<=Ka)<|
       let d:List UInt8:=h++ (Qq ([(IntKind.u8.wrap c.1.1)]))
       Ze (d.length+f.length<=Ka)<|
       some ((d++f,()),(c.2.1,()))
      )
     )
     )
    ) (
     Ze (0<=b.1.1/\b.1.1<=(a.length:Int)/\(a.length:Int)<=a.length)<|
     let f:List UInt8:=(a.drop b.1.1.toNat).take ((a.length:Int).toNat-b.1.1.toNat)
     Zeh (
      Ze (0<=(0:Int)/\(0:Int)<=b.1.1/\b.1.1<=a.length)<|
      let h:List UInt8:=(a.drop (0:Int).toNat).take (b.1.1.toNat- (0:Int).toNat)
      (Vf l.2.1).bind fun c=>
      Ze (h.length+ (Qq ([(IntKind.u8.wrap c.1.1)])).length<=Ka)<|
      let d:List UInt8:=h++ (Qq ([(IntKind.u8.wrap c.1.1)]))
      Ze (d.length+f.length<=Ka)<|
      some ((d++f,()),(c.2.1,()))
     ) (
      (Vf l.2.1).bind fun c=>
      Zkp 1 (
       Ze (0<=(0:Int)/\(0:Int)<=b.1.1/\b.1.1<=a.length)<|
       let h:List UInt8:=(a.drop (0:Int).toNat).take (b.1.1.toNat- (0:Int).toNat)
       Ze (h.length+ (Qq ([(IntKind.u8.wrap c.1.1)])).length<=Ka)<|
       let d:List UInt8:=h++ (Qq ([(IntKind.u8.wrap c.1.1)]))
       Ze (d.length+f.length<=Ka)<|
       some ((d++f,()),(c.2.1,()))
      )
     )
    )
    )
   else
    bif l.1.1==2 then
     Ze (0<=(0:Int)/\(0:Int)<=b.1.1/\b.1.1<=a.length)<|
     some (((a.drop (0:Int).toNat).take (b.1.1.toNat- (0:Int).toNat),()),(l.2.1,()))
    else
     Ze (0<=b.1.1/\b.1.1<a.length)<|
     let o:Int:=IntKind.i64.wrap ((a.getD b.1.1.toNat 0).toNat:Int)
     Zeh (
      Ze (0<=(0:Int)/\(0:Int)<=b.1.1/\b.1.1<=a.length)<|
      let i:List UInt8:=(a.drop (0:Int).toNat).take (b.1.1.toNat- (0:Int).toNat)
      Zeh (
       (Z7 l.2.1 (255:Int)).bind fun k=>
       let j:Int:=bits .xor .i64 o (IntKind.i64.wrap ((1:Int)+k.1.1))
       Zeh (
        Ze (i.length+ (Qq ([(IntKind.u8.wrap j)])).length<=Ka)<|
        let e:List UInt8:=i++ (Qq ([(IntKind.u8.wrap j)]))
        Ze (0<=(IntKind.i64.wrap (b.1.1+1))/\(IntKind.i64.wrap (b.1.1+1))<=(a.length:Int)/\(a.length:Int)<=a.length)<|
        let g:List UInt8:=(a.drop (IntKind.i64.wrap (b.1.1+1)).toNat).take ((a.length:Int).toNat- (IntKind.i64.wrap (b.1.1+1)).toNat)
        Ze (e.length+g.length<=Ka)<|
        some ((e++g,()),(k.2.1,()))
       ) (
        Ze (0<=(IntKind.i64.wrap (b.1.1+1))/\(IntKind.i64.wrap (b.1.1+1))<=(a.length:Int)/\(a.length:Int)<=a.length)<|
        let g:List UInt8:=(a.drop (IntKind.i64.wrap (b.1.1+1)).toNat).take ((a.length:Int).toNat- (IntKind.i64.wrap (b.1.1+1)).toNat)
        Ze (i.length+ (Qq ([(IntKind.u8.wrap j)])).length<=Ka)<|
        let e:List UInt8:=i++ (Qq ([(IntKind.u8.wrap j)]))
        Ze (e.length+g.length<=Ka)<|
        some ((e++g,()),(k.2.1,()))
       )
      ) (
       Ze (0<=(IntKind.i64.wrap (b.1.1+1))/\(IntKind.i64.wrap (b.1.1+1))<=(a.length:Int)/\(a.length:Int)<=a.length)<|
       let g:List UInt8:=(a.drop (IntKind.i64.wrap (b.1.1+1)).toNat).take ((a.length:Int).toNat- (IntKind.i64.wrap (b.1.1+1)).toNat)
       (Z7 l.2.1 (255:Int)).bind fun k=>
       let j:Int:=bits .xor .i64 o (IntKind.i64.wrap ((1:Int)+k.1.1))
       Ze (i.length+ (Qq ([(IntKind.u8.wrap j)])).length<=Ka)<|
       let e:List UInt8:=i++ (Qq ([(IntKind.u8.wrap j)]))
       Ze (e.length+g.length<=Ka)<|
       some ((e++g,()),(k.2.1,()))
      )
     ) (
     Zeh (
      (Z7 l.2.1 (255:Int)).bind fun k=>
      let j:Int:=bits .xor .i64 o (IntKind.i64.wrap ((1:Int)+k.1.1))
      Zeh (
       Ze (0<=(0:Int)/\(0:Int)<=b.1.1/\b.1.1<=a.length)<|
       let i:List UInt8:=(a.drop (0:Int).toNat).take (b.1.1.toNat- (0:Int).toNat)
       Zeh (
        Ze (i.length+ (Qq ([(IntKind.u8.wrap j)])).length<=Ka)<|
        let e:List UInt8:=i++ (Qq ([(IntKind.u8.wrap j)]))
        Ze (0<=(IntKind.i64.wrap (b.1.1+1))/\(IntKind.i64.wrap (b.1.1+1))<=(a.length:Int)/\(a.length:Int)<=a.length)<|
        let g:List UInt8:=(a.drop (IntKind.i64.wrap (b.1.1+1)).toNat).take ((a.length:Int).toNat- (IntKind.i64.wrap (b.1.1+1)).toNat)
        Ze (e.length+g.length<=Ka)<|
        some ((e++g,()),(k.2.1,()))
       ) (
        Ze (0<=(IntKind.i64.wrap (b.1.1+1))/\(IntKind.i64.wrap (b.1.1+1))<=(a.length:Int)/\(a.length:Int)<=a.length)<|
        let g:List UInt8:=(a.drop (IntKind.i64.wrap (b.1.1+1)).toNat).take ((a.length:Int).toNat- (IntKind.i64.wrap (b.1.1+1)).toNat)
        Ze (i.length+ (Qq ([(IntKind.u8.wrap j)])).length<=Ka)<|
        let e:List UInt8:=i++ (Qq ([(IntKind.u8.wrap j)]))
        Ze (e.length+g.length<=Ka)<|
        some ((e++g,()),(k.2.1,()))
       )
      ) (
      Zeh (
       Zeh (
        Ze (0<=(0:Int)/\(0:Int)<=b.1.1/\b.1.1<=a.length)<|
        let i:List UInt8:=(a.drop (0:Int).toNat).take (b.1.1.toNat- (0:Int).toNat)
        Ze (i.length+ (Qq ([(IntKind.u8.wrap j)])).length<=Ka)<|
        let e:List UInt8:=i++ (Qq ([(IntKind.u8.wrap j)]))
        Ze (0<=(IntKind.i64.wrap (b.1.1+1))/\(IntKind.i64.wrap (b.1.1+1))<=(a.length:Int)/\(a.length:Int)<=a.length)<|
        let g:List UInt8:=(a.drop (IntKind.i64.wrap (b.1.1+1)).toNat).take ((a.length:Int).toNat- (IntKind.i64.wrap (b.1.1+1)).toNat)
        Ze (e.length+g.length<=Ka)<|
        some ((e++g,()),(k.2.1,()))
       ) (
        Ze (0<=(IntKind.i64.wrap (b.1.1+1))/\(IntKind.i64.wrap (b.1.1+1))<=(a.length:Int)/\(a.length:Int)<=a.length)<|
        let g:List UInt8:=(a.drop (IntKind.i64.wrap (b.1.1+1)).toNat).take ((a.length:Int).toNat- (IntKind.i64.wrap (b.1.1+1)).toNat)
        Ze (0<=(0:Int)/\(0:Int)<=b.1.1/\b.1.1<=a.length)<|
        let i:List UInt8:=(a.drop (0:Int).toNat).take (b.1.1.toNat- (0:Int).toNat)
        Ze (i.length+ (Qq ([(IntKind.u8.wrap j)])).length<=Ka)<|
        let e:List UInt8:=i++ (Qq ([(IntKind.u8.wrap j)]))
        Ze (e.length+g.length<=Ka)<|
        some ((e++g,()),(k.2.1,()))
       )
      ) (
       Ze (0<=(IntKind.i64.wrap (b.1.1+1))/\(IntKind.i64.wrap (b.1.1+1))<=(a.length:Int)/\(a.length:Int)<=a.length)<|
       let g:List UInt8:=(a.drop (IntKind.i64.wrap (b.1.1+1)).toNat).take ((a.length:Int).toNat- (IntKind.i64.wrap (b.1.1+1)).toNat)
       Zkp 1 (
        Ze (0<=(0:Int)/\(0:Int)<=b.1.1/\b.1.1<=a.length)<|
        let i:List UInt8:=(a.drop (0:Int).toNat).take (b.1.1.toNat- (0:Int).toNat)
        Ze (i.length+ (Qq ([(IntKind.u8.wrap j)])).length<=Ka)<|
        let e:List UInt8:=i++ (Qq ([(IntKind.u8.wrap j)]))
        Ze (e.length+g.length<=Ka)<|
        some ((e++g,()),(k.2.1,()))
       )
      )
      )
     ) (
      Ze (0<=(IntKind.i64.wrap (b.1.1+1))/\(IntKind.i64.wrap (b.1.1+1))<=(a.length:Int)/\(a.length:Int)<=a.length)<|
      let g:List UInt8:=(a.drop (IntKind.i64.wrap (b.1.1+1)).toNat).take ((a.length:Int).toNat- (IntKind.i64.wrap (b.1.1+1)).toNat)
      Zeh (
       Ze (0<=(0:Int)/\(0:Int)<=b.1.1/\b.1.1<=a.length)<|
       let i:List UInt8:=(a.drop (0:Int).toNat).take (b.1.1.toNat- (0:Int).toNat)
       (Z7 l.2.1 (255:Int)).bind fun k=>
       let j:Int:=bits .xor .i64 o (IntKind.i64.wrap ((1:Int)+k.1.1))
       Ze (i.length+ (Qq ([(IntKind.u8.wrap j)])).length<=Ka)<|
       let e:List UInt8:=i++ (Qq ([(IntKind.u8.wrap j)]))
       Ze (e.length+g.length<=Ka)<|
       some ((e++g,()),(k.2.1,()))
      ) (
       (Z7 l.2.1 (255:Int)).bind fun k=>
       let j:Int:=bits .xor .i64 o (IntKind.i64.wrap ((1:Int)+k.1.1))
       Zkp 1 (
        Ze (0<=(0:Int)/\(0:Int)<=b.1.1/\b.1.1<=a.length)<|
        let i:List UInt8:=(a.drop (0:Int).toNat).take (b.1.1.toNat- (0:Int).toNat)
        Ze (i.length+ (Qq ([(IntKind.u8.wrap j)])).length<=Ka)<|
        let e:List UInt8:=i++ (Qq ([(IntKind.u8.wrap j)]))
        Ze (e.length+g.length<=Ka)<|
        some ((e++g,()),(k.2.1,()))
       )
      )
     )
     )
def Zeb(e:List Int):Option (List UInt8×Unit):=(Zpt e).bind fun f=>(Zsx f.1).bind fun c=>(Zfj c.1.1).bind fun a=>(Z7 c.2.1 (4:Int)).bind fun b=>bif b.1.1==0 then (Zuv b.2.1 a.1).bind fun g=>some (g.1.1,()) else bif b.1.1==1 then Ze (([0,0]:List UInt8).length+a.1.length<=Ka)<|Ze ((([0,0]:List UInt8)++a.1).length+ ([0]:List UInt8).length<=Ka)<|some ((([0,0]:List UInt8)++a.1)++ ([0]:List UInt8),()) else bif b.1.1==2 then Ze (a.1.length+ ([8,3]:List UInt8).length<=Ka)<|(Zj5 b.2.1 (4:Int)).bind fun d=>Ze ((a.1++ ([8,3]:List UInt8)).length+d.1.1.length<=Ka)<|some ((a.1++ ([8,3]:List UInt8))++d.1.1,()) else some (a.1,())
def Zec(a:List Int):Option ((Zf×List UInt8×Unit)×(Unit)):=(Zpt a).bind fun b=>(Zmz b.1).bind fun c=>(Zeb a).bind fun d=>some ((c.1.1,(d.1,())),())
def Zy(a b c:Int):Option (Bool×Unit):=some ((decide (b<=a))&& (decide (a<=c)),())
def Zbb(a:Int):Option (Bool×Unit):=(Zy a (1:Int) (64:Int)).bind fun b=>some (b.1&& ((bits .and .i64 a (IntKind.i64.wrap (a-1)))==0),())
def Zmd(a:Zgp):Option (Bool×Unit):=
 (Zbb a.1).bind fun b=>
 (bif b.1 then(Zy a.2.2.1 (1:Int) (4096:Int))else some (false,())).bind fun d=>
 (bif(b.1&&d.1)then(Zy a.2.2.2.2.1 (1:Int) (4096:Int))else some (false,())).bind fun f=>
 (bif((b.1&&d.1)&&f.1)then(Zy a.2.1 (1:Int) a.2.2.1)else some (false,())).bind fun i=>
 let c:Bool:=((b.1&&d.1)&&f.1)&&i.1
 (bif c then(Zy a.2.2.2.1 (1:Int) a.2.2.2.2.1)else some (false,())).bind fun e=>
 (bif(c&&e.1)then(Zy a.2.2.2.2.2.1 (0:Int) (1000:Int))else some (false,())).bind fun g=>
 (bif((c&&e.1)&&g.1)then(Zy a.2.2.2.2.2.2.1 (0:Int) (1000:Int))else some (false,())).bind fun j=>
 let h:Bool:=((c&&e.1)&&g.1)&&j.1
 (bif h then(Zy a.2.2.2.2.2.2.2.1 (1:Int) (1000:Int))else some (false,())).bind fun k=>
 some (h&&k.1,())
def Xj(a:Int):Option (Bool×Unit):=(Zy a (0:Int) (4611686018427387903:Int)).bind fun b=>some (b.1,())
def Zxn(a:Int):Option (Bool×Unit):=(Zy a (0:Int) (255:Int)).bind fun b=>some (!b.1,())
abbrev Zj1:List PE:=[.val 0 (.slice 3 (.int .i64)) (.u false),.val 1 (.fnc 315) (.u false),.val 7 (.int .i64) (.u false),.val 8 (.int .i64) (.u false)]
def Xp(c:List Int)(d:Unit)(a b:Int):Nat:=(a-b).toNat+1
def Xf:Nat->List Int->Unit->Int->Int->Option (Int×Unit)|0,_,_,_,_=>none|N+1,b,e,c,a=>bif decide (a<c)then Ze (0<=a/\a<b.length)<|(Zxn (b.getD a.toNat (0:Int))).bind fun d=>bif d.1 then some (a,()) else Xf N b () c (IntKind.i64.wrap (a+1)) else some ((-1:Int),())
def J8(a:List Int):Option (Int×Unit):=Xf (Xp a () (a.length:Int) (0:Int)) a () (a.length:Int) (0:Int)
def Jd(a:List Int):Option (Bool×Unit):=(J8 a).bind fun b=>some (decide (b.1>=(0:Int)),())
def Zwr(a:Yv):Option (Bool×Unit):=
 (Zbb a.1).bind fun d=>
 let b:Bool:=(!d.1)|| ((a.2.2.2.1.length:Int) !=a.1)
 (bif b then some (false,())else(Jd a.2.2.2.1)).bind fun e=>
 bif b||e.1 then
  some (false,())
 else
  (Xj a.2.1).bind fun c=>
  (bif c.1 then(Zy a.2.2.1 a.2.1 (min (IntKind.i64.wrap (a.2.1+a.1)) (4611686018427387903:Int)))else some (false,())).bind fun f=>
  some (c.1&&f.1,())
def Zul(a:Zh):Option (Bool×Unit):=some (((decide (a.1>=(0:Int)))&& (decide (a.1<a.2.1)))&& (decide (a.2.1<=(4611686018427387903:Int))),())
abbrev Qao:List PE:=[.val 0 (.slice 222 (Zx)) (.u false),.val 5 (.slice 222 (Zx)) (.u false),.val 6 (.int .i64) (.u false),.val 7 (.int .i64) (.u false)]
def Zlf(c d:List Zh)(a b:Int):Nat:=(a-b).toNat+1
def Zim:Nat->List Zh->List Zh->Int->Int->Option (Bool×Unit)|0,_,_,_,_=>none|N+1,c,b,d,a=>bif decide (a<d)then Ze (0<=a/\a<b.length)<|(Zul (b.getD a.toNat Zz)).bind fun e=>Ze (((!e.1)=false->((decide (a>(0:Int)))=true->(0<=(IntKind.i64.wrap (a-1))/\(IntKind.i64.wrap (a-1))<c.length))))<|bif(!e.1)|| ((decide (a>(0:Int)))&& (decide ((b.getD a.toNat Zz).1<=(c.getD (IntKind.i64.wrap (a-1)).toNat Zz).2.1)))then some (false,()) else Zim N c b d (IntKind.i64.wrap (a+1)) else some (true,())
def Zcj(a:List Zh):Option (Bool×Unit):=Zim (Zlf a a (a.length:Int) (0:Int)) a a (a.length:Int) (0:Int)
abbrev Z0d:List PE:=[.val 3 (.int .i64) (.u false),.val 9 (.slice 222 (Zx)) (.u false),.val 10 (.int .i64) (.u false),.val 11 (.int .i64) (.u false)]
def Zf9(c:Int)(d:List Zh)(a b:Int):Nat:=(a-b).toNat+1
def Zcu:Nat->Int->List Zh->Int->Int->Option (Int×Unit)|0,_,_,_,_=>none|N+1,c,b,d,a=>bif decide (a<d)then Ze (0<=a/\a<b.length)<|Zcu N (IntKind.i64.wrap (c+ (IntKind.i64.wrap ((b.getD a.toNat Zz).2.1- (b.getD a.toNat Zz).1)))) b d (IntKind.i64.wrap (a+1)) else some (c,())
def Zao(a:List Zh):Option (Int×Unit):=(Zcj a).bind fun b=>bif !b.1 then some ((-1:Int),()) else Zcu (Zf9 (0:Int) a (a.length:Int) (0:Int)) (0:Int) a (a.length:Int) (0:Int)
def Wg(a:List Zh):Option (List Zh×Unit):=Ze (([]:List Zh).length+a.length<=Qo)<|some (([]:List Zh)++a,())
abbrev Qak:List PE:=[.box 3 222 (Zx) (.u false),.val 5 (.slice 222 (Zx)) (.u true),.val 6 (.bool) (.u false),.box 8 222 (Zx) (.u false),.val 20 (.slice 222 (Zx)) (.u false),.val 21 (.int .i64) (.u false),.val 22 (.int .i64) (.u false)]
def Zij(K1: (Zh×List Zh×Bool×List Zh×Int×Int×Unit)->Option (List Zh×Unit))(c:Zh)(a:List Zh)(d:Bool)(b:Zh)(e:List Zh)(f g:Int):Option (List Zh×Unit):=Ze (a.length+ ([b]).length<=Qo)<|K1 (c,a++ ([b]),d,e,f,IntKind.i64.wrap (g+1),())
abbrev Qal:List PE:=[.box 3 222 (Zx) (.u false),.val 5 (.slice 222 (Zx)) (.u true),.val 6 (.bool) (.u false),.val 20 (.slice 222 (Zx)) (.u false),.val 21 (.int .i64) (.u false),.val 22 (.int .i64) (.u false)]
def Zfw(c:Zh)(d:List Zh)(e:Bool)(f:List Zh)(a b:Int):Nat:=(a-b).toNat+1
def Ys:Nat->Zh->List Zh->Bool->List Zh->Int->Int->Option (List Zh×Unit)|0,_,_,_,_,_,_=>none|N+1,c,d,e,b,f,a=>bif decide (a<f)then Ze (0<=a/\a<b.length)<|bif decide ((b.getD a.toNat Zz).2.1<c.1)then Ze (d.length+ ([(b.getD a.toNat Zz)]).length<=Qo)<|Ys N c (d++ ([(b.getD a.toNat Zz)])) e b f (IntKind.i64.wrap (a+1)) else bif decide ((b.getD a.toNat Zz).1>c.2.1)then bif !e then Ze (d.length+ ([c]).length<=Qo)<|Zij (fun v=>Ys N v.1 v.2.1 v.2.2.1 v.2.2.2.1 v.2.2.2.2.1 v.2.2.2.2.2.1) c (d++ ([c])) true (b.getD a.toNat Zz) b f a else Zij (fun v=>Ys N v.1 v.2.1 v.2.2.1 v.2.2.2.1 v.2.2.2.2.1 v.2.2.2.2.2.1) c d e (b.getD a.toNat Zz) b f a else Ys N (min c.1 (b.getD a.toNat Zz).1,(max c.2.1 (b.getD a.toNat Zz).2.1,())) d e b f (IntKind.i64.wrap (a+1)) else bif !e then Ze (d.length+ ([c]).length<=Qo)<|some (d++ ([c]),()) else some (d,())
def Zsg(a:List Zh)(b:Zh):Option (List Zh×Unit):=(Zcj a).bind fun c=>(bif(!c.1)then some (false,())else(Zul b)).bind fun d=>bif(!c.1)|| (!d.1)then (Wg a).bind fun e=>some (e.1,()) else Ys (Zfw b ([]:List Zh) false a (a.length:Int) (0:Int)) b ([]:List Zh) false a (a.length:Int) (0:Int)
def Zdj(a:List Zh)(c:Int):Option (Bool×Unit):=
 let b:Int:=IntKind.i64.wrap ((a.length:Int)- (1:Int))
 Ze (((decide ((a.length:Int)>(0:Int)))=true->(0<=b/\b<a.length)))<|
 some ((decide ((a.length:Int)>(0:Int)))&& (decide ((a.getD b.toNat Zz).2.1>c)),())
abbrev Qaq:List PE:=[.val 3 (.int .i64) (.u false),.val 9 (.slice 222 (Zx)) (.u true),.val 27 (.slice 222 (Zx)) (.u true),.val 28 (.int .i64) (.u false),.val 29 (.int .i64) (.u false)]
def Zfy(c:Int)(d e:List Zh)(a b:Int):Nat:=(a-b).toNat+1
def Ziq:Nat->Int->List Zh->List Zh->Int->Int->Option (Bool×Unit)|0,_,_,_,_,_=>none|N+1,b,c,d,e,a=>bif decide (a<e)then Ze (0<=a/\a<d.length)<|(Zsg c (d.getD a.toNat Zz)).bind fun g=>Ziq N b g.1 d e (IntKind.i64.wrap (a+1)) else (Zao c).bind fun f=>(bif(f.1==b)then(Zdj c b)else some (false,())).bind fun h=>some ((f.1==b)&& (!h.1),())
def Zsi(d e a:List Zh)(c:Int):Option (Bool×Unit):=(Zao d).bind fun g=>(Zao e).bind fun h=>(Zao a).bind fun i=>bif(IntKind.i64.wrap ((IntKind.i64.wrap (g.1+h.1))+i.1)) !=c then some (false,()) else (Wg d).bind fun f=>(Wg e).bind fun b=>Ze (b.1.length+a.length<=Qo)<|Ziq (Zfy c f.1 (b.1++a) ((b.1++a).length:Int) (0:Int)) c f.1 (b.1++a) ((b.1++a).length:Int) (0:Int)
abbrev Qam:List PE:=[.val 1 (.int .i64) (.u false),.val 14 (.slice 222 (Zx)) (.u false),.val 15 (.int .i64) (.u false),.val 16 (.int .i64) (.u false)]
def Zle(c:Int)(d:List Zh)(a b:Int):Nat:=(a-b).toNat+1
def Zem:Nat->Int->List Zh->Int->Int->Option (Int×Unit)|0,_,_,_,_=>none|N+1,c,b,d,a=>bif decide (a<d)then Ze (0<=a/\a<b.length)<|bif(decide ((b.getD a.toNat Zz).1<=c))&& (decide (c< (b.getD a.toNat Zz).2.1))then Zem N (b.getD a.toNat Zz).2.1 b d (IntKind.i64.wrap (a+1)) else Zem N c b d (IntKind.i64.wrap (a+1)) else some (c,())
def Zsh(a:List Zh)(b:Int):Option (Int×Unit):=(Zcj a).bind fun c=>bif(!c.1)|| (decide (b< (0:Int)))then some ((-1:Int),()) else Zem (Zle b a (a.length:Int) (0:Int)) b a (a.length:Int) (0:Int)
def Zqt(a:Zp):Option (Int×Unit):=bif(a.2.2.2.2.2.2.1==3)&& (a.2.1.2.1==a.2.1.2.2.1)then some ((3:Int),()) else bif((a.2.2.2.2.2.2.1==2)|| (a.2.2.2.2.2.2.1==3))|| ((a.2.2.2.2.2.2.1==1)&& (a.1==2))then some ((2:Int),()) else bif(decide (a.2.2.2.2.2.2.2.1>(0:Int)))|| ((a.2.2.2.2.2.2.1==1)&& (a.1==1))then some ((1:Int),()) else some ((0:Int),())
abbrev Qap:List PE:=[.box 1 58 (Z6) (.u false),.val 4 (.int .i64) (.u false)]
def Zin(a:Zp)(f:Int):Option (Bool×Unit):=
 (Zsi a.2.2.1 a.2.2.2.1 a.2.2.2.2.1 a.2.1.2.2.1).bind fun b=>
 (bif b.1 then(Zsh a.2.2.2.2.1 (0:Int))else some ((0:Int),())).bind fun c=>
 (bif(b.1&& (c.1==a.2.1.2.1))then(Zdj a.2.2.2.1 a.2.2.2.2.2.2.2.1)else some (false,())).bind fun g=>
 let d:Bool:=(b.1&& (c.1==a.2.1.2.1))&& (!g.1)
 (bif d then(Zdj a.2.2.2.2.1 a.2.2.2.2.2.2.2.1)else some (false,())).bind fun h=>
 let e:Bool:=((d&& (!h.1))&& (a.2.2.2.2.2.2.2.2.1==0))&& (a.2.2.2.2.2.1==f)
 (bif e then(Zqt a)else some ((0:Int),())).bind fun i=>
 some (e&& (a.1==i.1),())
def Zoc(a:Zp):Option (Bool×Unit):=
 (Zwr a.2.1).bind fun b=>
 (bif(!b.1)then some (false,())else(Zcj a.2.2.1)).bind fun e=>
 (bif((!b.1)|| (!e.1))then some (false,())else(Zcj a.2.2.2.1)).bind fun h=>
 let c:Bool:=((!b.1)|| (!e.1))|| (!h.1)
 (bif c then some (false,())else(Zcj a.2.2.2.2.1)).bind fun f=>
 (bif(c|| (!f.1))then some (false,())else(Zy a.2.2.2.2.2.2.2.1 (0:Int) a.2.1.2.2.1)).bind fun i=>
 let d:Bool:=(c|| (!f.1))|| (!i.1)
 (bif d then some (false,())else(Xj a.2.2.2.2.2.2.2.2.1)).bind fun g=>
 (bif(d|| (!g.1))then some (false,())else(Zy a.2.2.2.2.2.2.1 (0:Int) (3:Int))).bind fun j=>
 bif(d|| (!g.1))|| (!j.1)then
  some (false,())
 else
  bif(a.1==4)|| (a.1==5)then
   some ((((((((a.2.2.1.length:Int)==(0:Int))&& ((a.2.2.2.1.length:Int)==(0:Int)))&& ((a.2.2.2.2.1.length:Int)==(0:Int)))&& (a.2.1.2.1==a.2.1.2.2.1))&& (a.2.2.2.2.2.1==a.2.2.2.2.2.2.2.1))&& (a.2.2.2.2.2.2.2.1==a.2.1.2.2.1))&& (a.2.2.2.2.2.2.1==0),())
  else
   bif a.2.2.2.2.2.2.1==0 then
    Zin a (-1:Int)
   else
    Zin a a.2.1.2.2.1
def Zob(a:Q8):Option (Bool×Unit):=(Xj a.1).bind fun b=>(bif b.1 then(Zy a.2.1 (0:Int) a.1)else some (false,())).bind fun c=>(bif(b.1&&c.1)then(Zy a.2.2.1 (-1:Int) a.1)else some (false,())).bind fun d=>(bif((b.1&&c.1)&&d.1)then(Zy a.2.2.2.1 (-1:Int) a.1)else some (false,())).bind fun e=>some (((b.1&&c.1)&&d.1)&&e.1,())
def Zct(a:Z1):Option (Int×Unit):=some (IntKind.i64.wrap (a.1+ (a.2.1.length:Int)),())
abbrev Qan:List PE:=[.val 3 (.int .i64) (.u false),.val 13 (.slice 183 (Zig)) (.u false),.val 14 (.int .i64) (.u false),.val 15 (.int .i64) (.u false)]
def Zfx(c:Int)(d:List Z1)(a b:Int):Nat:=(a-b).toNat+1
def Zil:Nat->Int->List Z1->Int->Int->Option (Bool×Unit)|0,_,_,_,_=>none|N+1,d,b,c,a=>bif decide (a<c)then Ze (0<=a/\a<b.length)<|bif((((b.getD a.toNat Qf).2.1.length:Int)==(0:Int))|| (decide ((b.getD a.toNat Qf).1<d)))|| (decide ((b.getD a.toNat Qf).1>(IntKind.i64.wrap ((4611686018427387903:Int)- ((b.getD a.toNat Qf).2.1.length:Int)))))then some (false,()) else (Zct (b.getD a.toNat Qf)).bind fun e=>Zil N (IntKind.i64.wrap (e.1+1)) b c (IntKind.i64.wrap (a+1)) else some (true,())
def Zhm(a:Zs):Option (Bool×Unit):=(Xj a.1).bind fun b=>bif !b.1 then some (false,()) else Zil (Zfx a.1 a.2.1 (a.2.1.length:Int) (0:Int)) a.1 a.2.1 (a.2.1.length:Int) (0:Int)
def Z0e(a:Zs):Option (Int×Unit):=
 (Zhm a).bind fun c=>
 bif(!c.1)|| ((a.2.1.length:Int)==(0:Int))then
  some (a.1,())
 else
  let b:Int:=IntKind.i64.wrap ((a.2.1.length:Int)- (1:Int))
  Ze (0<=b/\b<a.2.1.length)<|
  (Zct (a.2.1.getD b.toNat Qf)).bind fun d=>
  some (d.1,())
def Zov(a:Zs):Option (Int×Unit):=
 (Zhm a).bind fun c=>
 let b:Bool:=(!c.1)|| ((a.2.1.length:Int)==(0:Int))
 Ze ((b=false->(0<=(0:Int)/\(0:Int)<a.2.1.length)))<|
 bif b|| ((a.2.1.getD (0:Int).toNat Qf).1 !=a.1)then
  some ((0:Int),())
 else
  Ze (0<=(0:Int)/\(0:Int)<a.2.1.length)<|
  some (((a.2.1.getD (0:Int).toNat Qf).2.1.length:Int),())
def Zof(a:Zs):Option (Int×Unit):=(Zov a).bind fun b=>some (IntKind.i64.wrap (a.1+b.1),())
abbrev Z31:List PE:=[.box 1 63 (Z8) (.u false),.val 101 (.bool) (.u false)]
def Wm(a:Zu)(b:Bool):Option (Bool×Unit):=bif b then some ((a.2.2.1==a.2.2.2.1)&& ((a.2.1.2.1.length:Int)==(0:Int)),()) else some (false,())
def Zba(a:Zu):Option (Bool×Unit):=
 (Zhm a.2.1).bind fun d=>
 (bif(!d.1)then some ((0:Int),())else(Z0e a.2.1)).bind fun g=>
 let b:Bool:=(!d.1)|| (decide (g.1>a.2.2.2.1))
 (bif b then some (false,())else(Xj a.2.2.2.1)).bind fun e=>
 (bif(b|| (!e.1))then some (false,())else(Xj a.2.2.2.2.1)).bind fun h=>
 let f:Bool:=(b|| (!e.1))|| (!h.1)
 (bif(a.2.2.1 !=(-1:Int))then(bif f then some (false,())else(Zy a.2.2.1 a.2.2.2.1 (4611686018427387903:Int)))else some (false,())).bind fun i=>
 bif f|| ((a.2.2.1 !=(-1:Int))&& (!i.1))then
  some (false,())
 else
  (bif(a.2.2.1 !=(-1:Int))then(Zof a.2.1)else some ((0:Int),())).bind fun j=>
  let c:Bool:=(a.2.2.1 !=(-1:Int))&& (j.1==a.2.2.1)
  bif a.1==0 then
   some ((a.2.2.1==(-1:Int))&& (a.2.2.2.2.1==0),())
  else
   bif a.1==1 then
    some (((a.2.2.1 !=(-1:Int))&& (!c))&& (a.2.2.2.2.1==0),())
   else
    bif a.1==2 then
     some (c&& (a.2.2.2.2.1==0),())
    else
     bif a.1==3 then
      some ((c&& (a.2.2.2.2.1==0))&& ((a.2.1.2.1.length:Int)==(0:Int)),())
     else
      bif a.1==4 then
       Wm a (a.1==4)
      else
       Wm a (a.1==5)
def Zhn(a:Qw):Option (Bool×Unit):=
 (Zy a.2.1 (1:Int) (4096:Int)).bind fun b=>
 (bif b.1 then(Zy a.1 (1:Int) a.2.1)else some (false,())).bind fun c=>
 (bif(b.1&&c.1)then(Zy a.2.2.1 (1:Int) (4611686018427387903:Int))else some (false,())).bind fun d=>
 (bif((b.1&&c.1)&&d.1)then(Zy a.2.2.2.1 (0:Int) a.2.2.1)else some (false,())).bind fun g=>
 let e:Bool:=((b.1&&c.1)&&d.1)&&g.1
 (bif e then(Zy a.2.2.2.2.1 (0:Int) a.2.2.2.1)else some (false,())).bind fun h=>
 let f:Bool:=(e&&h.1)&& (decide (a.2.2.1<=(IntKind.i64.wrap (a.2.2.2.2.1+a.1))))
 (bif f then(Zy a.2.2.2.2.2.1 (0:Int) (1000000:Int))else some (false,())).bind fun i=>
 some (f&&i.1,())
def Zts(a:Xl):Option (Bool×Unit):=(Zy a.1 (0:Int) (7:Int)).bind fun b=>some (b.1,())
def Zod(a:Zd):Option (Bool×Unit):=
 (Xj a.1).bind fun b=>
 (bif(!b.1)then some (false,())else(Xj a.2.2.2.2.2.2.2.2.2.2.2.2.1)).bind fun e=>
 (bif((!b.1)|| (!e.1))then some (false,())else(Zoc a.2.1)).bind fun h=>
 let c:Bool:=((!b.1)|| (!e.1))|| (!h.1)
 (bif c then some (false,())else(Zob a.2.2.1)).bind fun f=>
 (bif(c|| (!f.1))then some (false,())else(Zba a.2.2.2.1)).bind fun i=>
 let d:Bool:=(c|| (!f.1))|| (!i.1)
 (bif d then some (false,())else(Zhn a.2.2.2.2.1)).bind fun g=>
 (bif(d|| (!g.1))then some (false,())else(Zts a.2.2.2.2.2.1)).bind fun j=>
 bif(d|| (!g.1))|| (!j.1)then
  some (false,())
 else
  bif(((!a.2.2.2.2.2.2.1)&& (!a.2.2.2.2.2.2.2.1))|| (decide (a.2.1.2.2.2.2.2.2.2.1>a.2.2.1.2.1)))|| (decide (a.2.2.2.1.2.2.2.1>a.2.2.2.2.1.2.2.2.1))then
   some (false,())
  else
   bif((a.2.2.2.2.2.2.2.2.1&& (a.2.1.1 !=4))|| (a.2.2.2.2.2.2.2.2.2.1&& (!a.2.2.2.2.2.2.2.2.2.2.2.1)))|| ((a.2.2.2.2.2.2.2.2.2.2.2.2.1 !=0)&& (!a.2.2.2.2.2.2.2.2.2.2.2.1))then
    some (false,())
   else
    bif(!a.2.2.2.2.2.2.1)&& (((a.2.1.1 !=0)|| (a.2.1.2.1.2.2.1 !=0))|| (a.2.1.2.2.2.2.2.1 !=(-1:Int)))then
     some (false,())
    else
     some (a.2.2.2.2.2.2.2.1|| (((a.2.2.2.1.1==0)&& (a.2.2.2.1.2.2.2.1==0))&& (!a.2.2.2.2.2.2.2.2.2.2.2.1)),())
abbrev Z3x:List PE:=[.val 0 (.slice 67 (Zw)) (.u false),.val 5 (.slice 67 (Zw)) (.u false),.val 6 (.int .i64) (.u false),.val 7 (.int .i64) (.u false)]
def Zc9(c d:List Zd)(a b:Int):Nat:=(a-b).toNat+1
def Wl:Nat->List Zd->List Zd->Int->Int->Option (Bool×Unit)
 |0,_,_,_,_=>none
 |N+1,c,b,d,a=>
  bif decide (a<d)then
   Ze (0<=a/\a<b.length)<|
   (bif(decide (a>=(24:Int)))then some (false,())else(Zod (b.getD a.toNat Zj))).bind fun f=>
   let e:Bool:=(decide (a>=(24:Int)))|| (!f.1)
   Ze ((e=false->((decide (a>(0:Int)))=true->(0<=(IntKind.i64.wrap (a-1))/\(IntKind.i64.wrap (a-1))<c.length))))<|
   bif e|| ((decide (a>(0:Int)))&& (decide ((c.getD (IntKind.i64.wrap (a-1)).toNat Zj).1>=(b.getD a.toNat Zj).1)))then
    some (false,())
   else
    Wl N c b d (IntKind.i64.wrap (a+1))
  else
   some (true,())
def Zdi(a:List Zd):Option (Bool×Unit):=Wl (Zc9 a a (a.length:Int) (0:Int)) a a (a.length:Int) (0:Int)
def Zqm(a:Zdh):Option (Bool×Unit):=(Zy a.1 (0:Int) (1152921504606846976:Int)).bind fun b=>(bif b.1 then(Zy a.2.1 (0:Int) a.1)else some (false,())).bind fun c=>(bif(b.1&&c.1)then(Zy a.2.2.1 (-1:Int) a.1)else some (false,())).bind fun d=>some ((b.1&&c.1)&&d.1,())
def Zm9(a:Q8):Option (Bool×Unit):=(Zy a.1 (0:Int) (1000:Int)).bind fun b=>(bif b.1 then(Zy a.2.1 a.1 (1152921504606846976:Int))else some (false,())).bind fun c=>(bif(b.1&&c.1)then(Zy a.2.2.1 (0:Int) a.2.1)else some (false,())).bind fun d=>(bif((b.1&&c.1)&&d.1)then(Zy a.2.2.2.1 (0:Int) a.2.2.1)else some (false,())).bind fun e=>some ((((b.1&&c.1)&&d.1)&&e.1)&& (decide (a.2.1<=(IntKind.i64.wrap (a.2.2.2.1+a.1)))),())
def Zxo(a:Int):Option (List UInt8×Unit):=bif a==4 then some (([114,101,115,101,116]:List UInt8),()) else bif a==5 then some (([115,116,111,112]:List UInt8),()) else bif a==8 then some (([115,116,114,101,97,109]:List UInt8),()) else bif a==16 then some (([109,97,120,100,97,116,97]:List UInt8),()) else bif a==17 then some (([109,97,120,115,116,114,101,97,109,100,97,116,97]:List UInt8),()) else bif a==18 then some (([109,97,120,115,116,114,101,97,109,115]:List UInt8),()) else bif a==20 then some (([100,97,116,97,98,108,111,99,107,101,100]:List UInt8),()) else bif a==21 then some (([115,116,114,101,97,109,100,97,116,97,98,108,111,99,107,101,100]:List UInt8),()) else bif a==22 then some (([115,116,114,101,97,109,115,98,108,111,99,107,101,100]:List UInt8),()) else some (([]:List UInt8),())
abbrev Zyc:List PE:=[.val 5 (.bool) (.u false)]
def V2(a:Bool):Option (Bool×Unit):=bif a then some (true,()) else some (false,())
def Zu9(a:Zi):Option (Bool×Unit):=bif a.1==4 then V2 (a.1==4) else bif a.1==5 then V2 (a.1==5) else bif a.1==8 then V2 (a.1==8) else bif a.1==17 then V2 (a.1==17) else V2 (a.1==21)
abbrev Qq1:List PE:=[.box 1 50 (Zq) (.u false),.box 2 50 (Zq) (.u false),.box 3 50 (Zq) (.u false),.val 41 (.bool) (.u false)]
def Z0i(b d a:Zi)(c:Bool):Option (Zi×Unit):=bif c then some ((a.1,(a.2.1,(a.2.2.1,(a.2.2.2.1,(a.2.2.2.2.1,(a.2.2.2.2.2.1,(b.2.2.2.2.2.2.1,(a.2.2.2.2.2.2.2.1,(b.2.2.2.2.2.2.2.2.1,a.2.2.2.2.2.2.2.2.2))))))))),()) else some ((a.1,(a.2.1,(a.2.2.1,(a.2.2.2.1,(a.2.2.2.2.1,(a.2.2.2.2.2.1,(b.2.2.2.2.2.2.1,a.2.2.2.2.2.2.2))))))),())
abbrev Qq0:List PE:=[.box 1 50 (Zq) (.u false),.box 2 50 (Zq) (.u false),.box 3 50 (Zq) (.u false)]
def Z0h(b c a:Zi):Option (Zi×Unit):=bif b.1==4 then some ((a.1,(a.2.1,(a.2.2.1,(a.2.2.2.1,(a.2.2.2.2.1,(b.2.2.2.2.2.1,(a.2.2.2.2.2.2.1,(b.2.2.2.2.2.2.2.1,a.2.2.2.2.2.2.2.2)))))))),()) else bif b.1==5 then some ((a.1,(a.2.1,(a.2.2.1,(a.2.2.2.1,(a.2.2.2.2.1,(b.2.2.2.2.2.1,a.2.2.2.2.2.2)))))),()) else bif b.1==8 then some ((a.1,(a.2.1,(b.2.2.1,(b.2.2.2.1,(b.2.2.2.2.1,a.2.2.2.2.2))))),()) else bif b.1==18 then Z0i b c a (b.1==18) else Z0i b c a (b.1==22)
def Qit(a:Zi):Option (Zi×Unit):=(Zu9 a).bind fun b=>bif b.1 then Z0h a Qr (a.1,(a.2.1,((0:Int),(([]:List UInt8),(false,((0:Int),((0:Int),((0:Int),(false,()))))))))) else Z0h a Qr (a.1,((0:Int),((0:Int),(([]:List UInt8),(false,((0:Int),((0:Int),((0:Int),(false,())))))))))
def We(a:Zi):Option (Bool×Unit):=
 (Zxo a.1).bind fun d=>
 (bif(d.1==([]:List UInt8))then some (Qr,())else(Qit a)).bind fun h=>
 let b:Bool:=(d.1==([]:List UInt8))|| (!(eqV (Zq) a h.1))
 (bif b then some (false,())else(Xj a.2.1)).bind fun e=>
 (bif(b|| (!e.1))then some (false,())else(Xj a.2.2.1)).bind fun i=>
 let c:Bool:=(b|| (!e.1))|| (!i.1)
 (bif c then some (false,())else(Xj a.2.2.2.2.2.1)).bind fun f=>
 (bif(c|| (!f.1))then some (false,())else(Xj a.2.2.2.2.2.2.1)).bind fun j=>
 let g:Bool:=(c|| (!f.1))|| (!j.1)
 (bif g then some (false,())else(Xj a.2.2.2.2.2.2.2.1)).bind fun k=>
 bif g|| (!k.1)then
  some (false,())
 else
  bif(a.1==18)|| (a.1==22)then
   some (decide (a.2.2.2.2.2.2.1<=(1152921504606846976:Int)),())
  else
   some ((decide ((a.2.2.2.1.length:Int)<=(400:Int)))&& (decide (a.2.2.1<=(IntKind.i64.wrap ((4611686018427387903:Int)- (a.2.2.2.1.length:Int))))),())
def Zqs(a:Zi):Option (Bool×Unit):=(We a).bind fun b=>some (!b.1,())
abbrev Za9:List PE:=[.val 0 (.slice 50 (Zq)) (.u false),.val 1 (.fnc 139) (.u false),.val 7 (.int .i64) (.u false),.val 8 (.int .i64) (.u false)]
def Xa(c:List Zi)(d:Unit)(a b:Int):Nat:=(a-b).toNat+1
def Qe:Nat->List Zi->Unit->Int->Int->Option (Int×Unit)|0,_,_,_,_=>none|N+1,b,e,c,a=>bif decide (a<c)then Ze (0<=a/\a<b.length)<|(Zqs (b.getD a.toNat Qr)).bind fun d=>bif d.1 then some (a,()) else Qe N b () c (IntKind.i64.wrap (a+1)) else some ((-1:Int),())
def Xr(a:List Zi):Option (Int×Unit):=Qe (Xa a () (a.length:Int) (0:Int)) a () (a.length:Int) (0:Int)
def Qu(a:List Zi):Option (Bool×Unit):=(Xr a).bind fun b=>some (decide (b.1>=(0:Int)),())
abbrev Z34:List PE:=[.val 0 (.slice 88 (Y9)) (.u false),.val 1 (.int .i64) (.u false),.val 7 (.slice 88 (Y9)) (.u false),.val 8 (.int .i64) (.u false),.val 9 (.int .i64) (.u false)]
def Zip(c:List Z9)(d:Int)(e:List Z9)(a b:Int):Nat:=(a-b).toNat+1
def Ze7:Nat->List Z9->Int->List Z9->Int->Int->Option (Bool×Unit)
 |0,_,_,_,_,_=>none
 |N+1,c,d,b,e,a=>
  bif decide (a<e)then
   Ze (0<=a/\a<b.length)<|
   (Zy (b.getD a.toNat Qk).1 (0:Int) (IntKind.i64.wrap (d-1))).bind fun f=>
   Ze (((!f.1)=false->((decide (a>(0:Int)))=true->(0<=(IntKind.i64.wrap (a-1))/\(IntKind.i64.wrap (a-1))<c.length))))<|
   let g:Bool:=(!f.1)|| ((decide (a>(0:Int)))&& (decide ((c.getD (IntKind.i64.wrap (a-1)).toNat Qk).1>=(b.getD a.toNat Qk).1)))
   (bif g then some (false,())else(Qu (b.getD a.toNat Qk).2.1)).bind fun h=>
   bif g||h.1 then
    some (false,())
   else
    Ze7 N c d b e (IntKind.i64.wrap (a+1))
  else
   some (true,())
def Ztv(a:List Z9)(b:Int):Option (Bool×Unit):=Ze7 (Zip a b a (a.length:Int) (0:Int)) a b a (a.length:Int) (0:Int)
def Zyg(a:Zd):Option (Int×Unit):=some (a.2.1.2.2.2.2.2.2.2.1,())
abbrev Zqv:List PE:=[.val 1 (.fnc 141) (.u false),.val 5 (.int .i64) (.u false),.val 11 (.slice 67 (Zw)) (.u false),.val 12 (.int .i64) (.u false),.val 13 (.int .i64) (.u false)]
def X9(c:Unit)(d:Int)(e:List Zd)(a b:Int):Nat:=(a-b).toNat+1
def Ko:Nat->Unit->Int->List Zd->Int->Int->Option (Int×Unit)|0,_,_,_,_,_=>none|N+1,f,c,b,d,a=>bif decide (a<d)then Ze (0<=a/\a<b.length)<|(Zyg (b.getD a.toNat Zj)).bind fun e=>Ko N () (min (IntKind.i64.wrap (c+e.1)) (4611686018427387904:Int)) b d (IntKind.i64.wrap (a+1)) else some (c,())
def Zea(a:List Zd):Option (Int×Unit):=(Zdi a).bind fun b=>bif !b.1 then some ((0:Int),()) else Ko (X9 () (0:Int) a (a.length:Int) (0:Int)) () (0:Int) a (a.length:Int) (0:Int)
def Zqr(a:List Zd):Option (Int×Unit):=(Zea a).bind fun b=>some (b.1,())
def Zyf(a:Zd):Option (Int×Unit):=some (a.2.2.2.1.2.2.2.1,())
abbrev Zqu:List PE:=[.val 1 (.fnc 142) (.u false),.val 5 (.int .i64) (.u false),.val 11 (.slice 67 (Zw)) (.u false),.val 12 (.int .i64) (.u false),.val 13 (.int .i64) (.u false)]
def V5(c:Unit)(d:Int)(e:List Zd)(a b:Int):Nat:=(a-b).toNat+1
def Kn:Nat->Unit->Int->List Zd->Int->Int->Option (Int×Unit)|0,_,_,_,_,_=>none|N+1,f,c,b,d,a=>bif decide (a<d)then Ze (0<=a/\a<b.length)<|(Zyf (b.getD a.toNat Zj)).bind fun e=>Kn N () (min (IntKind.i64.wrap (c+e.1)) (4611686018427387904:Int)) b d (IntKind.i64.wrap (a+1)) else some (c,())
def Zd9(a:List Zd):Option (Int×Unit):=(Zdi a).bind fun b=>bif !b.1 then some ((0:Int),()) else Kn (V5 () (0:Int) a (a.length:Int) (0:Int)) () (0:Int) a (a.length:Int) (0:Int)
def Zqq(a:List Zd):Option (Int×Unit):=(Zd9 a).bind fun b=>some (b.1,())
def Zj2(a:Zf):Option (Bool×Unit):=
 (Zmd a.2.1).bind fun b=>
 (bif(!b.1)then some (false,())else(Zmd a.2.2.1)).bind fun g=>
 (bif((!b.1)|| (!g.1))then some (false,())else(Zdi a.2.2.2.1)).bind fun n=>
 let c:Bool:=((!b.1)|| (!g.1))|| (!n.1)
 (bif c then some (false,())else(Zob a.2.2.2.2.1)).bind fun h=>
 (bif(c|| (!h.1))then some (false,())else(Zhn a.2.2.2.2.2.1)).bind fun o=>
 bif(c|| (!h.1))|| (!o.1)then
  some (false,())
 else
  (Zqm a.2.2.2.2.2.2.1).bind fun d=>
  (bif(!d.1)then some (false,())else(Zqm a.2.2.2.2.2.2.2.1)).bind fun i=>
  (bif((!d.1)|| (!i.1))then some (false,())else(Zm9 a.2.2.2.2.2.2.2.2.1)).bind fun p=>
  let j:Bool:=((!d.1)|| (!i.1))|| (!p.1)
  (bif j then some (false,())else(Zm9 a.2.2.2.2.2.2.2.2.2.1)).bind fun q=>
  bif j|| (!q.1)then
   some (false,())
  else
   (Zy a.2.2.2.2.2.2.2.2.2.2.2.2.2.1 (-1:Int) (4611686018427387903:Int)).bind fun e=>
   (bif(!e.1)then some (false,())else(Zy a.2.2.2.2.2.2.2.2.2.2.2.2.2.2.1 (0:Int) (1000000:Int))).bind fun k=>
   (bif((!e.1)|| (!k.1))then some (false,())else(Zy a.2.2.2.2.2.2.2.2.2.2.2.2.2.2.2.2.1 (0:Int) (1000000:Int))).bind fun r=>
   let l:Bool:=((!e.1)|| (!k.1))|| (!r.1)
   (bif l then some (false,())else(Zy a.2.2.2.2.2.2.2.2.2.2.2.2.2.2.2.2.2.1 (0:Int) (255:Int))).bind fun s=>
   bif l|| (!s.1)then
    some (false,())
   else
    (Ztv a.2.2.2.2.2.2.2.2.2.2.2.2.2.2.2.1 a.2.2.2.2.2.2.2.2.2.2.2.2.2.2.1).bind fun f=>
    (bif f.1 then(Zqr a.2.2.2.1)else some ((0:Int),())).bind fun m=>
    (bif(f.1&& (decide (m.1<=a.2.2.2.2.1.2.1)))then(Zqq a.2.2.2.1)else some ((0:Int),())).bind fun t=>
    some ((f.1&& (decide (m.1<=a.2.2.2.2.1.2.1)))&& (decide (t.1<=a.2.2.2.2.2.1.2.2.2.1)),())
def Zoa(a:Zf):Option (Bool×Unit):=some (a.2.2.2.2.2.2.2.2.2.2.2.2.2.2.2.2.2.1 !=0,())
def Zxp(a:Yv):Option (Yv×Unit):=Ze (([]:List Int).length+a.2.2.2.1.length<=Qo)<|some ((a.1,(a.2.1,(a.2.2.1,(([]:List Int)++a.2.2.2.1,a.2.2.2.2)))),())
def Zku(a:Zp):Option (Zp×Unit):=(Zxp a.2.1).bind fun b=>(Wg a.2.2.1).bind fun c=>(Wg a.2.2.2.1).bind fun d=>(Wg a.2.2.2.2.1).bind fun e=>some ((a.1,(b.1,(c.1,(d.1,(e.1,a.2.2.2.2.2))))),())
def Zgb(a:Zs):Option (Zs×Unit):=Ze (([]:List Z1).length+a.2.1.length<=Qo)<|some ((a.1,(([]:List Z1)++a.2.1,())),())
def Zap(a:Zu):Option (Zu×Unit):=(Zgb a.2.1).bind fun b=>some ((a.1,(b.1,a.2.2)),())
def Zgc(a:Zd):Option (Zd×Unit):=(Zku a.2.1).bind fun b=>(Zap a.2.2.2.1).bind fun c=>some ((a.1,(b.1,(a.2.2.1,(c.1,a.2.2.2.2)))),())
abbrev Z15:List PE:=[.val 3 (.slice 67 (Zw)) (.u true),.val 7 (.slice 67 (Zw)) (.u false),.val 8 (.int .i64) (.u false),.val 9 (.int .i64) (.u false)]
def Jf(c d:List Zd)(a b:Int):Nat:=(a-b).toNat+1
def Zd1:Nat->List Zd->List Zd->Int->Int->Option (List Zd×Unit)|0,_,_,_,_=>none|N+1,b,c,d,a=>bif decide (a<d)then Ze (0<=a/\a<c.length)<|(Zgc (c.getD a.toNat Zj)).bind fun e=>Ze (b.length+ ([e.1]).length<=Qo)<|Zd1 N (b++ ([e.1])) c d (IntKind.i64.wrap (a+1)) else some (b,())
def W3(a:List Zd):Option (List Zd×Unit):=Zd1 (Jf ([]:List Zd) a (a.length:Int) (0:Int)) ([]:List Zd) a (a.length:Int) (0:Int)
abbrev Z14:List PE:=[.val 3 (.slice 88 (Y9)) (.u true),.val 7 (.slice 88 (Y9)) (.u false),.val 8 (.int .i64) (.u false),.val 9 (.int .i64) (.u false)]
def Zcl(c d:List Z9)(a b:Int):Nat:=(a-b).toNat+1
def Zd0:Nat->List Z9->List Z9->Int->Int->Option (List Z9×Unit)
 |0,_,_,_,_=>none
 |N+1,c,b,d,a=>
  bif decide (a<d)then
   Ze (0<=a/\a<b.length)<|
   Ze (([]:List Zi).length+ (b.getD a.toNat Qk).2.1.length<=Qo)<|
   let e:List Z9:=[((b.getD a.toNat Qk).1,(([]:List Zi)++ (b.getD a.toNat Qk).2.1,()))]
   Ze (c.length+e.length<=Qo)<|
   Zd0 N (c++e) b d (IntKind.i64.wrap (a+1))
  else
   some (c,())
def Zr0(a:List Z9):Option (List Z9×Unit):=Zd0 (Zcl ([]:List Z9) a (a.length:Int) (0:Int)) ([]:List Z9) a (a.length:Int) (0:Int)
def Qi(a:Zf):Option (Zf×Unit):=(W3 a.2.2.2.1).bind fun b=>(Zr0 a.2.2.2.2.2.2.2.2.2.2.2.2.2.2.2.1).bind fun c=>some ((a.1,(a.2.1,(a.2.2.1,(b.1,(a.2.2.2.2.1,(a.2.2.2.2.2.1,(a.2.2.2.2.2.2.1,(a.2.2.2.2.2.2.2.1,(a.2.2.2.2.2.2.2.2.1,(a.2.2.2.2.2.2.2.2.2.1,(a.2.2.2.2.2.2.2.2.2.2.1,(a.2.2.2.2.2.2.2.2.2.2.2.1,(a.2.2.2.2.2.2.2.2.2.2.2.2.1,(a.2.2.2.2.2.2.2.2.2.2.2.2.2.1,(a.2.2.2.2.2.2.2.2.2.2.2.2.2.2.1,(c.1,a.2.2.2.2.2.2.2.2.2.2.2.2.2.2.2.2)))))))))))))))),())
abbrev Z3y:List PE:=[.val 0 (.str) (.u false),.val 1 (.int .i64) (.u false),.val 7 (.int .i64) (.u false),.val 8 (.int .i64) (.u false),.val 9 (.int .i64) (.u false)]
def Zpz(c:List UInt8)(d a e b:Int):Nat:=(a-b).toNat+1
def Ze3:Nat->List UInt8->Int->Int->Int->Int->Option (Int×Int×Bool×Unit)|0,_,_,_,_,_=>none|N+1,c,a,d,e,b=>bif decide (b<d)then Ze (0<=(8:Int))<|Ze (0<=(IntKind.i64.wrap (a+b))/\(IntKind.i64.wrap (a+b))<c.length)<|Ze3 N c a d (bits .or .i64 (IntKind.i64.wrap (e*2^ (min (8:Int).toNat IntKind.i64.bits))) (IntKind.i64.wrap ((c.getD (IntKind.i64.wrap (a+b)).toNat 0).toNat:Int))) (IntKind.i64.wrap (b+1)) else some (e,IntKind.i64.wrap (a+d),true,())
def Xe(b:List UInt8)(a:Int):Option (Int×Int×Bool×Unit):=
 (Zy a (0:Int) (IntKind.i64.wrap ((b.length:Int)- (1:Int)))).bind fun f=>
 bif !f.1 then
  some ((0:Int),(0:Int),false,())
 else
  Ze (0<=a/\a<b.length)<|
  Ze (0<=(6:Int))<|
  let d:Int:=((b.getD a.toNat 0).toNat:Int).fdiv (2^ (min (6:Int).toNat IntKind.u8.bits))
  Ze (0<=d)<|
  let c:Int:=IntKind.i64.wrap ((1:Int)*2^ (min d.toNat IntKind.i64.bits))
  bif decide ((IntKind.i64.wrap ((b.length:Int)-a))<c)then
   some ((0:Int),(0:Int),false,())
  else
   Ze (0<=a/\a<b.length)<|
   let e:Int:=IntKind.i64.wrap (bits .and .u8 ((b.getD a.toNat 0).toNat:Int) (63:Int))
   Ze3 (Zpz b a c e (1:Int)) b a c e (1:Int)
def Qqz(a:Bool):Option (Int×Unit):=bif a then some ((1:Int),()) else some ((0:Int),())
abbrev Z36:List PE:=[.val 0 (.str) (.u false),.val 1 (.int .i64) (.u false),.box 6 50 (Zq) (.u false),.box 9 50 (Zq) (.u false),.box 10 3 (.int .i64) (.u false),.val 11 (.bool) (.u false)]
def J5(d:List UInt8)(a:Int)(f c:Zi)(b:Int)(e:Bool):Option (Zi×Int×Bool×Unit):=bif(!e)|| (decide (b>(IntKind.i64.wrap ((d.length:Int)-a))))then some (Qr,(0:Int),false,()) else Ze (0<=a/\a<=(IntKind.i64.wrap (a+b))/\(IntKind.i64.wrap (a+b))<=d.length)<|some ((c.1,(c.2.1,(c.2.2.1,((d.drop a.toNat).take ((IntKind.i64.wrap (a+b)).toNat-a.toNat),c.2.2.2.2)))),IntKind.i64.wrap (a+b),true,())
abbrev Z35:List PE:=[.val 0 (.str) (.u false),.val 1 (.int .i64) (.u false),.val 2 (.int .i64) (.u false),.box 6 50 (Zq) (.u false),.box 9 50 (Zq) (.u false),.box 10 3 (.int .i64) (.u false),.val 11 (.bool) (.u false)]
def Kz(a:List UInt8)(b h:Int)(c d:Zi)(i:Int)(f:Bool):Option (Zi×Int×Bool×Unit):=
 bif !f then
  some (Qr,(0:Int),false,())
 else
  let g:Int:=IntKind.i64.wrap ((a.length:Int)-b)
  bif(bits .and .i64 h (2:Int))==2 then
   (Xe a b).bind fun e=>
   bif !e.2.2.1 then
    J5 a (0:Int) c d g false
   else
    J5 a e.2.1 c d e.1 true
  else
   J5 a b c d g f
def Zkv(b:List UInt8)(f a:Int):Option (Zi×Int×Bool×Unit):=(Xe b f).bind fun c=>bif !c.2.2.1 then bif false&& ((bits .and .i64 a (4:Int))==4)then (Xe b (0:Int)).bind fun d=>bif !d.2.2.1 then Kz b (0:Int) a Qr ((8:Int),((0:Int),((0:Int),(([]:List UInt8),((bits .and .i64 a (1:Int))==1,((0:Int),((0:Int),((0:Int),(false,()))))))))) (0:Int) false else Kz b d.2.1 a Qr ((8:Int),((0:Int),(d.1,(([]:List UInt8),((bits .and .i64 a (1:Int))==1,((0:Int),((0:Int),((0:Int),(false,()))))))))) (0:Int) true else Kz b (0:Int) a Qr ((8:Int),((0:Int),((0:Int),(([]:List UInt8),((bits .and .i64 a (1:Int))==1,((0:Int),((0:Int),((0:Int),(false,()))))))))) (0:Int) false else bif true&& ((bits .and .i64 a (4:Int))==4)then (Xe b c.2.1).bind fun e=>bif !e.2.2.1 then Kz b (0:Int) a Qr ((8:Int),(c.1,((0:Int),(([]:List UInt8),((bits .and .i64 a (1:Int))==1,((0:Int),((0:Int),((0:Int),(false,()))))))))) (0:Int) false else Kz b e.2.1 a Qr ((8:Int),(c.1,(e.1,(([]:List UInt8),((bits .and .i64 a (1:Int))==1,((0:Int),((0:Int),((0:Int),(false,()))))))))) (0:Int) true else Kz b c.2.1 a Qr ((8:Int),(c.1,((0:Int),(([]:List UInt8),((bits .and .i64 a (1:Int))==1,((0:Int),((0:Int),((0:Int),(false,()))))))))) (0:Int) true
abbrev Z7a:List PE:=[.box 4 50 (Zq) (.u false),.box 8 50 (Zq) (.u false),.val 9 (.int .i64) (.u false),.val 10 (.bool) (.u false)]
def Qt(d a:Zi)(b:Int)(c:Bool):Option (Zi×Int×Bool×Unit):=some (a,b,c,())
abbrev Z7d:List PE:=[.val 0 (.str) (.u false),.val 1 (.int .i64) (.u false),.box 4 50 (Zq) (.u false),.val 7 (.int .i64) (.u false),.box 8 50 (Zq) (.u false),.val 9 (.int .i64) (.u false),.val 10 (.bool) (.u false),.val 85 (.bool) (.u false)]
def Zaq(g:List UInt8)(h:Int)(d:Zi)(c:Int)(a:Zi)(i:Int)(j k:Bool):Option (Zi×Int×Bool×Unit):=
 bif k then
  Ze ((2:Int)≠0)<|
  (Qqz ((Int.tmod c (2:Int))==1)).bind fun l=>
  let b:Zi:=(IntKind.i64.wrap (a.1-l.1),(a.2.1,(a.2.2.1,(a.2.2.2.1,(a.2.2.2.2.1,(a.2.2.2.2.2.1,(a.2.2.2.2.2.2.1,(a.2.2.2.2.2.2.2.1,((Int.tmod c (2:Int))==1,a.2.2.2.2.2.2.2.2.2)))))))))
  (Xe g (IntKind.i64.wrap (h+1))).bind fun e=>
  bif !e.2.2.1 then
   Qt d b (0:Int) false
  else
   Qt d (b.1,(b.2.1,(b.2.2.1,(b.2.2.2.1,(b.2.2.2.2.1,(b.2.2.2.2.2.1,(e.1,b.2.2.2.2.2.2.2))))))) e.2.1 true
 else
  (Zy c (8:Int) (15:Int)).bind fun m=>
  bif m.1 then
   (Zkv g (IntKind.i64.wrap (h+1)) c).bind fun f=>
   some (f.1,f.2.1,f.2.2.1,())
  else
   Qt d a i j
abbrev Z7c:List PE:=[.val 0 (.str) (.u false),.val 1 (.int .i64) (.u false),.box 4 50 (Zq) (.u false),.val 7 (.int .i64) (.u false),.box 8 50 (Zq) (.u false),.val 9 (.int .i64) (.u false),.val 10 (.bool) (.u false),.val 24 (.int .i64) (.u false),.val 72 (.bool) (.u false)]
def Zgv(d:List UInt8)(e:Int)(b:Zi)(f:Int)(a:Zi)(g:Int)(h:Bool)(c:Int)(k:Bool):Option (Zi×Int×Bool×Unit):=bif k then (Xe d (IntKind.i64.wrap (e+1))).bind fun i=>bif !i.2.2.1 then Qt b a (0:Int) false else (Xe d i.2.1).bind fun j=>bif !j.2.2.1 then Qt b (a.1,(i.1,a.2.2)) (0:Int) false else Qt b (a.1,(i.1,(a.2.2.1,(a.2.2.2.1,(a.2.2.2.2.1,(a.2.2.2.2.2.1,(j.1,a.2.2.2.2.2.2.2))))))) j.2.1 true else bif c==18 then Zaq d e b f a g h (c==18) else bif c==19 then Zaq d e b f a g h (c==19) else bif c==22 then Zaq d e b f a g h (c==22) else Zaq d e b f a g h (c==23)
abbrev Z7b:List PE:=[.val 0 (.str) (.u false),.val 1 (.int .i64) (.u false),.box 4 50 (Zq) (.u false),.val 7 (.int .i64) (.u false),.box 8 50 (Zq) (.u false),.val 9 (.int .i64) (.u false),.val 10 (.bool) (.u false),.val 24 (.int .i64) (.u false),.val 60 (.bool) (.u false)]
def Zgu(d:List UInt8)(e:Int)(c:Zi)(g:Int)(a:Zi)(h:Int)(i:Bool)(b:Int)(j:Bool):Option (Zi×Int×Bool×Unit):=bif j then (Xe d (IntKind.i64.wrap (e+1))).bind fun f=>bif !f.2.2.1 then Qt c a (0:Int) false else Qt c (a.1,(a.2.1,(a.2.2.1,(a.2.2.2.1,(a.2.2.2.2.1,(a.2.2.2.2.2.1,(f.1,a.2.2.2.2.2.2.2))))))) f.2.1 true else bif b==17 then Zgv d e c g a h i b (b==17) else Zgv d e c g a h i b (b==21)
def Zva(b:List UInt8)(c:Int):Option (Zi×Int×Bool×Unit):=
 (Zy c (0:Int) (IntKind.i64.wrap ((b.length:Int)- (1:Int)))).bind fun i=>
 bif !i.1 then
  some (Qr,(0:Int),false,())
 else
  Ze (0<=c/\c<b.length)<|
  let a:Int:=IntKind.i64.wrap ((b.getD c.toNat 0).toNat:Int)
  bif a==4 then
   (Xe b (IntKind.i64.wrap (c+1))).bind fun d=>
   bif !d.2.2.1 then
    Qt Qr (a,((0:Int),((0:Int),(([]:List UInt8),(false,((0:Int),((0:Int),((0:Int),(false,()))))))))) (0:Int) false
   else
    (Xe b d.2.1).bind fun e=>
    bif !e.2.2.1 then
     Qt Qr (a,(d.1,((0:Int),(([]:List UInt8),(false,((0:Int),((0:Int),((0:Int),(false,()))))))))) (0:Int) false
    else
     (Xe b e.2.1).bind fun g=>
     bif !g.2.2.1 then
      Qt Qr (a,(d.1,((0:Int),(([]:List UInt8),(false,(e.1,((0:Int),((0:Int),(false,()))))))))) (0:Int) false
     else
      Qt Qr (a,(d.1,((0:Int),(([]:List UInt8),(false,(e.1,((0:Int),(g.1,(false,()))))))))) g.2.1 true
  else
   bif a==5 then
    (Xe b (IntKind.i64.wrap (c+1))).bind fun f=>
    bif !f.2.2.1 then
     Qt Qr (a,((0:Int),((0:Int),(([]:List UInt8),(false,((0:Int),((0:Int),((0:Int),(false,()))))))))) (0:Int) false
    else
     (Xe b f.2.1).bind fun h=>
     bif !h.2.2.1 then
      Qt Qr (a,(f.1,((0:Int),(([]:List UInt8),(false,((0:Int),((0:Int),((0:Int),(false,()))))))))) (0:Int) false
     else
      Qt Qr (a,(f.1,((0:Int),(([]:List UInt8),(false,(h.1,((0:Int),((0:Int),(false,()))))))))) h.2.1 true
   else
    bif a==16 then
     Zgu b c Qr a (a,((0:Int),((0:Int),(([]:List UInt8),(false,((0:Int),((0:Int),((0:Int),(false,()))))))))) (0:Int) false a (a==16)
    else
     Zgu b c Qr a (a,((0:Int),((0:Int),(([]:List UInt8),(false,((0:Int),((0:Int),((0:Int),(false,()))))))))) (0:Int) false a (a==20)
def Zm5(b:List UInt8)(c:Int):Option (Zi×Int×Bool×Unit):=(Zva b c).bind fun a=>(bif(!a.2.2.1)then some (false,())else(We a.1)).bind fun d=>bif(!a.2.2.1)|| (!d.1)then some (Qr,(0:Int),false,()) else some (a.1,a.2.1,true,())
abbrev Zya:List PE:=[.val 0 (.str) (.u false),.val 4 (.slice 50 (Zq)) (.u true),.val 5 (.int .i64) (.u false)]
def Zmb(a:List UInt8)(c:List Zi)(b:Int):Nat:=((a.length:Int)-b).toNat+1
def V1:Nat->List UInt8->List Zi->Int->Option (List Zi×Bool×Unit)|0,_,_,_=>none|N+1,a,c,b=>bif decide (b< (a.length:Int))then Ze (0<=b/\b<a.length)<|bif((a.getD b.toNat 0).toNat:Int)==(0:Int)then V1 N a c (IntKind.i64.wrap (b+1)) else (Zm5 a b).bind fun d=>bif !d.2.2.1 then some (([]:List Zi),false,()) else Ze (c.length+ ([d.1]).length<=Qo)<|V1 N a (c++ ([d.1])) d.2.1 else (Zy (a.length:Int) (1:Int) (400:Int)).bind fun e=>some (c,e.1,())
def Zpe(a:List UInt8):Option (List Zi×Bool×Unit):=V1 (Zmb a ([]:List Zi) (0:Int)) a ([]:List Zi) (0:Int)
end Go.Proofs.YtgepmefongfeeaaGreat
